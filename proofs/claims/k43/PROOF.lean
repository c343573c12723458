import PyProof.Rows.All
import Wide.All
import OpenK.AllK
import Wide.FinOn
import HandS.ForMost
import HandS.Exc
import HandS.ExcOwn
import HandS.WordsExc
import HandS.TryOnly
import HandS.ExcInit
import HandS.ExcField
import HandS.ExcIs
import HandS.IsInst
import HandS.TryMany
import HandS.Wide
import HandS.Steps
import HandS.TupAny
import HandS.Walk
import HandS.Evl
import KE.GoesEnum
import KE.KExcIs
import HandS.Conv
import HandS.Defaults
import HandS.Deep
import PyProof.EnumMake
import KE.GoesMore
import HandS.Replace
import HandS.ReplaceLit
import HandS.RaiseMore
import PyProof.ReprBulk
import HandS.IterVal
import PyProof.ReprReads
import KE.KRevSl
import PyProof.Rows.StrSplitCount
import PyProof.FitsStr
import PySem.Challenge.RW_falseglim_k43_order_lines
import KE.IntTextLaws
set_option Elab.async false
set_option linter.all false
set_option maxRecDepth 100000
set_option maxHeartbeats 4000000
/-! Rules that ask nothing of the kinds: one rule for each sign of Python, its reading told by the values. -/
namespace Fg
open PySem PySem.Spec PyProof.Rows L2

/-- a text by its signs -/
def S (l : List Nat) : V := .str ⟨l.toArray⟩
theorem S_inj {l m : List Nat} : S l = S m ↔ l = m := by
  constructor
  · intro h
    have h1 := V.str.inj h
    have h2 := congrArg PySem.Str.cps h1
    exact List.toArray_inj h2
  · rintro rfl; rfl
theorem S_dec {l m : List Nat} : decide (S l = S m) = decide (l = m) := by
  rw [Bool.eq_iff_iff]; simp [S_inj]
theorem str_len (l : List Nat) : (⟨l.toArray⟩ : Str).length = l.length := by
  show l.toArray.size = l.length
  simp
theorem pe_S {X : Cx} {x : Str} {j : Nat} {pos : Pos} (l : List Nat) (h : x = ⟨l.toArray⟩ := by decide +kernel) : PE X (.Constant (.str x) j pos) (tC (S l)) := by
  subst h
  exact pe_str

/-! ### either of two readings -/
def or2 (r r' : R2) : R2 := fun x y H Q => r x y H Q ∨ r' x y H Q
theorem or2_op {X : Cx} {f : Value → Value → Sem Value} {r r' : R2} (h : OpR X f r) (h' : OpR X f r') : OpR X f (or2 r r') := by
  intro pins s σ H x y v u Q I rx ry q
  rcases q with q | q
  · exact h pins s σ H x y v u Q I rx ry q
  · exact h' pins s σ H x y v u Q I rx ry q
theorem or2_ix {X : Cx} {r r' : R2} (h : IxR X r) (h' : IxR X r') : IxR X (or2 r r') := by
  intro value slice pins s σ H x y v u Q I rx ry q hs
  rcases q with q | q
  · exact h value slice pins s σ H x y v u Q I rx ry q hs
  · exact h' value slice pins s σ H x y v u Q I rx ry q hs
abbrev RC := List V → Hp → VK → Prop
def orC (r r' : RC) : RC := fun xs H Q => r xs H Q ∨ r' xs H Q
theorem orC_call {X : Cx} {f : Value} {r r' : RC} (h : CallR X f r) (h' : CallR X f r') : CallR X f (orC r r') := by
  intro pins s σ H xs us Q I rx q
  rcases q with q | q
  · exact h pins s σ H xs us Q I rx q
  · exact h' pins s σ H xs us Q I rx q
abbrev RS := V → Option Int → Option Int → Hp → VK → Prop
def orS (r r' : RS) : RS := fun x lo hi H Q => r x lo hi H Q ∨ r' x lo hi H Q
theorem orS_sl {X : Cx} {r r' : RS} (h : SlR X r) (h' : SlR X r') : SlR X (orS r r') := by
  intro pins s σ H x v vl vu lo hi sl Q I rx hs pl pu q
  rcases q with q | q
  · exact h pins s σ H x v vl vu lo hi sl Q I rx hs pl pu q
  · exact h' pins s σ H x v vl vu lo hi sl Q I rx hs pl pu q

/-! ### + - * // % ** -/
def rAddI : R2 := rI0 fun i j => .int (i + j)
def rAddT : R2 := fun x y H Q => ∃ i j, x = .str i ∧ y = .str j ∧ i.length + j.length ≤ sizeLine ∧ Q (.str (i ++ j)) H
def addP (K : PySem.W.Frag) : R2 := or2 rAddI (or2 rAddT (or2 rCat (rCatA K)))
theorem op_addP {X : Cx} : OpR X (binaryOp .Add) (addP X.K) := or2_op op_add (or2_op op_add_str (or2_op op_cat op_catA))
def subP : R2 := rI0 fun i j => .int (i - j)
theorem op_subP {X : Cx} : OpR X (binaryOp .Sub) subP := op_sub
/-- a text so many times -/
def rRepS : R2 := fun x y H Q => ∃ (l : List Nat) (n : Nat), x = S l ∧ y = .int (n : Int) ∧ l.length * n ≤ 100000 ∧ n ≤ 100000 ∧ Q (S (List.replicate n l).flatten) H
theorem foldl_app (l : List Nat) : ∀ (n : Nat) (acc : List Nat), (List.replicate n l.toArray).foldl (· ++ ·) acc.toArray = (acc ++ (List.replicate n l).flatten).toArray
  | 0, acc => by simp
  | n + 1, acc => by
    rw [List.replicate_succ, List.foldl_cons, List.append_toArray, foldl_app l n (acc ++ l), List.replicate_succ, List.flatten_cons, List.append_assoc]
theorem op_repS {X : Cx} : OpR X (binaryOp .Mult) rRepS := by
  intro pins s σ H x y v u Q I rx ry h
  obtain ⟨l, n, rfl, rfl, hz, hn, q⟩ := h
  obtain ⟨t, rfl⟩ := rx
  obtain ⟨t', rfl⟩ := ry
  have hl := str_len l
  have hs : sizeLine = 16777216 := sizeLine_eq
  refine PySem.P.mul_str ?_ (fun h1 h2 => ?_) (fun h1 h2 => ?_) ?_
  · rw [decide_eq_false (by omega), decide_eq_false (by omega)]; rfl
  · rw [hl]
    have hn0 : (0 : Int) < (n : Int) := by omega
    have : ((l.length : Int)) ≤ (2 ^ 63 - 1) / (n : Int) := by
      rw [Int.le_ediv_iff_mul_le hn0]
      have : ((l.length * n : Nat) : Int) ≤ 100000 := by omega
      rw [Int.natCast_mul] at this
      omega
    omega
  · rw [hl, Int.toNat_natCast]
    unfold PySem.Builtin.Str.tooLong
    rw [decide_eq_false]
    omega
  · by_cases h1 : (n : Int) < 1
    · rw [if_pos h1]
      have e : n = 0 := by omega
      subst e
      exact ⟨by decide, S [], H, I.tok _, ⟨_, rfl⟩, by simpa using q⟩
    · rw [if_neg h1]
      by_cases h2 : ((n : Int) == 1 || (⟨l.toArray⟩ : Str).length == 0) = true
      · rw [if_pos h2]
        have e : (List.replicate n l).flatten = l := by
          rw [hl, Bool.or_eq_true, beq_iff_eq, beq_iff_eq] at h2
          rcases h2 with h2 | h2
          · have e : n = 1 := by omega
            subst e; simp
          · have e : l = [] := List.length_eq_zero_iff.mp h2
            subst e; simp
        rw [e] at q
        exact ⟨S l, H, I, ⟨_, rfl⟩, q⟩
      · rw [if_neg h2]
        have e : (⟨(List.replicate ((n : Int)).toNat l.toArray).foldl (· ++ ·) #[]⟩ : Str) = ⟨((List.replicate n l).flatten).toArray⟩ := by
          rw [Int.toNat_natCast]
          have := foldl_app l n []
          simpa using this
        refine ⟨?_, S (List.replicate n l).flatten, H, I.tok _, ⟨_, by rw [e]⟩, q⟩
        rw [e, str_len]
        simp only [List.length_flatten, List.map_replicate, List.sum_replicate_nat]
        rw [Nat.mul_comm]
        omega
def rMulI : R2 := rI (fun i j => IntMulOk i j) fun i j => .int (i * j)
theorem op_mulI {X : Cx} : OpR X (binaryOp .Mult) rMulI := opI fun _ _ _ _ _ _ _ hc q => mul_int q hc
def mulP : R2 := or2 rMulI (or2 rRepS rRep)
theorem op_mulP {X : Cx} : OpR X (binaryOp .Mult) mulP := or2_op op_mulI (or2_op op_repS op_rep)
def modP : R2 := rI (fun _ j => 0 < j) fun i j => .int (i % j)
theorem op_modP {X : Cx} : OpR X (binaryOp .Mod) modP := op_mod
def fdivP : R2 := rI CDivW fun i j => .int (i / j)
theorem op_fdivP {X : Cx} : OpR X (binaryOp .FloorDiv) fdivP := op_fdivW
/-- i ** j, the result below some hundred million bits -/
def powP : R2 := rI (fun i j => 0 ≤ j ∧ (Builtin.Int.intBits i : Int) * j ≤ 2 ^ 27) fun i j => .int (i ^ j.toNat)
theorem op_powP {X : Cx} : OpR X (binaryOp .Pow) powP := opI fun _ _ _ _ _ _ _ hc q => pow_int hc.1 hc.2 q
/-! ### comparisons -/
def eqP (K : PySem.W.Frag) : R2 := or2 rEq (rEqD K)
theorem op_eqP {X : Cx} (hu : X.A.units + 64 < cLine) : OpR X (compareOp .Eq) (eqP X.K) := or2_op op_eq (op_eqD hu)
def neP (K : PySem.W.Frag) : R2 := or2 rNe (rNeD K)
theorem op_neP {X : Cx} (hu : X.A.units + 64 < cLine) : OpR X (compareOp .NotEq) (neP X.K) := or2_op op_ne (op_neD hu)
def ltP : R2 := or2 (rI0 fun i j => .bl (decide (i < j))) fun x y H Q => ∃ i j, x = .str i ∧ y = .str j ∧ Q (.bl (decide (i.cps.toList < j.cps.toList))) H
theorem op_ltP {X : Cx} : OpR X (compareOp .Lt) ltP := or2_op op_lt op_lt_str
def leP : R2 := rI0 fun i j => .bl (decide (i ≤ j))
theorem op_leP {X : Cx} : OpR X (compareOp .LtE) leP := op_le
def gtP : R2 := rI0 fun i j => .bl (decide (j < i))
theorem op_gtP {X : Cx} : OpR X (compareOp .Gt) gtP := op_gt
def geP : R2 := rI0 fun i j => .bl (decide (j ≤ i))
theorem op_geP {X : Cx} : OpR X (compareOp .GtE) geP := op_ge
def isP : R2 := fun x y H Q => y = .non ∧ Q (.bl (decide (x = .non))) H
theorem op_isP {X : Cx} : OpR X (compareOp .Is) isP := op_isN
def isNotP : R2 := fun x y H Q => y = .non ∧ Q (.bl (!decide (x = .non))) H
theorem op_isNotP {X : Cx} : OpR X (compareOp .IsNot) isNotP := op_notN
def rInSg : R2 := fun x y H Q => ∃ (c : Nat) (z : Str), x = .str ⟨#[c]⟩ ∧ y = .str z ∧ Q (.bl (decide (c ∈ z.cps.toList))) H
def rNotInSg : R2 := fun x y H Q => ∃ (c : Nat) (z : Str), x = .str ⟨#[c]⟩ ∧ y = .str z ∧ Q (.bl (!decide (c ∈ z.cps.toList))) H
def inP (K : PySem.W.Frag) : R2 := or2 rInSg (rIn K false)
theorem op_inP {X : Cx} : OpR X (compareOp .In) (inP X.K) := or2_op op_in_sign op_in_seq
def notInP (K : PySem.W.Frag) : R2 := or2 rNotInSg (rIn K true)
theorem op_notInP {X : Cx} : OpR X (compareOp .NotIn) (notInP X.K) := or2_op op_notIn_sign op_notIn_seq
/-! ### subscripts, slices -/
def ixP (K : PySem.W.Frag) : R2 := or2 (rIxL K) (or2 (rIxT K) rIxS)
theorem ix_P {X : Cx} : IxR X (ixP X.K) := or2_ix ix_list (or2_ix ix_tup ix_str)
def slP (K : PySem.W.Frag) : RS := orS (rSlL K) (orS (rSlA K) rSlS)
theorem sl_P {X : Cx} : SlR X (slP X.K) := orS_sl sl_list (orS_sl sl_tupA sl_str)
/-! ### what is walked -/
def iAny (K : PySem.W.Frag) (te : TE) : TI := fun σ H R => te σ H fun x H1 => (∃ a xs, x = .ref a ∧ SqL K H1 a xs ∧ R (Itl K a) H1) ∨ (∃ a xs, x = .ref a ∧ SqT K H1 a xs ∧ R (Itt K a) H1) ∨ (∃ z, x = .str z ∧ R (Its z) H1)
section
variable {X : Cx} {tg e : Expr} {te : TE}
theorem pi_any (he : PE X e te) : PI X tg e (iAny X.K te) := by
  refine ⟨fun pins s σ H R I h => thn (he.run pins s σ H _ I h) fun v s1 ⟨x, H1, J, r1, q1⟩ => ?_⟩
  rcases q1 with ⟨a, xs, rfl, hq, q⟩ | ⟨a, xs, rfl, hq, q⟩ | ⟨z, rfl, q⟩
  · cases r1
    obtain ⟨its, rv, pl, hz⟩ := J.list hq
    exact wpAny_pyIter_list pl.isList (pi_one (tk := s1.toks) J _ (turn_list a _) ⟨_, Heap.get?_push_size _ rfl, rfl, rfl⟩ q)
  · cases r1
    obtain ⟨its, rv, pl, hz⟩ := J.tuple hq
    exact wpAny_pyIter_tuple (show s1.heap.IsTuple a its.toArray from pl) (pi_one (tk := s1.toks) J _ (turn_tuple a _) ⟨_, Heap.get?_push_size _ rfl, rfl, rfl⟩ q)
  · obtain ⟨t, rfl⟩ := r1
    cases hw : z.cps.all (· < 128)
    · exact wpAny_pyIter_wide hw (pi_one (tk := s1.toks) J _ (turn_str _ z t "str_iterator" (.inr rfl)) ⟨_, Heap.get?_push_size _ rfl, rfl, rfl⟩ q)
    · exact wpAny_pyIter_ascii hw (pi_one (tk := s1.toks) J _ (turn_str _ z t "str_ascii_iterator" (.inl rfl)) ⟨_, Heap.get?_push_size _ rfl, rfl, rfl⟩ q)
end
/-! ### enumerate(a text) -/
/-- the signs of z, each in a new pair with its place -/
def Ites (z : Str) : It :=
  ⟨fun i _ => i < z.cps.size, fun i H v H' => ∃ T c, v = .ref T ∧ H T = none ∧ H' = upd H T (.tup [.int (i : Nat), .str ⟨#[c]⟩]) ∧ z.cps[i]? = some c, fun i _ => i = z.cps.size⟩
theorem turn_enumS {P : Program} {w : World} {K : PySem.W.Frag} {elts : List Expr} {kk : Nat} {tpos : Pos} (z : Str) (t : Tok) (e it : Addr) :
    Turn P w K (.Tuple elts kk tpos) (Ites z) [e, it] e (fun i h => (∃ old, IsEnum h e it ((i : Nat) : Int) old) ∧ h.IsStrIter it (strIterType z) z t i ∧ e ≠ it) where
  mem := List.mem_cons_self ..
  obj := fun i h st b hb => by
    obtain ⟨⟨old, hE⟩, ⟨o, hO, hC, hD⟩, _⟩ := st
    rcases List.mem_cons.mp hb with rfl | hb
    · exact ⟨_, hE, fun v q => nomatch q⟩
    · rw [List.mem_singleton.mp hb]
      exact ⟨o, hO, fun v q => by rw [hD] at q; cases q⟩
  keep := fun i h h' st k => by
    obtain ⟨⟨old, hE⟩, ⟨o, hO, r⟩, hne⟩ := st
    exact ⟨⟨old, k e (by simp) _ hE⟩, ⟨o, k it (by simp) _ hO, r⟩, hne⟩
  item := by
    intro X hP hW hK hc i pins s σ H E I hf st hg
    subst hP hW hK
    obtain ⟨⟨old, hE⟩, hS, hne⟩ := st
    have le : e < s.heap.objs.size := Heap.lt_size hE
    have li : it < s.heap.objs.size := by obtain ⟨_, q, _⟩ := hS; exact Heap.lt_size q
    have D := Draws.text (prog := X.prog) (w := X.w) (A := X.A.in1) (I.ok.hd hc) it z t
    refine wpAny_pyNext_enum_itemC D hE hS hg hne (by simp [hne]) fun x h' tk hx hO hS' hT hsz hk => ?_
    obtain ⟨c, u, hcx, rfl⟩ := hx
    refine ⟨_, rfl, wpAny_letOwnedTupleGo_enum (s := { s with heap := h', toks := tk + 1 }) hO fun h2 hE2 sb => ?_⟩
    have T2 : h2.get? s.heap.objs.size = some { cls := .type "tuple", data := .seq #[.int i tk, .str ⟨#[c]⟩ u] } := (sb.2 _ (Nat.ne_of_gt le)).trans hT
    have new : ObjOk X.prog X.w (upd H s.heap.objs.size (.tup [.int (i : Nat), .str ⟨#[c]⟩])) h2 s.heap.objs.size (.tup [.int (i : Nat), .str ⟨#[c]⟩]) :=
      ⟨by show 2 ≤ sizeLine; decide, [.int i tk, .str ⟨#[c]⟩ u], .cons ⟨_, rfl⟩ (.cons ⟨_, rfl⟩ .nil), ⟨_, T2, rfl, _, rfl⟩⟩
    have J : Inv X pins σ (upd H s.heap.objs.size (.tup [.int (i : Nat), .str ⟨#[c]⟩])) { s with heap := h2, toks := tk + 1 } :=
      I.turnedNew (ch := [e, it]) (fun b ob hb q => (sb.2 b (fun y => hb (by simp [y]))).trans (hk b ob (fun y => hb (by simp [y])) (fun y => hb (by simp [y])) q)) hf (Nat.le_refl _) new
    refine ⟨.ref s.heap.objs.size, _, J, rfl, ⟨_, c, rfl, I.hok.fresh (Nat.le_refl _), rfl, hcx⟩, ⟨⟨.str ⟨#[c]⟩ u, ?_⟩, ?_, hne⟩, fun b hb => ?_⟩
    · have e1 : ((i + 1 : Nat) : Int) = (i : Int) + 1 := by omega
      rw [e1]
      exact hE2
    · obtain ⟨o, ho, r⟩ := hS'
      exact ⟨o, (sb.2 it (Ne.symm hne)).trans ho, r⟩
    · have lb : b < s.heap.objs.size := by
        rcases List.mem_cons.mp hb with rfl | hb
        · exact le
        · rw [List.mem_singleton.mp hb]; exact li
      rw [upd_ne (Nat.ne_of_lt lb)]
      exact (hf b hb).1
  done := by
    intro X hP hW hK hc i pins s σ H E I hf st hg
    subst hP hW hK
    obtain ⟨⟨old, hE⟩, hS, hne⟩ := st
    obtain ⟨f0, f1, f2, f3, f4, f5⟩ := hf it (by simp)
    have D := Draws.text (prog := X.prog) (w := X.w) (A := X.A.in1) (I.ok.hd hc) it z t
    have hg' : i = z.cps.size := hg
    subst hg'
    exact wpAny_pyNext_enum_endD D hE hS fun h' eb => ⟨rfl, I.turned (t' := s.toks) (fun b o hb q => eb b o hb q) f0 f1 f3 f4 f5⟩
  self := fun A i s Q E st h => by
    obtain ⟨⟨_, hE⟩, _⟩ := st
    exact wpAny_pyIter_enum hE h
def iEnumP (K : PySem.W.Frag) (ta : TA) : TI := fun σ H R => ta σ H fun vs H1 => (∃ a xs, vs = [.ref a] ∧ SqL K H1 a xs ∧ R (Ite K a) H1) ∨ (∃ z, vs = [.str z] ∧ R (Ites z) H1)
theorem pi_enumP {X : Cx} {e : Expr} {ta : TA} {p pos tpos : Pos} {elts : List Expr} {kk : Nat} (hg : Gl X "enumerate") (hm : X.mg "enumerate" = none) (ha : PA X [e] ta) (hs : starEach [e] X.env = [(false, eval e X.env)] := by rfl) :
    PI X (.Tuple elts kk tpos) (.Call (.Name "enumerate" p) [e] [] pos) (iEnumP X.K ta) := by
  refine ⟨fun pins s σ H R I h => Call_ (ld_blt I hg hm boot_enumerate (PyProof.Rows.callWith_type1 (thn (ha.run pos pins s σ H _ I h) fun us s1 ⟨vs, H1, J, r1, q1⟩ => ?_) hs rfl))⟩
  have far : ∀ b ∈ [s1.heap.objs.size + 1, s1.heap.objs.size], s1.heap.objs.size ≤ b := fun b hb => by
    rcases List.mem_cons.mp hb with rfl | hb
    · exact Nat.le_succ _
    · rw [List.mem_singleton.mp hb]; exact Nat.le_refl _
  rcases q1 with ⟨a, xs, rfl, hq, q⟩ | ⟨z, rfl, q⟩
  · cases r1 with
    | cons r rr =>
      cases rr
      cases r
      obtain ⟨its, rv, pl, hz⟩ := J.list hq
      refine call_enumerate_list pl.isList fun h' hE hit hsz hk => wpAny_pyIter_enum hE ?_
      have J2 : Inv X pins σ H1 { s1 with heap := h' } := J.kept (t' := s1.toks) hk
      exact ⟨_, _, _, _, H1, rfl, J2, turn_enum a (s1.heap.objs.size + 1) s1.heap.objs.size, ⟨⟨.none, hE⟩, hit, Nat.succ_ne_self _⟩, fun b hb => J.fpOk (far b hb) (J.hok.fresh (far b hb)), q⟩
  · cases r1 with
    | cons r rr =>
      cases rr
      obtain ⟨t, rfl⟩ := r
      refine call_enumerate_str fun h' hE hit hsz hk => wpAny_pyIter_enum hE ?_
      have J2 : Inv X pins σ H1 { s1 with heap := h' } := J.kept (t' := s1.toks) hk
      exact ⟨_, _, _, _, H1, rfl, J2, turn_enumS z t (s1.heap.objs.size + 1) s1.heap.objs.size, ⟨⟨.none, hE⟩, hit, Nat.succ_ne_self _⟩, fun b hb => J.fpOk (far b hb) (J.hok.fresh (far b hb)), q⟩
end Fg
/-! Steps: what a reading asks, one sign of Python at a time. -/
namespace Fg
open PySem PySem.Spec PyProof.Rows L2
section
variable {K : PySem.W.Frag} {σ : L2.St} {H : Hp} {Q : VK} {D : Ends} {ta tb tc te : TE} {t u : TT} {i j : Nat} {v x y : V} {tr tq : TS} {QB : Bool → Hp → Prop} {QL : List V → Hp → Prop} {Qs : L2.St → Hp → Prop} {tl : TA}
theorem i_var (h : σ[i]? = some (some v)) (q : Q v H) : tVar i σ H Q := ⟨v, h, q⟩
theorem i_c (q : Q v H) : tC v σ H Q := q
theorem i_seq (q : tr { D with nx := tq D } σ H) : tSeq tr tq D σ H := q
theorem i_next (q : D.nx σ H) : tNext D σ H := q
theorem i_brk (q : D.bk σ H) : tBreak D σ H := q
theorem i_cont (q : D.ct σ H) : tCont D σ H := q
theorem i_asg {g : TG} (q : te σ H fun x H1 => g x σ H1 D.nx) : tAsg te g D σ H := q
theorem i_gname (q : Qs (σ.set i (some v)) H) : gName i v σ H Qs := q
theorem i_gname' {σ' : L2.St} (e : σ.set i (some v) = σ') (q : Qs σ' H) : gName i v σ H Qs := by
  subst e; exact q
theorem i_ret (q : te σ H D.rt) : tRet te D σ H := q
theorem i_retN (q : D.rt .non H) : tRetN D σ H := q
theorem i_drop (q : te σ H fun _ H1 => D.nx σ H1) : tDrop te D σ H := q
theorem i_ifS (q : t σ H fun b H1 => if b = true then tr D σ H1 else tq D σ H1) : tIfS t tr tq D σ H := q
theorem i_test (q : te σ H fun x H' => ∃ k, x = .bl k ∧ QB k H') : tTest te σ H QB := q
theorem i_B (q : te σ H fun x H' => ∃ k, x = .bl k ∧ QB k H') : tB te σ H QB := q
theorem i_exbl {P : Bool → Prop} {b : Bool} (q : P b) : ∃ k, V.bl b = .bl k ∧ P k := ⟨b, rfl, q⟩
theorem i_and (q : t σ H fun c H1 => if c = true then u σ H1 QB else QB false H1) : tAnd t u σ H QB := q
theorem i_or (q : t σ H fun c H1 => if c = true then QB true H1 else u σ H1 QB) : tOr t u σ H QB := q
theorem i_not (q : t σ H fun c H1 => QB (!c) H1) : tNot t σ H QB := q
theorem i_andV (q : ta σ H fun x H1 => ∃ c, x = .bl c ∧ if c = true then tb σ H1 Q else Q (.bl false) H1) : tAndV ta tb σ H Q := q
theorem i_orV (q : ta σ H fun x H1 => ∃ c, x = .bl c ∧ if c = true then Q (.bl true) H1 else tb σ H1 Q) : tOrV ta tb σ H Q := q
theorem i_notV (q : ta σ H fun x H1 => ∃ c, x = .bl c ∧ Q (.bl (!c)) H1) : tNotV ta σ H Q := q
theorem i_ifE (q : t σ H fun c H1 => if c = true then ta σ H1 Q else tb σ H1 Q) : tIf t ta tb σ H Q := q
theorem i_op {r : R2} (q : ta σ H fun x H1 => tb σ H1 fun y H2 => r x y H2 Q) : tOp r ta tb σ H Q := q
theorem i_un {r : V → Hp → VK → Prop} (q : ta σ H fun x H1 => r x H1 Q) : tUn r ta σ H Q := q
theorem i_neg {k : Int} (q : Q (.int (-k)) H) : rU (fun i => .int (-i)) (.int k) H Q := ⟨k, rfl, q⟩
theorem i_chain {r r' : R2} (q : ta σ H fun x H1 => tb σ H1 fun y H2 => r x y H2 fun z H3 => ∃ k, z = .bl k ∧ (if k = true then tc σ H3 fun w' H4 => r' y w' H4 Q else Q (.bl false) H3)) : tChain r r' ta tb tc σ H Q := q
theorem i_nil (q : QL [] H) : tNil σ H QL := q
theorem i_cons (q : te σ H fun x H1 => tl σ H1 fun xs H2 => QL (x :: xs) H2) : tCons te tl σ H QL := q
theorem i_call {sp : Sp} {E : XK} (q : tl σ H fun vs H1 => sp (vs ++ []) H1 Q E) : tCall sp [] E tl σ H Q := q
theorem i_callS {sp : Sp} {E : L2.St → XK} (q : tl σ H fun vs H1 => sp vs H1 Q (E σ)) : tCallS sp E tl σ H Q := q
theorem i_cb {r : RC} (q : tl σ H fun vs H1 => r vs H1 Q) : tCB r tl σ H Q := q
theorem i_tup (q : tl σ H fun xs H1 => xs.length ≤ sizeLine ∧ ∀ p, H1 p = none → Q (.ref p) (upd H1 p (.tup xs))) : tTup tl σ H Q := q
theorem i_lst (q : tl σ H fun xs H1 => xs.length ≤ sizeLine ∧ ∀ p, H1 p = none → Q (.ref p) (upd H1 p (.lst xs))) : tLst tl σ H Q := q
theorem i_new {n : Nat} {P : Addr → Prop} (h : n ≤ 100000) (q : ∀ p, H p = none → P p) : n ≤ sizeLine ∧ ∀ p, H p = none → P p := ⟨Nat.le_trans h (by decide), q⟩
theorem i_sl {r : RS} {t1 t2 : TO} (q : te σ H fun x H1 => t1 σ H1 fun l H2 => t2 σ H2 fun u H3 => r x l u H3 Q) : tSl r te t1 t2 σ H Q := q
theorem i_nopart {QO : Option Int → Hp → Prop} (q : QO none H) : tNoPart σ H QO := q
theorem i_part {QO : Option Int → Hp → Prop} (q : te σ H fun x H1 => ∃ i, x = .int i ∧ QO (some i) H1) : tPart te σ H QO := q
theorem i_exint {P : Int → Prop} {k : Int} (q : P k) : ∃ i, V.int k = .int i ∧ P i := ⟨k, rfl, q⟩
theorem i_dec {c : Prop} [Decidable c] {A B : Prop} (h1 : c → A) (h2 : ¬ c → B) : if decide c = true then A else B := by
  by_cases h : c
  · rw [decide_eq_true h, if_pos rfl]; exact h1 h
  · rw [decide_eq_false h, if_neg (by decide)]; exact h2 h
theorem i_decN {c : Prop} [Decidable c] {A B : Prop} (h1 : ¬ c → A) (h2 : c → B) : if (!decide c) = true then A else B := by
  by_cases h : c
  · rw [decide_eq_true h]; exact h2 h
  · rw [decide_eq_false h]; exact h1 h
theorem i_bool {b : Bool} {A B : Prop} (h1 : b = true → A) (h2 : b = false → B) : if b = true then A else B := by
  cases b with
  | true => exact h1 rfl
  | false => exact h2 rfl
theorem i_tt {A B : Prop} (h : A) : if true = true then A else B := h
theorem i_ff {A B : Prop} (h : B) : if false = true then A else B := h
theorem i_nott {A B : Prop} (h : B) : if (!true) = true then A else B := h
theorem i_notf {A B : Prop} (h : A) : if (!false) = true then A else B := h
/-! values -/
variable {a b : Int} {l m : List Nat}
theorem i_add_int (q : Q (.int (a + b)) H) : addP K (.int a) (.int b) H Q := .inl ⟨a, b, rfl, rfl, q⟩
theorem i_add_str (h : l.length + m.length ≤ 100000) (q : Q (S (l ++ m)) H) : addP K (S l) (S m) H Q := by
  refine .inr (.inl ⟨⟨l.toArray⟩, ⟨m.toArray⟩, rfl, rfl, ?_, ?_⟩)
  · rw [str_len, str_len]; exact Nat.le_trans h (by decide)
  · have e : (⟨l.toArray⟩ : Str) ++ ⟨m.toArray⟩ = ⟨(l ++ m).toArray⟩ := by
      show (⟨l.toArray ++ m.toArray⟩ : Str) = _
      rw [List.append_toArray]
    rw [e]; exact q
theorem i_sub (q : Q (.int (a - b)) H) : subP (.int a) (.int b) H Q := ⟨a, b, rfl, rfl, q⟩
theorem i_mul_int (h : IntMulOk a b) (q : Q (.int (a * b)) H) : mulP (.int a) (.int b) H Q := .inl ⟨a, b, rfl, rfl, h, q⟩
theorem i_mul_str {n : Nat} (h : l.length * n ≤ 100000 ∧ n ≤ 100000) (q : Q (S (List.replicate n l).flatten) H) : mulP (S l) (.int (n : Int)) H Q := .inr (.inl ⟨l, n, rfl, rfl, h.1, h.2, q⟩)
theorem i_mul_strI {k : Int} (h0 : 0 ≤ k) (h : l.length * k.toNat ≤ 100000 ∧ k.toNat ≤ 100000) (q : Q (S (List.replicate k.toNat l).flatten) H) : mulP (S l) (.int k) H Q := by
  obtain ⟨n, rfl⟩ : ∃ n : Nat, k = (n : Int) := ⟨k.toNat, by omega⟩
  rw [Int.toNat_natCast] at h q
  exact i_mul_str h q
theorem cdiv_small {a b : Int} (h : 0 < b) (h2 : b < 2 ^ 62) : CDivW a b := wide_div (b := 62) h (by omega) (by decide) (by decide)
theorem mul_small {a b : Int} (h : -(2 ^ 64) < a) (h2 : a < 2 ^ 64) : IntMulOk a b := CMul.ok (.inl ⟨h, h2⟩)
theorem mul_smallR {a b : Int} (h : -(2 ^ 64) < b) (h2 : b < 2 ^ 64) : IntMulOk a b := CMul.ok (.inr ⟨h, h2⟩)
theorem i_mod (h : 0 < b) (q : Q (.int (a % b)) H) : modP (.int a) (.int b) H Q := ⟨a, b, rfl, rfl, h, q⟩
theorem i_fdiv (h : CDivW a b) (q : Q (.int (a / b)) H) : fdivP (.int a) (.int b) H Q := ⟨a, b, rfl, rfl, h, q⟩
theorem i_pow (h : 0 ≤ b ∧ (Builtin.Int.intBits a : Int) * b ≤ 2 ^ 27) (q : Q (.int (a ^ b.toNat)) H) : powP (.int a) (.int b) H Q := ⟨a, b, rfl, rfl, h, q⟩
theorem i_eq_int (q : Q (.bl (decide (a = b))) H) : eqP K (.int a) (.int b) H Q := .inl ⟨rfl, by rw [dec_int, Bool.beq_eq_decide_eq]; exact q⟩
theorem i_eq_str (q : Q (.bl (decide (l = m))) H) : eqP K (S l) (S m) H Q := .inl ⟨rfl, by rw [S_dec]; exact q⟩
theorem i_ne_int (q : Q (.bl (!decide (a = b))) H) : neP K (.int a) (.int b) H Q := .inl ⟨rfl, by rw [dec_int, Bool.beq_eq_decide_eq]; exact q⟩
theorem i_ne_str (q : Q (.bl (!decide (l = m))) H) : neP K (S l) (S m) H Q := .inl ⟨rfl, by rw [S_dec]; exact q⟩
theorem i_eq_bl {b c : Bool} (q : Q (.bl (decide (b = c))) H) : eqP K (.bl b) (.bl c) H Q := .inl ⟨rfl, by rw [dec_bl, Bool.beq_eq_decide_eq]; exact q⟩
theorem i_ne_bl {b c : Bool} (q : Q (.bl (!decide (b = c))) H) : neP K (.bl b) (.bl c) H Q := .inl ⟨rfl, by rw [dec_bl, Bool.beq_eq_decide_eq]; exact q⟩
theorem i_lt (q : Q (.bl (decide (a < b))) H) : ltP (.int a) (.int b) H Q := .inl ⟨a, b, rfl, rfl, q⟩
theorem i_lt_str (q : Q (.bl (decide (l < m))) H) : ltP (S l) (S m) H Q := .inr ⟨_, _, rfl, rfl, by simpa using q⟩
theorem i_le (q : Q (.bl (decide (a ≤ b))) H) : leP (.int a) (.int b) H Q := ⟨a, b, rfl, rfl, q⟩
theorem i_gt (q : Q (.bl (decide (b < a))) H) : gtP (.int a) (.int b) H Q := ⟨a, b, rfl, rfl, q⟩
theorem i_ge (q : Q (.bl (decide (b ≤ a))) H) : geP (.int a) (.int b) H Q := ⟨a, b, rfl, rfl, q⟩
theorem i_is_non (q : Q (.bl true) H) : isP .non .non H Q := ⟨rfl, q⟩
theorem i_is_int (q : Q (.bl false) H) : isP (.int a) .non H Q := ⟨rfl, q⟩
theorem i_is_str (q : Q (.bl false) H) : isP (S l) .non H Q := ⟨rfl, q⟩
theorem i_is_ref {p : Addr} (q : Q (.bl false) H) : isP (.ref p) .non H Q := ⟨rfl, q⟩
theorem i_isn_non (q : Q (.bl false) H) : isNotP .non .non H Q := ⟨rfl, q⟩
theorem i_isn_int (q : Q (.bl true) H) : isNotP (.int a) .non H Q := ⟨rfl, q⟩
theorem i_isn_str (q : Q (.bl true) H) : isNotP (S l) .non H Q := ⟨rfl, q⟩
theorem i_isn_ref {p : Addr} (q : Q (.bl true) H) : isNotP (.ref p) .non H Q := ⟨rfl, q⟩
theorem i_in_sg {c : Nat} (q : Q (.bl (decide (c ∈ m))) H) : inP K (S [c]) (S m) H Q := .inl ⟨c, ⟨m.toArray⟩, rfl, rfl, by simpa using q⟩
theorem i_notIn_sg {c : Nat} (q : Q (.bl (!decide (c ∈ m))) H) : notInP K (S [c]) (S m) H Q := .inl ⟨c, ⟨m.toArray⟩, rfl, rfl, by simpa using q⟩
/-! subscripts -/
theorem atI_int {xs : List V} {z : Int} {v : V} (h0 : 0 ≤ z) (h : xs[z.toNat]? = some v) : atI xs z = some v := at_of (j := z.toNat) (by omega) h
theorem i_ix_lst {p : Addr} {xs : List V} {z : Int} {v : V} (hs : SqL K H p xs) (ha : atI xs z = some v) (q : Q v H) : ixP K (.ref p) (.int z) H Q := .inl ⟨p, xs, z, v, rfl, rfl, hs, ha, q⟩
theorem i_ix_tup {p : Addr} {xs : List V} {z : Int} {v : V} (hs : SqT K H p xs) (ha : atI xs z = some v) (q : Q v H) : ixP K (.ref p) (.int z) H Q := .inr (.inl ⟨p, xs, z, v, rfl, rfl, hs, ha, q⟩)
theorem i_ix_str {z : Int} {c : Nat} (hs : l.length ≤ 100000) (h0 : 0 ≤ z) (ha : l[z.toNat]? = some c) (q : Q (S [c]) H) : ixP K (S l) (.int z) H Q := by
  refine .inr (.inr ⟨⟨l.toArray⟩, z, c, rfl, rfl, ?_, ?_, q⟩)
  · rw [str_len]; exact Nat.le_trans hs (by decide)
  · have e : z = ((z.toNat : Nat) : Int) := by omega
    rw [e]
    exact atI_nat (by simpa using ha)
/-! slices -/
def cutN (l : List Nat) (lo hi : Option Int) : List Nat := (l.drop (HT.sIx l.length 0 lo)).take (HT.sIx l.length l.length hi - HT.sIx l.length 0 lo)
theorem i_sl_str {lo hi : Option Int} (hs : l.length ≤ 100000) (q : Q (S (cutN l lo hi)) H) : slP K (S l) lo hi H Q := by
  refine .inr (.inr ⟨⟨l.toArray⟩, rfl, ?_, ?_⟩)
  · rw [str_len]; exact Nat.le_trans hs (by decide)
  · have e : cutS ⟨l.toArray⟩ lo hi = ⟨(cutN l lo hi).toArray⟩ := by
      unfold cutS cutN
      rw [str_len]
    rw [e]; exact q
theorem cutN_to {l : List Nat} {k : Int} (h : 0 ≤ k) : cutN l none (some k) = l.take k.toNat := by
  unfold cutN
  have e : k = ((k.toNat : Nat) : Int) := by omega
  rw [e, HT.sIx_nat, HT.sIx_none, Nat.sub_zero, List.drop_zero, Int.toNat_natCast]
  by_cases hk : k.toNat ≤ l.length
  · rw [Nat.min_eq_left hk]
  · rw [Nat.min_eq_right (by omega), List.take_length, List.take_of_length_le (by omega)]
theorem cutN_from {l : List Nat} {k : Int} (h : 0 ≤ k) : cutN l (some k) none = l.drop k.toNat := by
  unfold cutN
  have e : k = ((k.toNat : Nat) : Int) := by omega
  rw [e, HT.sIx_nat, HT.sIx_none, Int.toNat_natCast]
  by_cases hk : k.toNat ≤ l.length
  · rw [Nat.min_eq_left hk]
    exact List.take_of_length_le (by rw [List.length_drop]; omega)
  · rw [Nat.min_eq_right (by omega), Nat.sub_self, List.take_zero, List.drop_of_length_le (by omega)]
theorem i_sl_to {k : Int} (hs : l.length ≤ 100000) (h0 : 0 ≤ k) (q : Q (S (l.take k.toNat)) H) : slP K (S l) none (some k) H Q := i_sl_str hs (by rw [cutN_to h0]; exact q)
theorem i_sl_from {k : Int} (hs : l.length ≤ 100000) (h0 : 0 ≤ k) (q : Q (S (l.drop k.toNat)) H) : slP K (S l) (some k) none H Q := i_sl_str hs (by rw [cutN_from h0]; exact q)
/-! calls of what is built in -/
def rLenP (K : PySem.W.Frag) : RC := fun xs H Q => ∃ x n, xs = [x] ∧ LenV K x H n ∧ Q (.int n) H
theorem call_lenP {X : Cx} : CallR X (.builtin "len") (rLenP X.K) := call_len
theorem i_len_str (hs : l.length ≤ 100000) (q : Q (.int (l.length : Int)) H) : rLenP K [S l] H Q := ⟨S l, l.length, rfl, ⟨by rw [str_len]; exact Nat.le_trans hs (by decide), (str_len l).symm⟩, q⟩
theorem i_len_lst {p : Addr} {xs : List V} (hs : SqL K H p xs) (q : Q (.int (xs.length : Int)) H) : rLenP K [.ref p] H Q := ⟨.ref p, xs.length, rfl, .inl ⟨xs, hs, rfl⟩, q⟩
theorem i_len_tup {p : Addr} {xs : List V} (hs : SqT K H p xs) (q : Q (.int (xs.length : Int)) H) : rLenP K [.ref p] H Q := ⟨.ref p, xs.length, rfl, .inr ⟨xs, hs, rfl⟩, q⟩
def rIntP : RC := fun xs H Q => (∃ i, xs = [.int i] ∧ Q (.int i) H) ∨ ∃ k, xs = [.bl k] ∧ Q (.int (if k then 1 else 0)) H
theorem call_intP {X : Cx} : CallR X (.type "int") rIntP := call_int1
theorem i_int_int (q : Q (.int a) H) : rIntP [.int a] H Q := .inl ⟨a, rfl, q⟩
def rAbsP : RC := fun xs H Q => ∃ i, xs = [.int i] ∧ Q (.int (if i < 0 then -i else i)) H
theorem call_absP {X : Cx} : CallR X (.builtin "abs") rAbsP := call_abs
theorem i_abs (q : Q (.int (if a < 0 then -a else a)) H) : rAbsP [.int a] H Q := ⟨a, rfl, q⟩
theorem i_sum {p : Addr} {ns : List Int} (hs : SqL K H p (ns.map V.int)) (q : Q (.int ns.sum) H) : rSum K [.ref p] H Q := ⟨p, ns, rfl, hs, q⟩
def rTupP (K : PySem.W.Frag) : RC := fun xs H Q => ∃ p ys, xs = [.ref p] ∧ ((SqL K H p ys ∧ ∀ l, H l = none → Q (.ref l) (upd H l (.tup ys))) ∨ (SqT K H p ys ∧ Q (.ref p) H))
theorem call_tupP {X : Cx} : CallR X (.type "tuple") (rTupP X.K) := call_tuple_of
theorem i_tuple_lst {p : Addr} {ys : List V} (hs : SqL K H p ys) (q : ∀ l, H l = none → Q (.ref l) (upd H l (.tup ys))) : rTupP K [.ref p] H Q := ⟨p, ys, rfl, .inl ⟨hs, q⟩⟩
theorem i_all {p : Addr} {bs : List Bool} (hs : SqL K H p (bs.map V.bl)) (q : Q (.bl (bs.all id)) H) : rAll K [.ref p] H Q := ⟨p, bs, rfl, hs, q⟩
theorem i_isi_non_int (q : Q (.bl false) H) : rIsi K [.non, .ty "int"] H Q := ⟨_, _, _, _, false, rfl, .ty _, .base .non, kit_ty (by decide +kernel), q⟩
theorem i_isi_non_bool (q : Q (.bl false) H) : rIsi K [.non, .ty "bool"] H Q := ⟨_, _, _, _, false, rfl, .ty _, .base .non, kit_ty (by decide +kernel), q⟩
theorem i_isi_non_str (q : Q (.bl false) H) : rIsi K [.non, .ty "str"] H Q := ⟨_, _, _, _, false, rfl, .ty _, .base .non, kit_ty (by decide +kernel), q⟩
theorem i_isi_non_tuple (q : Q (.bl false) H) : rIsi K [.non, .ty "tuple"] H Q := ⟨_, _, _, _, false, rfl, .ty _, .base .non, kit_ty (by decide +kernel), q⟩
theorem i_isi_non_list (q : Q (.bl false) H) : rIsi K [.non, .ty "list"] H Q := ⟨_, _, _, _, false, rfl, .ty _, .base .non, kit_ty (by decide +kernel), q⟩
theorem i_isi_bl_int {b : Bool} (q : Q (.bl true) H) : rIsi K [(.bl b), .ty "int"] H Q := ⟨_, _, _, _, true, rfl, .ty _, .base (.bl b), kit_ty (by decide +kernel), q⟩
theorem i_isi_bl_bool {b : Bool} (q : Q (.bl true) H) : rIsi K [(.bl b), .ty "bool"] H Q := ⟨_, _, _, _, true, rfl, .ty _, .base (.bl b), kit_ty (by decide +kernel), q⟩
theorem i_isi_bl_str {b : Bool} (q : Q (.bl false) H) : rIsi K [(.bl b), .ty "str"] H Q := ⟨_, _, _, _, false, rfl, .ty _, .base (.bl b), kit_ty (by decide +kernel), q⟩
theorem i_isi_bl_tuple {b : Bool} (q : Q (.bl false) H) : rIsi K [(.bl b), .ty "tuple"] H Q := ⟨_, _, _, _, false, rfl, .ty _, .base (.bl b), kit_ty (by decide +kernel), q⟩
theorem i_isi_bl_list {b : Bool} (q : Q (.bl false) H) : rIsi K [(.bl b), .ty "list"] H Q := ⟨_, _, _, _, false, rfl, .ty _, .base (.bl b), kit_ty (by decide +kernel), q⟩
theorem i_isi_int_int {i : Int} (q : Q (.bl true) H) : rIsi K [(.int i), .ty "int"] H Q := ⟨_, _, _, _, true, rfl, .ty _, .base (.int i), kit_ty (by decide +kernel), q⟩
theorem i_isi_int_bool {i : Int} (q : Q (.bl false) H) : rIsi K [(.int i), .ty "bool"] H Q := ⟨_, _, _, _, false, rfl, .ty _, .base (.int i), kit_ty (by decide +kernel), q⟩
theorem i_isi_int_str {i : Int} (q : Q (.bl false) H) : rIsi K [(.int i), .ty "str"] H Q := ⟨_, _, _, _, false, rfl, .ty _, .base (.int i), kit_ty (by decide +kernel), q⟩
theorem i_isi_int_tuple {i : Int} (q : Q (.bl false) H) : rIsi K [(.int i), .ty "tuple"] H Q := ⟨_, _, _, _, false, rfl, .ty _, .base (.int i), kit_ty (by decide +kernel), q⟩
theorem i_isi_int_list {i : Int} (q : Q (.bl false) H) : rIsi K [(.int i), .ty "list"] H Q := ⟨_, _, _, _, false, rfl, .ty _, .base (.int i), kit_ty (by decide +kernel), q⟩
theorem i_isi_str_int {l : List Nat} (q : Q (.bl false) H) : rIsi K [(S l), .ty "int"] H Q := ⟨_, _, _, _, false, rfl, .ty _, .base (.str _), kit_ty (by decide +kernel), q⟩
theorem i_isi_str_bool {l : List Nat} (q : Q (.bl false) H) : rIsi K [(S l), .ty "bool"] H Q := ⟨_, _, _, _, false, rfl, .ty _, .base (.str _), kit_ty (by decide +kernel), q⟩
theorem i_isi_str_str {l : List Nat} (q : Q (.bl true) H) : rIsi K [(S l), .ty "str"] H Q := ⟨_, _, _, _, true, rfl, .ty _, .base (.str _), kit_ty (by decide +kernel), q⟩
theorem i_isi_str_tuple {l : List Nat} (q : Q (.bl false) H) : rIsi K [(S l), .ty "tuple"] H Q := ⟨_, _, _, _, false, rfl, .ty _, .base (.str _), kit_ty (by decide +kernel), q⟩
theorem i_isi_str_list {l : List Nat} (q : Q (.bl false) H) : rIsi K [(S l), .ty "list"] H Q := ⟨_, _, _, _, false, rfl, .ty _, .base (.str _), kit_ty (by decide +kernel), q⟩
theorem i_isi_tup_int {a : Addr} {xs : List V} (h : H a = some (.tup xs)) (q : Q (.bl false) H) : rIsi K [(.ref a), .ty "int"] H Q := ⟨_, _, _, _, false, rfl, .ty _, .base (.tup h), kit_ty (by decide +kernel), q⟩
theorem i_isi_tup_bool {a : Addr} {xs : List V} (h : H a = some (.tup xs)) (q : Q (.bl false) H) : rIsi K [(.ref a), .ty "bool"] H Q := ⟨_, _, _, _, false, rfl, .ty _, .base (.tup h), kit_ty (by decide +kernel), q⟩
theorem i_isi_tup_str {a : Addr} {xs : List V} (h : H a = some (.tup xs)) (q : Q (.bl false) H) : rIsi K [(.ref a), .ty "str"] H Q := ⟨_, _, _, _, false, rfl, .ty _, .base (.tup h), kit_ty (by decide +kernel), q⟩
theorem i_isi_tup_tuple {a : Addr} {xs : List V} (h : H a = some (.tup xs)) (q : Q (.bl true) H) : rIsi K [(.ref a), .ty "tuple"] H Q := ⟨_, _, _, _, true, rfl, .ty _, .base (.tup h), kit_ty (by decide +kernel), q⟩
theorem i_isi_tup_list {a : Addr} {xs : List V} (h : H a = some (.tup xs)) (q : Q (.bl false) H) : rIsi K [(.ref a), .ty "list"] H Q := ⟨_, _, _, _, false, rfl, .ty _, .base (.tup h), kit_ty (by decide +kernel), q⟩
theorem i_isi_lst_int {a : Addr} {xs : List V} (h : H a = some (.lst xs)) (q : Q (.bl false) H) : rIsi K [(.ref a), .ty "int"] H Q := ⟨_, _, _, _, false, rfl, .ty _, .base (.lst h), kit_ty (by decide +kernel), q⟩
theorem i_isi_lst_bool {a : Addr} {xs : List V} (h : H a = some (.lst xs)) (q : Q (.bl false) H) : rIsi K [(.ref a), .ty "bool"] H Q := ⟨_, _, _, _, false, rfl, .ty _, .base (.lst h), kit_ty (by decide +kernel), q⟩
theorem i_isi_lst_str {a : Addr} {xs : List V} (h : H a = some (.lst xs)) (q : Q (.bl false) H) : rIsi K [(.ref a), .ty "str"] H Q := ⟨_, _, _, _, false, rfl, .ty _, .base (.lst h), kit_ty (by decide +kernel), q⟩
theorem i_isi_lst_tuple {a : Addr} {xs : List V} (h : H a = some (.lst xs)) (q : Q (.bl false) H) : rIsi K [(.ref a), .ty "tuple"] H Q := ⟨_, _, _, _, false, rfl, .ty _, .base (.lst h), kit_ty (by decide +kernel), q⟩
theorem i_isi_lst_list {a : Addr} {xs : List V} (h : H a = some (.lst xs)) (q : Q (.bl true) H) : rIsi K [(.ref a), .ty "list"] H Q := ⟨_, _, _, _, true, rfl, .ty _, .base (.lst h), kit_ty (by decide +kernel), q⟩
/-! text.join -/
def rJoinP (K : PySem.W.Frag) : V → List V → Hp → VK → Prop := fun x xs H Q => ∃ a p, ∃ ys : List Str, x = .str a ∧ xs = [.ref p] ∧ (SqL K H p (ys.map V.str) ∨ SqT K H p (ys.map V.str)) ∧ (ys.map (·.length)).sum + ys.length * a.length ≤ 16777216 ∧ Q (.str (Txt.join a ys)) H
theorem pe_joinP {X : Cx} {to te : TE} {o e : Expr} {apos pos : Pos} (ho : PE X o to) (he : PE X e te) (hs : starEach [e] X.env = [(false, eval e X.env)] := by rfl) (hbase : attributeBase o "join" X.env (eval o X.env) = eval o X.env := by rfl) (hline : (apos.endLine == pos.line) = true := by rfl) :
    PE X (.Call (.Attribute o "join" apos) [e] [] pos) (tM1 (rJoinP X.K) to te) := pe_join ho he hs hbase hline
theorem i_m1c {r : V → List V → Hp → VK → Prop} (q : te σ H fun y H2 => r (S l) [y] H2 Q) : tM1 r (tC (S l)) te σ H Q := ⟨⟨_, rfl⟩, q⟩
end
end Fg
/-! Glue: defs of the text with their promises, calls, own exceptions with one field. -/
namespace Fg
open PySem PySem.Spec PyProof.Rows L2
/-- a def of the text: where it stands, how it is called -/
def DefIn (K : PySem.W.Frag) (mg : Str → Option Value) (x : Str) (st : Stmt) (ps : List Str) : Prop :=
  ∃ (f : Addr) (fd : FuncData), Fun K x x st f fd ∧ mg x = some (.ref f) ∧ Binds K fd ps []
/-- .. and it keeps its promise -/
def OK (P : Program) (w : World) (K : PySem.W.Frag) (mg : Str → Option Value) (base : Heap) (CX : CXT) (k : Nat) (x : Str) (ps : List Str) (sp : Sp) : Prop :=
  ∃ (f : Addr) (fd : FuncData), FnOk P w K mg base CX k f fd ps sp ∧ mg x = some (.ref f) ∧ PySem.W.keepIn K (.ref f) = true ∧ Binds K fd ps []
abbrev P1 := V → Hp → VK → XK → Prop
abbrev P2 := V → V → Hp → VK → XK → Prop
abbrev P3 := V → V → V → Hp → VK → XK → Prop
abbrev P4 := V → V → V → V → Hp → VK → XK → Prop
def sp1 (p : P1) : Sp := fun vs H Q E => ∃ x, vs = [x] ∧ p x H Q E
def sp2 (p : P2) : Sp := fun vs H Q E => ∃ x y, vs = [x, y] ∧ p x y H Q E
def sp3 (p : P3) : Sp := fun vs H Q E => ∃ x y z, vs = [x, y, z] ∧ p x y z H Q E
def sp4 (p : P4) : Sp := fun vs H Q E => ∃ x y z u, vs = [x, y, z, u] ∧ p x y z u H Q E
section
variable {H : Hp} {Q : VK} {E : XK} {x y z u : V} {p1 : P1} {p2 : P2} {p3 : P3} {p4 : P4}
theorem i_sp1 (q : p1 x H Q E) : sp1 p1 ([x] ++ []) H Q E := ⟨x, rfl, q⟩
theorem i_sp2 (q : p2 x y H Q E) : sp2 p2 ([x, y] ++ []) H Q E := ⟨x, y, rfl, q⟩
theorem i_sp3 (q : p3 x y z H Q E) : sp3 p3 ([x, y, z] ++ []) H Q E := ⟨x, y, z, rfl, q⟩
theorem i_sp4 (q : p4 x y z u H Q E) : sp4 p4 ([x, y, z, u] ++ []) H Q E := ⟨x, y, z, u, rfl, q⟩
theorem i_sp1' (q : p1 x H Q E) : sp1 p1 [x] H Q E := ⟨x, rfl, q⟩
theorem i_sp2' (q : p2 x y H Q E) : sp2 p2 [x, y] H Q E := ⟨x, y, rfl, q⟩
theorem i_sp3' (q : p3 x y z H Q E) : sp3 p3 [x, y, z] H Q E := ⟨x, y, z, rfl, q⟩
theorem i_sp4' (q : p4 x y z u H Q E) : sp4 p4 [x, y, z, u] H Q E := ⟨x, y, z, u, rfl, q⟩
end
section
variable {P : Program} {w : World} {K : PySem.W.Frag} {mg : Str → Option Value} {base : Heap} {x : Str} {st : Stmt} {N ps : List Str} {k : Nat} {sp : Sp}
theorem FnOK.mk {f : Addr} {fd : FuncData} (F : Fun K x x st f fd) (S : FnScope N ps (defScope st)) (len : ∀ vs H Q E, sp vs H Q E → vs.length = ps.length)
    (body : ∀ (cdv : Value) (A : Around) (outer : List Env) (s : Shared) (H : Hp) (vs : List V) (Q : VK) (E : XK), Room k (A.deeper (envOfC x (defScope st) s.heap.objs.size f cdv)) → sp vs H Q E →
      ∃ t, PSs (cxOf CX0 P w K mg base N x (defScope st) f cdv A outer s H E).nox (defBody st) t ∧ t { nx := fun _ H' => Q .non H', rt := Q } (start N vs) H) : FnOk P w K mg base CX0 (k + 1) f fd ps sp :=
  F.ok S len fun cdv A outer s H vs Q E hr h => body cdv A outer s H vs Q E hr h
theorem OK.mk (D : DefIn K mg x st ps) (S : FnScope N ps (defScope st)) (len : ∀ vs H Q E, sp vs H Q E → vs.length = ps.length)
    (body : ∀ (f : Addr) (cdv : Value) (A : Around) (outer : List Env) (s : Shared) (H : Hp) (vs : List V) (Q : VK) (E : XK), Room k (A.deeper (envOfC x (defScope st) s.heap.objs.size f cdv)) → sp vs H Q E →
      ∃ t, PSs (cxOf CX0 P w K mg base N x (defScope st) f cdv A outer s H E).nox (defBody st) t ∧ t { nx := fun _ H' => Q .non H', rt := Q } (start N vs) H) : OK P w K mg base CX0 (k + 1) x ps sp := by
  obtain ⟨f, fd, F, hm, hb⟩ := D
  exact ⟨f, fd, F.ok S len fun cdv A outer s H vs Q E hr h => body f cdv A outer s H vs Q E hr h, hm, F.kp, hb⟩
theorem OK.mkX (D : DefIn K mg x st ps) (S : FnScope N ps (defScope st)) (len : ∀ vs H Q E, sp vs H Q E → vs.length = ps.length)
    (body : ∀ (f : Addr) (cdv : Value) (A : Around) (outer : List Env) (s : Shared) (H : Hp) (vs : List V) (Q : VK) (E : XK), Room k (A.deeper (envOfC x (defScope st) s.heap.objs.size f cdv)) → sp vs H Q E →
      ∃ t, PSs (cxOf (L2.CX P w) P w K mg base N x (defScope st) f cdv A outer s H E) (defBody st) t ∧ t { nx := fun _ H' => Q .non H', rt := Q } (start N vs) H) : OK P w K mg base (L2.CX P w) (k + 1) x ps sp := by
  obtain ⟨f, fd, F, hm, hb⟩ := D
  exact ⟨f, fd, F.okX S len fun cdv A outer s H vs Q E hr h => body f cdv A outer s H vs Q E hr h, hm, F.kp, hb⟩
theorem len1 {p : P1} {a : Str} : ∀ vs H Q E, sp1 p vs H Q E → vs.length = [a].length := by
  rintro vs H Q E ⟨_, rfl, _⟩; rfl
theorem len2 {p : P2} {a b : Str} : ∀ vs H Q E, sp2 p vs H Q E → vs.length = [a, b].length := by
  rintro vs H Q E ⟨_, _, rfl, _⟩; rfl
theorem len3 {p : P3} {a b c : Str} : ∀ vs H Q E, sp3 p vs H Q E → vs.length = [a, b, c].length := by
  rintro vs H Q E ⟨_, _, _, rfl, _⟩; rfl
theorem len4 {p : P4} {a b c d : Str} : ∀ vs H Q E, sp4 p vs H Q E → vs.length = [a, b, c, d].length := by
  rintro vs H Q E ⟨_, _, _, _, rfl, _⟩; rfl
theorem OK.weak {CX : CXT} {sp' : Sp} (G : OK P w K mg base CX k x ps sp) (h : ∀ vs H Q E, sp' vs H Q E → sp vs H Q E) : OK P w K mg base CX k x ps sp' := by
  obtain ⟨f, fd, F, r⟩ := G
  exact ⟨f, fd, F.imp h, r⟩
end
/-! ### calls -/
section
variable {X : Cx} {CX : CXT} {k : Nat} {x : Str} {ps : List Str} {sp : Sp} {E : XK} {e : Expr} {es : List Expr} {ta : TA} {p pos : Pos}
theorem pe_f (G : OK X.prog X.w X.K X.mg X.base CX k x ps sp) (hr : Room k X.A) (hx : Passes CX X E) (ha : PA X (e :: es) ta) (hg : Gl X x := by rfl) (hd : (x == ("__debug__" : Str)) = false := by decide)
    (he : starEach (e :: es) X.env = (false, eval e X.env) :: starEach es X.env := by rfl) (hpl : (backTo pos (starEach es X.env)).any (·.1) = false := by rfl) :
    PE X (.Call (.Name x p) (e :: es) [] pos) (tCall sp [] E ta) := by
  obtain ⟨f, fd, F, hm, hk, hb⟩ := G
  exact pe_call F hr hg hm hk hb .nil hx ha hd he hpl
theorem pe_fS {ES : L2.St → XK} (G : OK X.prog X.w X.K X.mg X.base CX k x ps sp) (hr : Room k X.A) (hx : ∀ σ, PassesAt CX X σ (ES σ)) (ha : PA X (e :: es) ta) (hg : Gl X x := by rfl) (hd : (x == ("__debug__" : Str)) = false := by decide)
    (he : starEach (e :: es) X.env = (false, eval e X.env) :: starEach es X.env := by rfl) (hpl : (backTo pos (starEach es X.env)).any (·.1) = false := by rfl) :
    PE X (.Call (.Name x p) (e :: es) [] pos) (tCallS sp ES ta) := by
  obtain ⟨f, fd, F, hm, hk, hb⟩ := G
  exact pe_callS F hr hg hm hk hb hx ha hd he hpl
theorem pe_gS (l : List Nat) (h : ∃ t, X.mg x = some (.str ⟨l.toArray⟩ t)) (hg : Gl X x := by rfl) (hd : (x == ("__debug__" : Str)) = false := by decide) : PE X (.Name x pos) (tC (S l)) := by
  obtain ⟨t, hm⟩ := h
  exact pe_glob hg hm ⟨t, rfl⟩ hd
theorem pe_gI (i : Int) (h : ∃ t, X.mg x = some (.int i t)) (hg : Gl X x := by rfl) (hd : (x == ("__debug__" : Str)) = false := by decide) : PE X (.Name x pos) (tC (.int i)) := by
  obtain ⟨t, hm⟩ := h
  exact pe_glob hg hm ⟨t, rfl⟩ hd
theorem pe_gR (C : Addr) (h : X.mg x = some (.ref C)) (hg : Gl X x := by rfl) (hd : (x == ("__debug__" : Str)) = false := by decide) : PE X (.Name x pos) (tC (.ref C)) := pe_glob hg h rfl hd
end
/-! ### an own exception with one field -/
/-- what its __init__ promises -/
def spIni (C : Addr) (f : Str) : Sp := sp2 fun x v H Q _ => ∃ a, x = .ref a ∧ H a = some (exo a C none) ∧ ∀ dx, H dx = none → dx ≠ a → Q .non (upd (upd H dx (exd dx [(f, v)])) a (exo a C (some dx)))
def OKx (P : Program) (w : World) (K : PySem.W.Frag) (mg : Str → Option Value) (base : Heap) (x f : Str) (C : Addr) : Prop :=
  mg x = some (.ref C) ∧ OexC K C ∧ PySem.W.findIn K (.ref C) f = some none ∧ ∃ (fI : Addr) (fd : FuncData), PySem.W.findIn K (.ref C) "__init__" = some (some (.ref fI)) ∧ PySem.W.typeIn K (.ref fI) = some (.type "function") ∧
    FnOk P w K mg base CX0 1 fI fd ["self", f] (spIni C f) ∧ Binds K fd ["self", f] []
theorem ini_ok {P : Program} {w : World} {K : PySem.W.Frag} {mg : Str → Option Value} {base : Heap} {C fI : Addr} {f q : Str} {st : Stmt} {fd : FuncData} (F : Fun K "__init__" q st fI fd) (S : FnScope ["self", f] ["self", f] (defScope st))
    (ox : OexC K C) (noF : PySem.W.findIn K (.ref C) f = some none)
    (hb : ∀ (cdv : Value) (A : Around) (outer : List Env) (s : Shared) (H : Hp) (E : XK), PSs (cxOf CX0 P w K mg base ["self", f] q (defScope st) fI cdv A outer s H E).nox (defBody st) (tOst K f (tVar 0) (tVar 1))) :
    FnOk P w K mg base CX0 1 fI fd ["self", f] (spIni C f) := by
  refine F.ok S (fun vs H Q E h => len2 vs H Q E h) fun cdv A outer s H vs Q E hr h => ⟨_, hb cdv A outer s H E, ?_⟩
  obtain ⟨x, v, rfl, a, rfl, ha, q⟩ := h
  exact ⟨v, rfl, .ref a, rfl, a, C, rfl, ox, noF, .inl ⟨ha, fun dx n ne => q dx n ne⟩⟩
/-- C(e): an error whose dict, new, holds the field -/
def tMkE (C : Addr) (f : Str) (ta : TA) : L2.St → Hp → XK → Prop := fun σ H Q => ta σ H fun vs H1 => ∃ v, vs = [v] ∧ ∀ d, H1 d = none → Q (.ref C) (some d) (upd H1 d (.xd [(f, v)]))
theorem pa_mono {X : Cx} {es : List Expr} {ta : TA} (ha : PA X es ta) : PA X es fun σ H R => ∃ Q1 : List V → Hp → Prop, ta σ H Q1 ∧ ∀ vs H1, Q1 vs H1 → R vs H1 := by
  refine ⟨fun pos pins s σ H Q I h => ?_⟩
  obtain ⟨Q1, h, hi⟩ := h
  exact thn (ha.run pos pins s σ H Q1 I h) fun us s1 ⟨vs, H1, J, r, q⟩ => ⟨vs, H1, J, r, hi vs H1 q⟩
theorem pmk_E {X : Cx} {x f : Str} {C : Addr} {e : Expr} {ta : TA} {p pos : Pos} {k : Nat} (G : OKx X.prog X.w X.K X.mg X.base x f C) (hr : Room (k + 2) X.A) (ha : PA X [e] ta) (hg : Gl X x := by rfl) (hdb : (x == ("__debug__" : Str)) = false := by decide)
    (he : starEach [e] X.env = (false, eval e X.env) :: starEach [] X.env := by rfl) (hpl : (backTo pos (starEach [] X.env)).any (·.1) = false := by rfl) :
    PMk X (.Call (.Name x p) [e] [] pos) (tMkE C f ta) := by
  obtain ⟨hm, ox, noF, fI, fd, iC, tI, F, hb⟩ := G
  intro pins s σ H Q I h
  refine pmk_oex (k := 1) (dvs := []) ox iC tI F (hr.mono (by omega)) hb .nil pass0 hg hm (pa_mono ha) hdb he hpl pins s σ H Q I ⟨_, h, fun vs H1 hq => ?_⟩
  obtain ⟨v, rfl, q⟩ := hq
  refine ⟨by show 1 ≤ 1000; omega, fun a na => ⟨.ref a, v, rfl, a, rfl, upd_same, fun dx nd ne => ⟨rfl, dx, [(f, v)], upd_same, ?_, ?_, ?_⟩⟩⟩
  · rw [upd_ne ne, upd_same]
  · rw [upd_ne ne] at nd; exact nd
  · have n2 : H1 dx = none := by rw [upd_ne ne] at nd; exact nd
    have e1 : upd (del (upd (upd (upd H1 a (exo a C none)) dx (exd dx [(f, v)])) a (exo a C (some dx))) a) dx (.xd [(f, v)]) = upd H1 dx (.xd [(f, v)]) := by
      funext b
      by_cases hb : b = dx
      · rw [hb, upd_same, upd_same]
      · rw [upd_ne hb, upd_ne hb]
        by_cases ha : b = a
        · rw [ha, del_same, na]
        · rw [del_ne ha, upd_ne ha, upd_ne hb, upd_ne ha]
    rw [e1]
    exact q dx n2
def tRaiseP (t : L2.St → Hp → XK → Prop) (W : WX) : TS := fun _ σ H => t σ H fun cls d H' => W cls d σ H'
theorem ps_raiseP {X : Cx} {W : WX} {e : Expr} {t : L2.St → Hp → XK → Prop} {pos : Pos} (hc : X.calm = true) (tk : Takes X W) (he : PMk X e t) : PS X (.Raise (some e) none pos) (tRaiseP t W) := ps_raise hc tk he
/-! ### isinstance(e, C) of a caught error, e.f -/
/-- the class of a caught error, for isinstance -/
structure ExcD (K : PySem.W.Frag) (D : Addr) : Prop where
  cl : (PySem.W.clsIn K D).isSome = true
  hg : PySem.W.findIn K (.ref D) "__getattribute__" = some (some (.builtin "BaseException.__getattribute__"))
  hk : PySem.W.findIn K (.ref D) "__getattr__" = some none
  hs : PySem.W.subIn K (.ref D) (.type "BaseException") = some true
  hd : PySem.W.hasDictIn K D = true
  ha : PySem.W.findIn K (.ref D) "__class__" = some (some (.builtin "object.__class__"))
  hn : PySem.W.specialIn K (.builtin "object.__class__") "__get__" = some (some (.builtin "getset_descriptor.__get__"))
  ht : PySem.W.takesIn K (.builtin "object.__class__") = some true
  hm : PySem.W.mroIn K D (.type "object") = some true
theorem ExcD.xf {K : PySem.W.Frag} {D : Addr} (T : ExcD K D) : XfC K D := ⟨T.hg, T.hk, T.hs, T.hd⟩
def rIsX (K : PySem.W.Frag) (a : Addr) (cls : Value) (d : Option Addr) : RC := fun xs H Q => ∃ (D dd : Addr) (fs : List (Str × V)) (c : V) (cv : Value) (b : Bool),
  xs = [.ref a, c] ∧ cls = .ref D ∧ d = some dd ∧ H dd = some (.xd fs) ∧ ExcD K D ∧ ClsV c cv ∧ PySem.W.kitOne K (.ref D) cv = some b ∧ Q (.bl b) H
theorem call_isX {X : Cx} {a : Addr} {oe : Obj} {cls : Value} {d : Option Addr} {pn : List (Addr × Obj)} (hz : Zc cls d oe) (hf : ∃ vs, oe.data = .fields vs) : CallR (X.suite a ((a, oe) :: pn)) (.builtin "isinstance") (rIsX X.K a cls d) := by
  intro pins s σ H xs us Q I r h
  obtain ⟨D, dd, fs, c, cv, b, rfl, rfl, rfl, hdd, T, kc, e, q⟩ := h
  obtain ⟨u1, u2, rfl, r1, r2⟩ := vals2 r
  obtain rfl : u1 = Value.ref a := r1
  obtain rfl := kc.eq r2
  obtain ⟨hget, _⟩ := I.pin (a, oe) (List.mem_append_left _ List.mem_cons_self)
  obtain ⟨vs, hv⟩ := hf
  have hx : ObjOk X.prog X.w H s.heap dd (.xd fs) := I.hok dd _ hdd
  obtain ⟨mA, ⟨o, es, ep, ho, _⟩, _⟩ := hx
  have J : PySem.W.InstAt s.heap a oe D (some o) := ⟨hget, hz.1, by unfold PySem.W.notCls; rw [hv] <;> rfl, by rw [hz.2]; exact ho⟩
  exact PySem.W.kia_one (PySem.W.kitx_exc T.cl T.hg T.hk T.hs T.ha T.hn T.ht T.hm) I.kIn J e (fun z => nomatch z) fun tk => ⟨.bl b, H, I.tok tk, rfl, q⟩
section
variable {σ : L2.St} {H : Hp} {D : Ends} {t : L2.St → Hp → XK → Prop} {W : WX} {Q : XK} {C : Addr} {f : Str} {ta : TA} {v : V} {P : V → Prop}
theorem i_raise (q : t σ H fun cls d H' => W cls d σ H') : tRaiseP t W D σ H := q
theorem i_mkE (q : ta σ H fun vs H1 => ∃ v, vs = [v] ∧ ∀ d, H1 d = none → Q (.ref C) (some d) (upd H1 d (.xd [(f, v)]))) : tMkE C f ta σ H Q := q
theorem i_ex1 (q : P v) : ∃ u, [v] = [u] ∧ P u := ⟨v, rfl, q⟩
end
/-- the wish for an error of the class at C whose dict, new, holds f = v -/
def Rz (E : XK) (H : Hp) (C : Addr) (f : Str) (v : V) : Prop := ∀ d H', H d = none → Same H H' → H' d = some (.xd [(f, v)]) → E (.ref C) (some d) H'
theorem Rz.mono {E : XK} {H H1 : Hp} {C : Addr} {f : Str} {v : V} (h : Rz E H C f v) (s : Same H H1) : Rz E H1 C f v := fun d H' n s' e => h d H' (s.free n) (s.trans s') e
theorem Rz.at {E : XK} {H : Hp} {C : Addr} {f : Str} {v : V} (h : Rz E H C f v) {d : Addr} (n : H d = none) : E (.ref C) (some d) (upd H d (.xd [(f, v)])) :=
  h d _ n (fun b o e => by rw [upd_ne (ne_of_none e n)]; exact e) upd_same
/-! ### min of some texts -/
def rMinS (K : PySem.W.Frag) : RC := fun vs H Q => ∃ (a : Addr) (xs : List (List Nat)), vs = [V.ref a] ∧ SqL K H a (xs.map S) ∧ xs ≠ [] ∧ ∀ m, m ∈ xs → (∀ y ∈ xs, ¬ y < m) → Q (S m) H
theorem argBest_min (val : Nat → List Nat) : ∀ k, argBest (fun i j => decide (val i < val j)) k ≤ k ∧ ∀ j, j ≤ k → ¬ val j < val (argBest (fun i j => decide (val i < val j)) k)
  | 0 => ⟨Nat.le_refl _, fun j hj => by
    have : j = 0 := by omega
    subst this
    exact List.lt_irrefl _⟩
  | k + 1 => by
    obtain ⟨h1, h2⟩ := argBest_min val k
    unfold argBest
    by_cases h : val (k + 1) < val (argBest (fun i j => decide (val i < val j)) k)
    · rw [if_pos (decide_eq_true h)]
      refine ⟨Nat.le_refl _, fun j hj => ?_⟩
      by_cases e : j = k + 1
      · subst e; exact List.lt_irrefl _
      · exact fun z => h2 j (by omega) (List.lt_trans z h)
    · rw [if_neg (by simpa using h)]
      refine ⟨by omega, fun j hj => ?_⟩
      by_cases e : j = k + 1
      · subst e; exact h
      · exact h2 j (by omega)
theorem cmp_strs {prog : Program} {w : World} {A : Around} {P : Nat → Value → Prop} (val : Nat → List Nat) (hval : ∀ i v, P i v → ∃ t, v = .str ⟨(val i).toArray⟩ t) : CmpOf prog w A .Lt P (fun i j => decide (val i < val j)) := fun i j vi vj s Q E hi hj h => by
  obtain ⟨t, rfl⟩ := hval i vi hi
  obtain ⟨u, rfl⟩ := hval j vj hj
  refine richCompare_gives (op := .Lt) (typeIs_str s _ t) (typeIs_str s _ u) F.slot_str_lt F.entry_str_lt (F.args_str_lt_2 _ _) (gives_str_lt _ _ t u) (fun x => nomatch x) ?_
  show Q (Value.bool (decide ((val i).toArray.toList < (val j).toArray.toList))) s
  simpa using h
theorem cr_minS {X : Cx} (hc : X.calm = true) : CallR X (.builtin "min") (rMinS X.K) := by
  intro pins s σ H vs us Q I r h
  obtain ⟨a, xs, rfl, hs, hne, q⟩ := h
  obtain ⟨its, rv, hl, _⟩ := I.list hs
  rw [Vals.ref1 r]
  have hlen : xs.length = its.length := by have := rv.length; rw [List.length_map] at this; exact this
  have hpos : 0 < its.length := by rw [← hlen]; exact List.length_pos_iff.mpr hne
  have hL := hl.isList
  have ha : a < s.heap.objs.size := by obtain ⟨_, e, _⟩ := id hL; exact Heap.lt_size e
  have hval : ∀ (i : Nat) (v : Value), its.toArray[i]? = some v → ∃ t, v = Value.str ⟨(xs.getD i []).toArray⟩ t := fun i v hv => by
    have hv' : its[i]? = some v := by simpa using hv
    have hi : i < xs.length := by rw [hlen]; exact (List.getElem?_eq_some_iff.mp hv').1
    obtain ⟨u, hu, ru⟩ := rv.get (i := i) (x := S (xs.getD i [])) (by rw [List.getElem?_map, List.getElem?_eq_getElem hi, List.getD_eq_getElem?_getD, List.getElem?_eq_getElem hi]; rfl)
    rw [hv'] at hu
    cases hu
    exact ru
  refine call_min_walk (wpAny_pyIter_list hL ?_)
  refine ⟨_, _, _, _, _, _, _, rfl, Walks.list (A := X.A.in1) (I.ok.hd hc) s.heap.objs.size a (Nat.ne_of_lt ha) its.toArray,
    ⟨⟨_, Heap.get?_push_size _ rfl, rfl, rfl⟩, hL.push _⟩, fun b hb => ?_, by simpa using hpos, cmp_strs (fun i => xs.getD i []) hval, fun v h' tk hP hk => ?_⟩
  · show b < (s.heap.push _).objs.size
    rw [Heap.size_push]
    rcases List.mem_cons.mp hb with e | hb
    · rw [e]; exact Nat.lt_succ_self _
    · rw [List.mem_singleton.mp hb]; exact Nat.lt_succ_of_lt ha
  · obtain ⟨t, rfl⟩ := hval _ v hP
    obtain ⟨b1, b2⟩ := argBest_min (fun i => xs.getD i []) (its.toArray.size - 1)
    have sz : its.toArray.size = xs.length := by simp [hlen]
    have hb : argBest (fun i j => decide (xs.getD i [] < xs.getD j [])) (its.toArray.size - 1) < xs.length := by omega
    refine ⟨S (xs.getD _ []), H, I.kept (t' := tk) fun b u e => hk b u (fun hm => ?_) (Heap.get?_push_of_some _ e), ⟨t, rfl⟩, q _ ?_ fun y hy => ?_⟩
    · have e1 : b = s.heap.objs.size := List.mem_singleton.mp hm
      have e2 := Heap.lt_size e
      rw [e1] at e2
      exact absurd e2 (Nat.lt_irrefl _)
    · rw [List.getD_eq_getElem?_getD, List.getElem?_eq_getElem hb]
      exact List.getElem_mem hb
    · obtain ⟨i, hi, e⟩ := List.mem_iff_getElem.mp hy
      have e2 : xs.getD i [] = y := by rw [List.getD_eq_getElem?_getD, List.getElem?_eq_getElem hi, ← e]; rfl
      rw [← e2]
      exact b2 i (by omega)
theorem i_minS {K : PySem.W.Frag} {H : Hp} {Q : VK} {a : Addr} {xs : List (List Nat)} (hs : SqL K H a (xs.map S)) (hne : xs ≠ []) (q : ∀ m, m ∈ xs → (∀ y ∈ xs, ¬ y < m) → Q (S m) H) : rMinS K [.ref a] H Q := ⟨a, xs, rfl, hs, hne, q⟩
/-! ### the rules, the written part named -/
section
variable {X : Cx} (K : PySem.W.Frag) {e o : Expr} {es : List Expr} {te to : TE} {ta : TA} {tg : Expr} {p pos apos cpos tpos : Pos} {elts : List Expr} {kk : Nat}
theorem opAdd (h : X.K = K := by rfl) : OpR X (binaryOp .Add) (addP K) := h ▸ op_addP
theorem opEq (hu : X.A.units + 64 < cLine) (h : X.K = K := by rfl) : OpR X (compareOp .Eq) (eqP K) := h ▸ op_eqP hu
theorem opNe (hu : X.A.units + 64 < cLine) (h : X.K = K := by rfl) : OpR X (compareOp .NotEq) (neP K) := h ▸ op_neP hu
theorem opIn (h : X.K = K := by rfl) : OpR X (compareOp .In) (inP K) := h ▸ op_inP
theorem opNotIn (h : X.K = K := by rfl) : OpR X (compareOp .NotIn) (notInP K) := h ▸ op_notInP
theorem ixK (h : X.K = K := by rfl) : IxR X (ixP K) := h ▸ ix_P
theorem slK (h : X.K = K := by rfl) : SlR X (slP K) := h ▸ sl_P
theorem piAny (he : PE X e te) (h : X.K = K := by rfl) : PI X tg e (iAny K te) := h ▸ pi_any he
theorem piEnum (hg : Gl X "enumerate") (hm : X.mg "enumerate" = none) (ha : PA X [e] ta) (h : X.K = K := by rfl) (hs : starEach [e] X.env = [(false, eval e X.env)] := by rfl) :
    PI X (.Tuple elts kk tpos) (.Call (.Name "enumerate" p) [e] [] pos) (iEnumP K ta) := h ▸ pi_enumP hg hm ha hs
theorem cLen (h : X.K = K := by rfl) : CallR X (.builtin "len") (rLenP K) := h ▸ call_lenP
theorem cSum (hc : X.calm = true) (h : X.K = K := by rfl) : CallR X (.builtin "sum") (rSum K) := h ▸ cr_sum hc
theorem cAll (hc : X.calm = true) (h : X.K = K := by rfl) : CallR X (.builtin "all") (rAll K) := h ▸ cr_all hc
theorem cTup (h : X.K = K := by rfl) : CallR X (.type "tuple") (rTupP K) := h ▸ call_tupP
theorem cIsi (h : X.K = K := by rfl) : CallR X (.builtin "isinstance") (rIsi K) := h ▸ call_isi
theorem cMinS (hc : X.calm = true) (h : X.K = K := by rfl) : CallR X (.builtin "min") (rMinS K) := h ▸ cr_minS hc
theorem cSortedS (h : X.K = K := by rfl) : CallR X (.builtin "sorted") (rSortedS K) := h ▸ cr_sortedS
theorem peJoin (ho : PE X o to) (he : PE X e te) (h : X.K = K := by rfl) (hs : starEach [e] X.env = [(false, eval e X.env)] := by rfl) (hbase : attributeBase o "join" X.env (eval o X.env) = eval o X.env := by rfl) (hline : (apos.endLine == pos.line) = true := by rfl) :
    PE X (.Call (.Attribute o "join" apos) [e] [] pos) (tM1 (rJoinP K) to te) := h ▸ pe_joinP ho he hs hbase hline
theorem pgTup {t : TGs} {n : Nat} (hc : X.calm = true) (ht : PGs X es t) (h : X.K = K := by rfl) (hn : (assignEach es X.env).length = n := by rfl) (hst : (assignEach es X.env).findIdx? (·.1) = none := by rfl) :
    PG X (.Tuple es kk pos) (gTup K n t) := h ▸ pg_tup hc ht hn hst
/-- xs.append(e) -/
def tApp (K : PySem.W.Frag) (to : TE) (t : TA) : TE := tBM K "list" rAppend to t
theorem peApp (ho : PE X o to) (ha : PA X (e :: es) ta) (h : X.K = K := by rfl) (hbase : attributeBase o "append" X.env (eval o X.env) = eval o X.env := by rfl)
    (hfew : ((backTo cpos (starEach (e :: es) X.env)).all (fun x => !x.1) && (backToKw cpos (keywordEach [] X.env)).all (fun x => x.1.isSome)
      && decide ((e :: es).length + ([] : List Keyword).length + (if ([] : List Keyword).isEmpty then 0 else 1) < 30)) = true := by rfl)
    (hline : (apos.endLine == cpos.line) = true := by rfl) (hs : starEach (e :: es) X.env = (false, eval e X.env) :: starEach es X.env := by rfl) (hplain : (backTo cpos (starEach es X.env)).any (·.1) = false := by rfl) :
    PE X (.Call (.Attribute o "append" apos) (e :: es) [] cpos) (tApp K to ta) := h ▸ pe_bm PySem.F.plainAttrs_list PySem.F.slot_list_append PySem.F.type_list_append mt_append ho ha hbase hfew hline hs hplain
end
section
variable {K : PySem.W.Frag} {σ : L2.St} {H : Hp} {Q : VK} {te : TE} {ta : TA} {l : Addr} {xs : List V} {v : V}
theorem i_app (q : te σ H fun x H1 => tyV K "list" x H1 ∧ ta σ H1 fun xs H2 => rAppend x xs H2 Q) : tApp K te ta σ H Q := q
theorem i_appAt (h : H l = some (.lst xs)) {P : Prop} (q : P) : tyV K "list" (.ref l) H ∧ P := ⟨.inl ⟨rfl, _, .inl (.inl h)⟩, q⟩
theorem i_appEnd (h : H l = some (.lst xs)) (hz : xs.length < 100000) (q : Q .non (upd H l (.lst (xs ++ [v])))) : rAppend (.ref l) [v] H Q := ⟨l, xs, v, rfl, rfl, h, Nat.lt_trans hz (by decide), q⟩
end
/-! ### stores into lists; a word between two statements -/
section
variable {σ : L2.St} {H : Hp} {D : Ends} {t u : TS} {to ti : TE} {v : V} {Qs : L2.St → Hp → Prop} {Qh : Hp → Prop} {p : Addr} {xs ys : List V} {z : Int}
theorem i_gsub {ts : TSet} (q : to σ H fun o H1 => ti σ H1 fun i H2 => ts o i v H2 fun H3 => Qs σ H3) : gSub to ti ts v σ H Qs := q
theorem i_setL (j : Nat) (h : H p = some (.lst xs)) (hj : ixN xs.length z = some j) (e : xs.set j v = ys) (q : Qh (upd H p (.lst ys))) : rSetL (.ref p) (.int z) v H Qh := ⟨p, xs, z, j, rfl, rfl, h, hj, by rw [e]; exact q⟩
theorem i_cut (Mid : L2.St → Hp → Prop) (h1 : t { D with nx := Mid } σ H) (h2 : ∀ σ' H', Mid σ' H' → u D σ' H') : Evl.tCut t u D σ H := ⟨Mid, h1, h2⟩
end
/-! ### "".join -/
theorem joinL_nil : ∀ ls : List (List Nat), TL.joinL [] ls = ls.flatten
  | [] => rfl
  | [p] => by simp [TL.joinL]
  | p :: q :: r => by
    show p ++ ([] ++ TL.joinL [] (q :: r)) = _
    rw [joinL_nil (q :: r)]
    rfl
theorem join_nil (ls : List (List Nat)) : Txt.join ⟨([] : List Nat).toArray⟩ (ls.map fun l => (⟨l.toArray⟩ : Str)) = ⟨ls.flatten.toArray⟩ := by
  refine TL.ext_tl ?_
  rw [TL.join_eq, TL.tl_join, List.map_map]
  show TL.joinL ([] : List Nat).toArray.toList (ls.map fun l => l.toArray.toList) = ls.flatten.toArray.toList
  simp [joinL_nil]
theorem i_join0 {K : PySem.W.Frag} {H : Hp} {Q : VK} {p : Addr} {ls : List (List Nat)} (hs : SqL K H p (ls.map S)) (hz : (ls.map List.length).sum ≤ 100000) (q : Q (S ls.flatten) H) : rJoinP K (S []) [.ref p] H Q := by
  refine ⟨⟨([] : List Nat).toArray⟩, p, ls.map fun l => (⟨l.toArray⟩ : Str), rfl, rfl, .inl ?_, ?_, ?_⟩
  · rw [List.map_map]; exact hs
  · rw [List.map_map]
    have e : (ls.map ((·.length) ∘ fun l => (⟨l.toArray⟩ : Str))) = ls.map List.length := List.map_congr_left fun l _ => str_len l
    rw [e]
    show (ls.map List.length).sum + _ * ([] : List Nat).toArray.size ≤ _
    simp
    omega
  · rw [join_nil]; exact q
theorem flat_one (cs : List Nat) : (cs.map fun c => [c]).flatten = cs := by
  induction cs with
  | nil => rfl
  | cons a r ih => rw [List.map_cons, List.flatten_cons, ih]; rfl
theorem len_one (cs : List Nat) : ((cs.map fun c => [c]).map List.length).sum = cs.length := by
  induction cs with
  | nil => rfl
  | cons a r ih => rw [List.map_cons, List.map_cons, List.sum_cons, ih, List.length_cons, List.length_cons, List.length_nil]; omega
/-- .. of signs -/
theorem i_join1 {K : PySem.W.Frag} {H : Hp} {Q : VK} {p : Addr} {cs : List Nat} (hs : SqL K H p (cs.map fun c => S [c])) (hz : cs.length ≤ 100000) (q : Q (S cs) H) : rJoinP K (S []) [.ref p] H Q := by
  refine i_join0 (ls := cs.map fun c => [c]) (by rw [List.map_map]; exact hs) (by rw [len_one]; exact hz) ?_
  rw [flat_one]
  exact q
theorem i_yes {σ : L2.St} {H : Hp} {QB : Bool → Hp → Prop} (q : QB true H) : tYes σ H QB := q
/-! ### sorted(some texts): its first -/
theorem ltCps_dec : ∀ a b : List Nat, Spec.ltCps a b = decide (a < b)
  | [], [] => by rw [decide_eq_false (List.lt_irrefl _)]; rfl
  | [], b :: t => by rw [decide_eq_true (List.nil_lt_cons b t)]; rfl
  | a :: r, [] => by rw [decide_eq_false (List.not_lt_nil _)]; rfl
  | a :: r, b :: t => by
    show (decide (a < b) || (a == b && Spec.ltCps r t)) = _
    rw [ltCps_dec r t, Bool.eq_iff_iff]
    simp [List.cons_lt_cons_iff]
theorem rising_all : ∀ (r : List Str) (p : Str), PyProof.Rows.risingS p r = true → ∀ y ∈ r, ¬ y.cps.toList < p.cps.toList
  | [], p, _, y, hy => by simp at hy
  | x :: r, p, h, y, hy => by
    have h' : (!Spec.ltCps x.cps.toList p.cps.toList && PyProof.Rows.risingS x r) = true := h
    rw [Bool.and_eq_true, ltCps_dec] at h'
    have h1 : ¬ x.cps.toList < p.cps.toList := by simpa using h'.1
    rcases List.mem_cons.mp hy with rfl | hy
    · exact h1
    · have h2 := rising_all r x h'.2 y hy
      rw [List.not_lt] at h1 h2 ⊢
      exact List.le_trans h1 h2
theorem i_sortedS {K : PySem.W.Frag} {H : Hp} {Q : VK} {a : Addr} {ls : List (List Nat)} (hs : SqL K H a (ls.map S)) (h64 : ls.length < 64)
    (q : ∀ (zs : List (List Nat)) (p : Addr), zs.Perm ls → (∀ m, zs[0]? = some m → m ∈ ls ∧ ∀ y ∈ ls, ¬ y < m) → H p = none → Q (.ref p) (upd H p (.lst (zs.map S)))) : rSortedS K [.ref a] H Q := by
  refine ⟨a, ls.map fun l => (⟨l.toArray⟩ : Str), rfl, by rw [List.map_map]; exact hs, by rw [List.length_map]; exact h64, fun ys p pm srt np => ?_⟩
  have e : ys = (ys.map fun z => z.cps.toList).map fun l => (⟨l.toArray⟩ : Str) := by
    rw [List.map_map]
    have : ys.map ((fun l => (⟨l.toArray⟩ : Str)) ∘ fun z => z.cps.toList) = ys.map id := List.map_congr_left fun z _ => rfl
    rw [this, List.map_id]
  have pm2 : (ys.map fun z => z.cps.toList).Perm ls := by
    have := pm.map fun z : Str => z.cps.toList
    rw [List.map_map] at this
    have e2 : ls.map ((fun z : Str => z.cps.toList) ∘ fun l => (⟨l.toArray⟩ : Str)) = ls.map id := List.map_congr_left fun l _ => rfl
    rw [e2, List.map_id] at this
    exact this
  have := q (ys.map fun z => z.cps.toList) p pm2 (fun m hm => ?_) np
  · rw [List.map_map] at this
    have e3 : ys.map (S ∘ fun z => z.cps.toList) = ys.map V.str := List.map_congr_left fun z _ => rfl
    rw [e3] at this
    exact this
  · have hmem : m ∈ ys.map fun z => z.cps.toList := List.mem_of_getElem? hm
    refine ⟨pm2.mem_iff.mp hmem, fun y hy => ?_⟩
    have hy2 := pm2.mem_iff.mpr hy
    obtain ⟨z, hz, rfl⟩ := List.mem_map.mp hy2
    cases ys with
    | nil => simp at hz
    | cons x r =>
      have hm' : x.cps.toList = m := by simpa using hm
      rw [← hm']
      have srt' : PyProof.Rows.risingS x r = true := srt
      rcases List.mem_cons.mp hz with rfl | hz
      · exact List.lt_irrefl _
      · exact rising_all r x srt' z hz
/-! ### isinstance(e, C), e.f in a suite; data compared -/
section
variable {K : PySem.W.Frag} {σ : L2.St} {H : Hp} {Q : VK} {a dd D C : Addr} {fs : List (Str × V)} {c x y v : V} {cv : Value} {b r : Bool} {i : Nat} {f : Str} {d1 d2 : PyData}
theorem i_isX (hdd : H dd = some (.xd fs)) (T : ExcD K D) (kc : ClsV c cv) (e : PySem.W.kitOne K (.ref D) cv = some b) (q : Q (.bl b) H) : rIsX K a (.ref D) (some dd) [.ref a, c] H Q := ⟨D, dd, fs, c, cv, b, rfl, rfl, rfl, hdd, T, kc, e, q⟩
theorem i_xf (h : σ[i]? = some (some (.ref a))) (hdd : H dd = some (.xd [(f, v)])) (q : Q v H) : tXf a (.ref C) (some dd) C f (tVar i) σ H Q := ⟨.ref a, h, rfl, rfl, dd, _, v, rfl, hdd, by simp [List.lookup], q⟩
theorem i_eq_data (h1 : Dp K H x d1) (h2 : Dp K H y d2) (s1 : SeqAt.shaped d1 = true) (s2 : SeqAt.shaped d2 = true) (e : PyData.eqv d1 d2 = r) (q : Q (.bl r) H) : eqP K x y H Q := .inr ⟨d1, d2, h1, h2, s1, s2, by rw [e]; exact q⟩
theorem i_ne_data (h1 : Dp K H x d1) (h2 : Dp K H y d2) (s1 : SeqAt.shaped d1 = true) (s2 : SeqAt.shaped d2 = true) (e : PyData.eqv d1 d2 = r) (q : Q (.bl (!r)) H) : neP K x y H Q := .inr ⟨d1, d2, h1, h2, s1, s2, by rw [e]; exact q⟩
theorem dp_bls (bs : List Bool) : DpAll K H (bs.map V.bl) (bs.map PyData.bool) := by
  induction bs with
  | nil => exact .nil
  | cons b r ih => exact .cons (.bl b) ih
theorem dp_ints (ns : List Int) : DpAll K H (ns.map V.int) (ns.map PyData.int) := by
  induction ns with
  | nil => exact .nil
  | cons b r ih => exact .cons (.int b) ih
end
theorem cIsX (K : PySem.W.Frag) {X : Cx} {a : Addr} {oe : Obj} {cls : Value} {d : Option Addr} {pn : List (Addr × Obj)} (hz : Zc cls d oe) (hf : ∃ vs, oe.data = .fields vs) (h : X.K = K := by rfl) : CallR (X.suite a ((a, oe) :: pn)) (.builtin "isinstance") (rIsX K a cls d) := h ▸ call_isX hz hf
/-- what a clause asks, at an error of a class that it names -/
theorem i_caught {K : PySem.W.Frag} {C : Addr} {c : Value} {i : Nat} {ts : Addr → Value → Option Addr → TS} {Wout : WX} {D : Ends} {d : Option Addr} {σ : L2.St} {H : Hp} (h : PySem.W.exmOne K (.ref C) c = some true)
    (q : ∀ a, H a = none → ts a (.ref C) d { nx := fun σ' H' => D.nx (σ'.set i none) H', rt := D.rt, bk := fun σ' H' => D.bk (σ'.set i none) H', ct := fun σ' H' => D.ct (σ'.set i none) H' } (σ.set i (some (.ref a))) H) : wAs K c i ts Wout D (.ref C) d σ H :=
  ⟨true, h, fun _ => q, fun z => nomatch z⟩
/-! ### isinstance and clauses, from what stands of the classes -/
theorem kit_ref {K : PySem.W.Frag} {C D : Addr} {b : Bool} (hi : PySem.W.isClsIn K D = true) (ht : PySem.W.typeIn K (.ref D) = some (.type "type")) (hs : PySem.W.subIn K (.ref D) (.ref D) = some true) (e : PySem.W.subIn K (.ref C) (.ref D) = some b) : PySem.W.kitOne K (.ref C) (.ref D) = some b := by
  unfold PySem.W.kitOne
  by_cases h : C = D
  · subst h
    rw [hs] at e
    rw [if_pos (beq_self_eq_true _)]
    exact e
  · rw [if_neg (fun z => h (by simpa using z))]
    show (if ((PySem.W.clsIn K D).isSome && PySem.W.typeIn K (.ref D) == some (.type "type")) = true then PySem.W.subIn K (.ref C) (.ref D) else none) = _
    rw [show (PySem.W.clsIn K D).isSome = true from hi, ht, if_pos (by simp)]
    exact e
theorem kit_base {K : PySem.W.Frag} {C : Addr} {T : String} {b : Bool} (hm : PySem.W.kitMeta T = true) (e : PySem.W.subIn K (.ref C) (.type T) = some b) : PySem.W.kitOne K (.ref C) (.type T) = some b := by
  unfold PySem.W.kitOne
  rw [if_neg (by simp)]
  show (if PySem.W.kitMeta T = true then PySem.W.subIn K (.ref C) (.type T) else none) = _
  rw [if_pos hm]
  exact e
theorem exm_ref {K : PySem.W.Frag} {C D : Addr} {b : Bool} (hi : PySem.W.isClsIn K D = true) (ht : PySem.W.typeIn K (.ref D) = some (.type "type")) (hb : PySem.W.subIn K (.ref D) (.type "BaseException") = some true) (e : PySem.W.subIn K (.ref C) (.ref D) = some b) : PySem.W.exmOne K (.ref C) (.ref D) = some b := by
  unfold PySem.W.exmOne
  rw [hb, if_pos (by simp)]
  show (if ((PySem.W.clsIn K D).isSome && PySem.W.typeIn K (.ref D) == some (.type "type")) = true then PySem.W.subIn K (.ref C) (.ref D) else none) = _
  rw [show (PySem.W.clsIn K D).isSome = true from hi, ht, if_pos (by simp)]
  exact e
/-! ### what is never come to; a comprehension in a comprehension -/
theorem pe_never {X : Cx} {e : Expr} : PE X e (fun _ _ _ => False) := ⟨fun _ _ _ _ _ _ h => h.elim⟩
theorem passN {X : Cx} : Passes (L2.CX X.prog X.w) X E0 := fun _ _ _ _ _ _ _ ⟨_, _, _, _, _, _, _, _, _, _, _, _, h⟩ => h.elim
theorem pss_never {X : Cx} {st : List Stmt} : PSs X st (fun _ _ _ => False) := ⟨fun _ _ _ _ _ _ h => h.elim⟩
theorem blkOk_in {N : List Str} {sc scope scope2 : Scope} {own : List (Str × Nat)} {X : Cx} {s : Shared} {H : Hp} {cl : List (Str × Addr)} {C : Addr} {fp : List Addr} (hN : X.N = N) (he : X.env.scope = sc) (h : blkC N (relS scope sc) scope2 own = true) :
    BlkOk (X.blk s H scope (compEnvC scope cl C X.env) fp).N (X.blk s H scope (compEnvC scope cl C X.env) fp).env.scope scope2 own := by
  subst hN he
  exact blkOk_by h
theorem i_is_bl {H : Hp} {Q : VK} {b : Bool} (q : Q (.bl false) H) : isP (.bl b) .non H Q := ⟨rfl, q⟩
theorem i_isn_bl {H : Hp} {Q : VK} {b : Bool} (q : Q (.bl true) H) : isNotP (.bl b) .non H Q := ⟨rfl, q⟩
theorem i_int_bl {H : Hp} {Q : VK} {b : Bool} (q : Q (.int (if b then 1 else 0)) H) : rIntP [.bl b] H Q := .inr ⟨b, rfl, q⟩
section
variable {K : PySem.W.Frag} {σ : L2.St} {H : Hp} {Q : VK} {D : Ends} {te : TE} {ta : TA} {i j : Nat} {u v w x : V} {a : Addr} {Qs : L2.St → Hp → Prop}
theorem i_par (q : ta σ H fun vs H1 => ∃ v w, vs = [v, w] ∧ D.nx ((σ.set i (some v)).set j (some w)) H1) : tPar i j ta D σ H := q
theorem i_par2 (q : D.nx ((σ.set i (some v)).set j (some w)) H) : ∃ v' w', [v, w] = [v', w'] ∧ D.nx ((σ.set i (some v')).set j (some w')) H := ⟨v, w, rfl, q⟩
theorem i_aug {ti : TIp} (h : σ[i]? = some (some x)) (q : te σ H fun y H1 => ti x y H1 fun z H2 => D.nx (σ.set i (some z)) H2) : tAug i te ti D σ H := ⟨x, h, q⟩
theorem i_ipI {f : Int → Int → Int} {a b : Int} (q : Q (.int (f a b)) H) : ipI f (.int a) (.int b) H Q := ⟨a, b, rfl, rfl, q⟩
theorem i_gtup2 (h : SqT K H a [u, v]) (q : Qs ((σ.set i (some u)).set j (some v)) H) : gTup K 2 (gCons (gName i) (gCons (gName j) gNil)) (.ref a) σ H Qs := ⟨a, _, rfl, h, rfl, u, _, rfl, v, _, rfl, rfl, q⟩
theorem i_while {c : TT} {tb : TS} (W : Nat → L2.St → Hp → Prop) (m : Nat) (h0 : W m σ H)
    (h : ∀ m σ H, W m σ H → c σ H fun b H1 => if b = true then ∃ N : L2.St → Hp → Prop, (∀ σ' H', N σ' H' → ∃ m', m' < m ∧ W m' σ' H') ∧ tb { D with nx := N, ct := N, bk := D.nx } σ H1 else D.nx σ H1) : tWhile c tb D σ H := ⟨W, ⟨m, h0⟩, h⟩
theorem i_turn {tb : TS} {W : Nat → L2.St → Hp → Prop} {m : Nat} (q : tb { D with nx := fun σ' H' => ∃ m', m' < m ∧ W m' σ' H', ct := fun σ' H' => ∃ m', m' < m ∧ W m' σ' H', bk := D.nx } σ H) :
    ∃ N : L2.St → Hp → Prop, (∀ σ' H', N σ' H' → ∃ m', m' < m ∧ W m' σ' H') ∧ tb { D with nx := N, ct := N, bk := D.nx } σ H := ⟨_, fun _ _ h => h, q⟩
theorem i_lstRg1 (q : te σ H fun x H1 => ∃ n, x = .int n ∧ RgOk 0 n ∧ ∀ q, H1 q = none → Q (.ref q) (upd H1 q (.lst (rgV 0 n)))) : tLstRg (tRg1 te) σ H Q := q
theorem rgV_nat (n : Nat) : rgV 0 (n : Int) = (List.range n).map fun (i : Nat) => V.int (i : Int) := by
  unfold rgV
  rw [Int.sub_zero, Int.toNat_natCast]
  exact List.map_congr_left fun i _ => by rw [Int.zero_add]
theorem i_rg {n : Nat} {P : Addr → Prop} (hn : n ≤ 100000) (q : ∀ q, H q = none → P q) : RgOk 0 (n : Int) ∧ ∀ q, H q = none → P q := ⟨⟨by omega, by omega, by omega, by omega, by omega⟩, q⟩
end
end Fg
/-! Loops and comprehensions, by what a turn does. -/
namespace Fg
open PySem PySem.Spec PyProof.Rows L2
theorem same_upd {H : Hp} {p : Addr} {o : HO} (h : H p = none) : Same H (upd H p o) := fun b x e => by
  rw [upd_ne (ne_of_none e h)]
  exact e
theorem Same.upd {H H' : Hp} {p : Addr} {o : HO} (e : Same H H') (h : H p = none) : Same H (upd H' p o) := fun b x eb => by
  rw [upd_ne (ne_of_none eb h)]
  exact e b x eb
theorem Same.tup {K : PySem.W.Frag} {H H' : Hp} {a : Addr} {xs : List V} (e : Same H H') (h : SqT K H a xs) : SqT K H' a xs := by
  rcases h with (h | ⟨o, h⟩) | h
  · exact .inl (.inl (e _ _ h))
  · exact .inl (.inr ⟨o, e _ _ h⟩)
  · exact .inr h
section
variable {K : PySem.W.Frag} {σ : L2.St} {H : Hp} {Q : VK} {D : Ends} {te tl : TE} {tt : TT} {ta : TA} {tb : TS} {j : Nat} {g : TG} {a : Addr} {xs : List V} {z : List Nat} {vs : List Nat}
/-- for j in range(n) -/
theorem f_rng1 (n : Nat) (ha : ∀ R : List V → Hp → Prop, R [.int (n : Int)] H → ta σ H R) (hn : n ≤ 100000000) (Pv : Nat → L2.St → Hp → Prop) (h0 : Pv 0 σ H)
    (hs : ∀ i σ' H', i < n → Pv i σ' H' → g (.int (i : Int)) σ' H' fun σ2 H2 => tb { D with nx := Pv (i + 1), ct := Pv (i + 1), bk := D.nx } σ2 H2) (hd : ∀ σ' H', Pv n σ' H' → D.nx σ' H') : tFor (iRng1 ta) g tb D σ H := by
  refine ha _ ⟨(n : Int), rfl, by omega, by omega, ?_⟩
  rw [Int.toNat_natCast]
  refine for_range Pv h0 (fun i σ' H' hi p => ?_) hd
  rw [Int.zero_add]
  exact hs i σ' H' hi p
/-- for j in range(lo, n) -/
theorem f_rng2 (lo n : Nat) (ha : ∀ R : List V → Hp → Prop, R [.int (lo : Int), .int (n : Int)] H → ta σ H R) (hn : lo ≤ 100000 ∧ n ≤ 100000000) (Pv : Nat → L2.St → Hp → Prop) (h0 : Pv 0 σ H)
    (hs : ∀ i σ' H', lo + i < n → Pv i σ' H' → g (.int ((lo + i : Nat) : Int)) σ' H' fun σ2 H2 => tb { D with nx := Pv (i + 1), ct := Pv (i + 1), bk := D.nx } σ2 H2) (hd : ∀ σ' H', Pv (n - lo) σ' H' → D.nx σ' H') : tFor (iRng2 ta) g tb D σ H := by
  refine ha _ ⟨(lo : Int), (n : Int), rfl, ⟨by omega, by omega, by omega, by omega⟩, ?_⟩
  have e : ((n : Int) - (lo : Int)).toNat = n - lo := by omega
  rw [e]
  refine for_range Pv h0 (fun i σ' H' hi p => ?_) hd
  rw [← Int.natCast_add]
  exact hs i σ' H' (by omega) p
theorem f_lst (ha : ∀ R : VK, R (.ref a) H → te σ H R) (hx : SqL K H a xs) (Pv : Nat → L2.St → Hp → Prop) (h0 : Pv 0 σ H) (hl : ∀ i σ' H', i ≤ xs.length → Pv i σ' H' → SqL K H' a xs)
    (hs : ∀ i x σ' H', xs[i]? = some x → Pv i σ' H' → g x σ' H' fun σ2 H2 => tb { D with nx := Pv (i + 1), ct := Pv (i + 1), bk := D.nx } σ2 H2) (hd : ∀ σ' H', Pv xs.length σ' H' → D.nx σ' H') : tFor (iAny K te) g tb D σ H :=
  ha _ (.inl ⟨a, xs, rfl, hx, for_list Pv h0 hl hs hd⟩)
theorem f_tup (ha : ∀ R : VK, R (.ref a) H → te σ H R) (hx : SqT K H a xs) (Pv : Nat → L2.St → Hp → Prop) (h0 : Pv 0 σ H) (hl : ∀ i σ' H', i ≤ xs.length → Pv i σ' H' → SqT K H' a xs)
    (hs : ∀ i x σ' H', xs[i]? = some x → Pv i σ' H' → g x σ' H' fun σ2 H2 => tb { D with nx := Pv (i + 1), ct := Pv (i + 1), bk := D.nx } σ2 H2) (hd : ∀ σ' H', Pv xs.length σ' H' → D.nx σ' H') : tFor (iAny K te) g tb D σ H :=
  ha _ (.inr (.inl ⟨a, xs, rfl, hx, for_tup Pv h0 hl hs hd⟩))
theorem f_str (ha : ∀ R : VK, R (S z) H → te σ H R) (Pv : Nat → L2.St → Hp → Prop) (h0 : Pv 0 σ H)
    (hs : ∀ i c σ' H', z[i]? = some c → Pv i σ' H' → g (S [c]) σ' H' fun σ2 H2 => tb { D with nx := Pv (i + 1), ct := Pv (i + 1), bk := D.nx } σ2 H2) (hd : ∀ σ' H', Pv z.length σ' H' → D.nx σ' H') : tFor (iAny K te) g tb D σ H := by
  have e : (⟨z.toArray⟩ : Str).cps.size = z.length := str_len z
  refine ha _ (.inr (.inr ⟨_, rfl, for_it walk_str Pv h0 (fun _ _ _ _ _ => True.intro) (fun i x σ' H' H2 hi p y => ?_) (by rw [e]; exact hd)⟩))
  obtain ⟨rfl, c, hc, rfl⟩ := y
  exact hs i c σ' _ (by simpa using hc) p
/-- for i, c in enumerate(text) -/
theorem f_enumS {i1 i2 : Nat} (ha : ∀ R : List V → Hp → Prop, R [S z] H → ta σ H R) (Pv : Nat → L2.St → Hp → Prop) (h0 : Pv 0 σ H)
    (hs : ∀ i c σ' H' T, z[i]? = some c → Pv i σ' H' → H' T = none → tb { D with nx := Pv (i + 1), ct := Pv (i + 1), bk := D.nx } ((σ'.set i1 (some (.int (i : Int)))).set i2 (some (S [c]))) (upd H' T (.tup [.int (i : Int), S [c]]))) (hd : ∀ σ' H', Pv z.length σ' H' → D.nx σ' H') :
    tFor (iEnumP K ta) (gTup K 2 (gCons (gName i1) (gCons (gName i2) gNil))) tb D σ H := by
  have e : (⟨z.toArray⟩ : Str).cps.size = z.length := str_len z
  refine ha _ (.inr ⟨⟨z.toArray⟩, rfl, ?_⟩)
  have w : Walk (Ites ⟨z.toArray⟩) z.length (fun _ => True) (fun i Ha v Hb => ∃ T c, v = .ref T ∧ Ha T = none ∧ Hb = upd Ha T (.tup [.int (i : Nat), S [c]]) ∧ z[i]? = some c) := by
    refine ⟨fun i H' hi _ => by show i < (⟨z.toArray⟩ : Str).cps.size; rw [e]; exact hi, fun H' _ => e.symm, fun i H' x H2 hi _ y => ?_⟩
    obtain ⟨T, c, h1, h2, h3, h4⟩ := y
    exact ⟨T, c, h1, h2, h3, by simpa using h4⟩
  refine for_it w Pv h0 (fun _ _ _ _ _ => True.intro) (fun i x σ' H' H2 hi p y => ?_) hd
  obtain ⟨T, c, rfl, nT, rfl, hc⟩ := y
  exact ⟨T, _, rfl, SqT.of upd_same, rfl, _, _, rfl, _, _, rfl, rfl, hs i c σ' H' T hc p nT⟩
/-! comprehensions whose elements leave what stood -/
def Lw (H1 : Hp) (Dl : Addr) (l : Nat → List V) (i : Nat) (H' : Hp) : Prop := H1 Dl = none ∧ Same H1 H' ∧ H' Dl = some (.lst (l i))
/-- the kept ones among the first n -/
def kept (f : Nat → Bool) (v : Nat → V) (n : Nat) : List V := ((List.range n).filter f).map v
theorem kept_yes {f : Nat → Bool} {v : Nat → V} {n : Nat} (h : f n = true) : kept f v (n + 1) = kept f v n ++ [v n] := by
  unfold kept
  rw [List.range_succ, List.filter_append, List.map_append, List.filter_cons_of_pos h] <;> rfl
theorem kept_no {f : Nat → Bool} {v : Nat → V} {n : Nat} (h : f n = false) : kept f v (n + 1) = kept f v n := by
  unfold kept
  rw [List.range_succ, List.filter_append, List.map_append, List.filter_cons_of_neg (by rw [h]; decide)]
  simp
theorem kept_len (f : Nat → Bool) (v : Nat → V) (n : Nat) : (kept f v n).length ≤ n := by
  unfold kept
  rw [List.length_map]
  exact Nat.le_trans (List.length_filter_le _ _) (by rw [List.length_range]; exact Nat.le_refl _)
theorem kept_all (v : Nat → V) (n : Nat) : kept (fun _ => true) v n = (List.range n).map v := by
  unfold kept
  rw [List.filter_eq_self.mpr (fun _ _ => rfl)]
theorem lw_turn {H1 H' : Hp} {Dl : Addr} {f : Nat → Bool} {v : Nat → V} {i : Nat} {σ2 : L2.St} (p : Lw H1 Dl (kept f v) i H') (hi : i < 100000)
    (ht : ∀ H2, Same H1 H2 → ∀ QB : Bool → Hp → Prop, (∀ H3, Same H2 H3 → QB (f i) H3) → tt σ2 H2 QB) (he : ∀ H2, Same H1 H2 → f i = true → ∀ QV : VK, (∀ H3, Same H2 H3 → QV (v i) H3) → te σ2 H2 QV) :
    tt σ2 H' fun b H3 => if b = true then te σ2 H3 fun y H4 => ∃ acc, H4 Dl = some (.lst acc) ∧ acc.length < sizeLine ∧ Lw H1 Dl (kept f v) (i + 1) (upd H4 Dl (.lst (acc ++ [y]))) else Lw H1 Dl (kept f v) (i + 1) H3 := by
  obtain ⟨n1, s1, d1⟩ := p
  refine ht H' s1 _ fun H3 s3 => ?_
  cases hf : f i with
  | true =>
    rw [if_pos rfl]
    refine he H3 (s1.trans s3) hf _ fun H4 s4 => ⟨kept f v i, s4 _ _ (s3 _ _ d1), ?_, n1, ?_, ?_⟩
    · exact Nat.lt_of_le_of_lt (kept_len f v i) (Nat.lt_trans hi (by decide))
    · exact Same.upd ((s1.trans s3).trans s4) n1
    · rw [kept_yes hf]; exact upd_same
  | false =>
    rw [if_neg (by decide)]
    exact ⟨n1, s1.trans s3, by rw [kept_no hf]; exact s3 _ _ d1⟩
/-- [te for j in range(n) if tt] -/
theorem c_rng1 (n : Nat) (ha : ∀ R : List V → Hp → Prop, R [.int (n : Int)] H → ta σ H R) (hn : n ≤ 100000) (f : Nat → Bool) (v : Nat → V) (hw : ∀ x, wipe ((wipe σ vs).set j (some x)) vs = wipe σ vs)
    (ht : ∀ i H2, i < n → Same H H2 → ∀ QB : Bool → Hp → Prop, (∀ H3, Same H2 H3 → QB (f i) H3) → tt ((wipe σ vs).set j (some (.int (i : Int)))) H2 QB)
    (he : ∀ i H2, i < n → Same H H2 → f i = true → ∀ QV : VK, (∀ H3, Same H2 H3 → QV (v i) H3) → te ((wipe σ vs).set j (some (.int (i : Int)))) H2 QV)
    (q : ∀ Dl H2, H Dl = none → Same H H2 → H2 Dl = some (.lst (kept f v n)) → Q (.ref Dl) H2) : tLc (iRng1 ta) (gName j) tt te vs σ H Q := by
  refine ha _ ⟨(n : Int), rfl, by omega, by omega, fun Dl nD => ?_⟩
  rw [Int.toNat_natCast]
  refine lc_range (Lw H Dl (kept f v)) ⟨nD, same_upd nD, upd_same⟩ (fun i H' hi p => ?_) (fun H' p => q Dl H' p.1 p.2.1 p.2.2)
  rw [Int.zero_add]
  exact ⟨hw _, lw_turn p (by omega) (fun H2 s2 => ht i H2 hi s2) (fun H2 s2 => he i H2 hi s2)⟩
/-- .. every one -/
theorem c_rng1A (n : Nat) (ha : ∀ R : List V → Hp → Prop, R [.int (n : Int)] H → ta σ H R) (hn : n ≤ 100000) (v : Nat → V) (hw : ∀ x, wipe ((wipe σ vs).set j (some x)) vs = wipe σ vs)
    (he : ∀ i H2, i < n → Same H H2 → ∀ QV : VK, (∀ H3, Same H2 H3 → QV (v i) H3) → te ((wipe σ vs).set j (some (.int (i : Int)))) H2 QV)
    (q : ∀ Dl H2, H Dl = none → Same H H2 → H2 Dl = some (.lst ((List.range n).map v)) → Q (.ref Dl) H2) : tLc (iRng1 ta) (gName j) tYes te vs σ H Q :=
  c_rng1 n ha hn (fun _ => true) v hw (fun i H2 hi s2 QB k => k H2 (L2.Same.refl H2)) (fun i H2 hi s2 _ => he i H2 hi s2) (fun Dl H2 n1 s1 d1 => q Dl H2 n1 s1 (by rw [kept_all] at d1; exact d1))
/-- [te for j in a list if tt] -/
theorem c_lst (ha : ∀ R : VK, R (.ref a) H → tl σ H R) (hx : SqL K H a xs) (hn : xs.length ≤ 100000) (f : Nat → Bool) (v : Nat → V) (hw : ∀ x, wipe ((wipe σ vs).set j (some x)) vs = wipe σ vs)
    (ht : ∀ i x H2, xs[i]? = some x → Same H H2 → ∀ QB : Bool → Hp → Prop, (∀ H3, Same H2 H3 → QB (f i) H3) → tt ((wipe σ vs).set j (some x)) H2 QB)
    (he : ∀ i x H2, xs[i]? = some x → Same H H2 → f i = true → ∀ QV : VK, (∀ H3, Same H2 H3 → QV (v i) H3) → te ((wipe σ vs).set j (some x)) H2 QV)
    (q : ∀ Dl H2, H Dl = none → Same H H2 → H2 Dl = some (.lst (kept f v xs.length)) → Q (.ref Dl) H2) : tLc (iAny K tl) (gName j) tt te vs σ H Q := by
  refine ha _ (.inl ⟨a, xs, rfl, hx, fun Dl nD => ?_⟩)
  refine lc_list (Lw H Dl (kept f v)) ⟨nD, same_upd nD, upd_same⟩ (fun i H' hi p => p.2.1.seq hx) (fun i x H' hi p => ?_) (fun H' p => q Dl H' p.1 p.2.1 p.2.2)
  have hlt := (List.getElem?_eq_some_iff.mp hi).1
  exact ⟨hw _, lw_turn p (by omega) (fun H2 s2 => ht i x H2 hi s2) (fun H2 s2 => he i x H2 hi s2)⟩
/-- [te for j in a tuple if tt] -/
theorem c_tup (ha : ∀ R : VK, R (.ref a) H → tl σ H R) (hx : SqT K H a xs) (hn : xs.length ≤ 100000) (f : Nat → Bool) (v : Nat → V) (hw : ∀ x, wipe ((wipe σ vs).set j (some x)) vs = wipe σ vs)
    (ht : ∀ i x H2, xs[i]? = some x → Same H H2 → ∀ QB : Bool → Hp → Prop, (∀ H3, Same H2 H3 → QB (f i) H3) → tt ((wipe σ vs).set j (some x)) H2 QB)
    (he : ∀ i x H2, xs[i]? = some x → Same H H2 → f i = true → ∀ QV : VK, (∀ H3, Same H2 H3 → QV (v i) H3) → te ((wipe σ vs).set j (some x)) H2 QV)
    (q : ∀ Dl H2, H Dl = none → Same H H2 → H2 Dl = some (.lst (kept f v xs.length)) → Q (.ref Dl) H2) : tLc (iAny K tl) (gName j) tt te vs σ H Q := by
  refine ha _ (.inr (.inl ⟨a, xs, rfl, hx, fun Dl nD => ?_⟩))
  refine lc_tup (Lw H Dl (kept f v)) ⟨nD, same_upd nD, upd_same⟩ (fun i H' hi p => Same.tup p.2.1 hx) (fun i x H' hi p => ?_) (fun H' p => q Dl H' p.1 p.2.1 p.2.2)
  have hlt := (List.getElem?_eq_some_iff.mp hi).1
  exact ⟨hw _, lw_turn p (by omega) (fun H2 s2 => ht i x H2 hi s2) (fun H2 s2 => he i x H2 hi s2)⟩
end
/-! a loop over what the text makes anew -/
def LoopG (g : TG) (tb : TS) (D : Ends) (σ : L2.St) : It → Hp → Prop := fun J H1 => tFor (fun _ _ R => R J H1) g tb D σ H1
section
variable {K : PySem.W.Frag} {σ : L2.St} {H : Hp} {D : Ends} {te : TE} {tb : TS} {g : TG} {a : Addr} {xs : List V}
theorem i_for (q : te σ H fun x H1 => (∃ a xs, x = .ref a ∧ SqL K H1 a xs ∧ LoopG g tb D σ (Itl K a) H1) ∨ (∃ a xs, x = .ref a ∧ SqT K H1 a xs ∧ LoopG g tb D σ (Itt K a) H1) ∨ (∃ z, x = .str z ∧ LoopG g tb D σ (Its z) H1)) : tFor (iAny K te) g tb D σ H := q
theorem i_forL {B : Prop} (hx : SqL K H a xs) (Pv : Nat → L2.St → Hp → Prop) (h0 : Pv 0 σ H) (hl : ∀ i σ' H', i ≤ xs.length → Pv i σ' H' → SqL K H' a xs)
    (hs : ∀ i x σ' H', xs[i]? = some x → Pv i σ' H' → g x σ' H' fun σ2 H2 => tb { D with nx := Pv (i + 1), ct := Pv (i + 1), bk := D.nx } σ2 H2) (hd : ∀ σ' H', Pv xs.length σ' H' → D.nx σ' H') :
    (∃ a' xs', V.ref a = .ref a' ∧ SqL K H a' xs' ∧ LoopG g tb D σ (Itl K a') H) ∨ B := .inl ⟨a, xs, rfl, hx, for_list Pv h0 hl hs hd⟩
end
/-! a loop over a range whose end the text makes anew; lists put together, cut -/
section
variable {K : PySem.W.Frag} {σ : L2.St} {H : Hp} {Q : VK} {D : Ends} {ta : TA} {tb : TS} {g : TG} {a b : Addr} {xs ys : List V}
theorem i_forR (q : ta σ H fun vs H1 => ∃ j : Int, vs = [.int j] ∧ -(2 ^ 62) ≤ j ∧ j < 2 ^ 62 ∧ LoopG g tb D σ (Itr 0 j.toNat) H1) : tFor (iRng1 ta) g tb D σ H := q
theorem i_rngD {n : Int} (h0 : 0 ≤ n) (h : n ≤ 100000000) (Pv : Nat → L2.St → Hp → Prop) (hp : Pv 0 σ H)
    (hs : ∀ (i : Nat) σ' H', (i : Int) < n → Pv i σ' H' → g (.int (i : Int)) σ' H' fun σ2 H2 => tb { D with nx := Pv (i + 1), ct := Pv (i + 1), bk := D.nx } σ2 H2) (hd : ∀ σ' H', Pv n.toNat σ' H' → D.nx σ' H') :
    ∃ j : Int, [V.int n] = [.int j] ∧ -(2 ^ 62) ≤ j ∧ j < 2 ^ 62 ∧ LoopG g tb D σ (Itr 0 j.toNat) H := by
  refine ⟨n, rfl, by omega, by omega, ?_⟩
  refine for_range Pv hp (fun i σ' H' hi p => ?_) hd
  rw [Int.zero_add]
  exact hs i σ' H' (by omega) p
theorem i_catL (h1 : H a = some (.lst xs)) (h2 : H b = some (.lst ys)) (hz : xs.length + ys.length ≤ 100000) (q : ∀ p, H p = none → Q (.ref p) (upd H p (.lst (xs ++ ys)))) : addP K (.ref a) (.ref b) H Q :=
  .inr (.inr (.inl ⟨a, b, xs, ys, rfl, rfl, h1, h2, Nat.le_trans hz (by decide), q⟩))
theorem i_slL {lo hi : Option Int} (h : SqL K H a xs) (q : ∀ p, H p = none → Q (.ref p) (upd H p (.lst (cutV xs lo hi)))) : slP K (.ref a) lo hi H Q := .inl ⟨a, xs, rfl, h, q⟩
theorem cutV_init (xs : List V) : cutV xs none (some (-1)) = xs.dropLast := by
  unfold cutV
  rw [HT.sIx_none, List.drop_zero, Nat.sub_zero, List.dropLast_eq_take]
  have e : HT.sIx xs.length xs.length (some (-1)) = xs.length - 1 := by
    unfold HT.sIx
    dsimp only
    rw [if_pos (by decide)]
    omega
  rw [e]
theorem cutV_to {xs : List V} (k : Nat) : cutV xs none (some (k : Int)) = xs.take k := by
  unfold cutV
  rw [HT.sIx_none, List.drop_zero, Nat.sub_zero, HT.sIx_nat]
  by_cases h : k ≤ xs.length
  · rw [Nat.min_eq_left h]
  · rw [Nat.min_eq_right (by omega), List.take_length, List.take_of_length_le (by omega)]
theorem atI_last {xs : List V} {v : V} : atI (xs ++ [v]) (-1) = some v := by
  unfold atI ixN
  rw [if_neg (by decide), if_pos (by rw [List.length_append, List.length_singleton]; omega), Option.bind_some]
  have e : (-1 + ((xs ++ [v]).length : Int)).toNat = xs.length := by rw [List.length_append, List.length_singleton]; omega
  rw [e, List.getElem?_append_right (Nat.le_refl _), Nat.sub_self]
  rfl
end
end Fg
/-! A comprehension over a range, its list and what it makes anew. -/
namespace Fg
open PySem PySem.Spec PyProof.Rows L2
def LcG (g : TG) (tt : TT) (te : TE) (vs : List Nat) (σ : L2.St) (Q : VK) : It → Hp → Prop := fun J H1 => tLc (fun _ _ R => R J H1) g tt te vs σ H1 Q
section
variable {K : PySem.W.Frag} {σ : L2.St} {H : Hp} {Q : VK} {te tl : TE} {tt : TT} {g : TG} {ta : TA} {j : Nat} {vs : List Nat} {a : Addr} {xs : List V}
theorem i_lcR (q : ta σ H fun us H1 => ∃ n : Int, us = [.int n] ∧ -(2 ^ 62) ≤ n ∧ n < 2 ^ 62 ∧ LcG g tt te vs σ Q (Itr 0 n.toNat) H1) : tLc (iRng1 ta) g tt te vs σ H Q := q
theorem i_lcRg {n : Int} (h0 : 0 ≤ n) (h : n ≤ 100000) (hw : ∀ x, wipe ((wipe σ vs).set j (some x)) vs = wipe σ vs)
    (k : ∀ Dl, H Dl = none → ∃ W : Nat → Hp → Prop, W 0 (upd H Dl (.lst [])) ∧ (∀ (i : Nat) H', (i : Int) < n → W i H' → te ((wipe σ vs).set j (some (.int (i : Int)))) H' fun y H2 => ∃ acc, H2 Dl = some (.lst acc) ∧ acc.length < sizeLine ∧ W (i + 1) (upd H2 Dl (.lst (acc ++ [y])))) ∧ ∀ H', W n.toNat H' → Q (.ref Dl) H') :
    ∃ n' : Int, [V.int n] = [.int n'] ∧ -(2 ^ 62) ≤ n' ∧ n' < 2 ^ 62 ∧ LcG (gName j) tYes te vs σ Q (Itr 0 n'.toNat) H := by
  refine ⟨n, rfl, by omega, by omega, fun Dl nD => ?_⟩
  obtain ⟨W, w0, ws, wd⟩ := k Dl nD
  refine lc_range W w0 (fun i H' hi p => ?_) wd
  rw [Int.zero_add]
  exact ⟨hw _, i_yes (i_tt (ws i H' (by omega) p))⟩
end
end Fg
/-! Defs whose promise holds where nothing is being displayed around them (so that repr may be asked of data), and the end of a law of such defs. -/
namespace Fg
open PySem PySem.Spec PyProof.Rows L2
/-- the promise of the def at f, where no display stands around -/
structure GOk (P : Program) (w : World) (K : PySem.W.Frag) (mg : Str → Option Value) (base : Heap) (CX : CXT) (k : Nat) (f : Addr) (fd : FuncData) (ps : List Str) (sp : Sp) : Prop where
  many : ∀ vs H Q E, sp vs H Q E → vs.length = ps.length
  runs : ∀ (B : Around) (o : List Env) (t : Shared) (H : Hp) (ar : Args) (us : List Value) (vs : List V) (Q : VK) (E : XK),
    B.guards = some [] → Room k B → Env0 P w K mg base B o t H → BindsTo t fd ar (ps.zip us) → Vals vs us →
    sp vs H Q E → codeAny (model P w) B (.call (.ref f) ar) (CR CX o P w H t Q E) t
section
variable {P : Program} {w : World} {K : PySem.W.Frag} {mg : Str → Option Value} {base : Heap} {CX : CXT} {k : Nat} {f : Addr} {fd : FuncData} {ps N : List Str} {sp : Sp} {x q : Str} {st : Stmt}
theorem GOk.of (F : FnOk P w K mg base CX k f fd ps sp) : GOk P w K mg base CX k f fd ps sp :=
  ⟨F.len, fun B o t H ar us vs Q E _ r e b v s => F.run B o t H ar us vs Q E r e b v s⟩
/-- a def's body, walked where no display stands around -/
theorem gok_mk (F : Fun K x q st f fd) (S : FnScope N ps (defScope st)) (many : ∀ vs H Q E, sp vs H Q E → vs.length = ps.length)
    (body : ∀ (cv : Value) (B : Around) (o : List Env) (t : Shared) (H : Hp) (vs : List V) (Q : VK) (E : XK), B.guards = some [] →
      Room k (B.deeper (envOfC q (defScope st) t.heap.objs.size f cv)) → sp vs H Q E →
      ∃ rd, PSs (cxOf CX P w K mg base N q (defScope st) f cv B o t H E) (defBody st) rd ∧
        rd { nx := fun _ H2 => Q .non H2, rt := Q } (start N vs) H) : GOk P w K mg base CX (k + 1) f fd ps sp := by
  obtain ⟨c1, d1, kw1, dc1, pm1, an1, cv1, ct1, sl1, rfl, at1, code1⟩ := F.ex
  refine ⟨many, fun B o t H ar us vs Q E hgu room en bd rv asked => ?_⟩
  have inK : K.In t.heap := en.mod.kin.keeps fun b u e => (en.bs b u e).1
  have nolim : t.heap.NoLimit := en.mod.nolimit.keeps fun b u e => (en.bs b u e).1
  have n1 := many _ _ _ _ asked
  refine codeAny_call_function room.depth (inK _ _ at1) rfl S.co S.gen rfl
    (PySem.W.codeRec_of inK code1) (bd _ _ _ _ ?_)
  refine wpAny_newFunctionEnv_cells S.kind (fun ⟨nm, u⟩ hm => ?_) fun env he t1 made => ?_
  · exact (S.par nm (List.of_mem_zip hm).1).elim .inl fun z => .inr ⟨z, PySem.W.cellsFrom_some _ _ _ (.inl z)⟩
  subst he
  obtain ⟨rd, walked, holds⟩ := body cv1 B o t H vs Q E hgu (room.deeper _) asked
  have I0 := inv_start (CX := CX) (E := E) S room.hd en n1 rv made
  refine ⟨nolim.keeps made.toInCall.keep, codeAny_func (wpAny_mono (walked.run [] t1 (start N vs) H _ I0 holds) (fun fl t2 h2 => ?_) fun _ _ h2 => h2)⟩
  cases fl with
  | brk => obtain ⟨_, _, _, z⟩ := h2; exact z.elim
  | cont => obtain ⟨_, _, _, z⟩ := h2; exact z.elim
  | next =>
    obtain ⟨_, H2, J, z⟩ := h2
    exact ⟨.non, H2, J.os, J.bare, J.base, J.hok, rfl, z⟩
  | ret u =>
    obtain ⟨v, _, H2, J, rv2, z⟩ := h2
    exact ⟨v, H2, J.os, J.bare, J.base, J.hok, rv2, z⟩
end
section
variable {X : Cx} {CX : CXT} {k : Nat} {f : Addr} {fd : FuncData} {ps : List Str} {sp : Sp} {E : XK} {x : Str} {p pos : PySem.Pos} {e : Expr} {es : List Expr} {ta : TA}
theorem run_g (F : GOk X.prog X.w X.K X.mg X.base CX k f fd ps sp) (hgu : X.A.guards = some []) (hr : Room k X.A) (hb : Binds X.K fd ps []) (hx : Passes CX X E) {pins : List (Addr × Obj)} {σ : L2.St} {H : Hp} {s : Shared} {Q : VK} {us : List Value} {vs : List V}
    (I : Inv X pins σ H s) (r : Vals vs us) (h : sp (vs ++ []) H Q E) : wpAny (model X.prog X.w) X.A (call (.ref f) us) (EP X pins σ Q) X.xe s := by
  rw [List.append_nil] at h
  have n1 : us.length = ps.length := by rw [← r.length]; exact F.many _ _ _ _ h
  have b1 := hb s us I.kIn (by rw [List.append_nil]; exact n1)
  rw [List.append_nil] at b1
  refine wpAny_call (codeAny_mono (F.runs X.A X.stack s H ⟨us, []⟩ us vs Q E hgu hr I.env0 b1 r h) fun res t2 h2 => ?_)
  cases res with
  | error z => exact hx pins σ H s z t2 I h2
  | ok fl =>
    cases fl with
    | next => exact h2.elim
    | brk => exact h2.elim
    | cont => exact h2.elim
    | ret u => exact I.after h2
/-- .. and how it stands in the text -/
def GOK (P : Program) (w : World) (K : PySem.W.Frag) (mg : Str → Option Value) (base : Heap) (CX : CXT) (k : Nat) (x : Str) (ps : List Str) (sp : Sp) : Prop :=
  ∃ (f : Addr) (fd : FuncData), GOk P w K mg base CX k f fd ps sp ∧ mg x = some (.ref f) ∧ PySem.W.keepIn K (.ref f) = true ∧ Binds K fd ps []
theorem pe_g (G : GOK X.prog X.w X.K X.mg X.base CX k x ps sp) (hgu : X.A.guards = some []) (hr : Room k X.A) (hx : Passes CX X E) (ha : PA X (e :: es) ta) (hg : Gl X x := by rfl) (hd : (x == ("__debug__" : Str)) = false := by decide)
    (he : starEach (e :: es) X.env = (false, eval e X.env) :: starEach es X.env := by rfl) (hpl : (backTo pos (starEach es X.env)).any (·.1) = false := by rfl) :
    PE X (.Call (.Name x p) (e :: es) [] pos) (tCall sp [] E ta) := by
  obtain ⟨f, fd, F, hm, hk, hb⟩ := G
  exact ⟨fun pins s σ H Q I h => wpAny_Call_Name_kw (ld_glob I hg hm (PySem.W.callWith_K (h₀ := X.base) I.ok.mod.kin hk
    (thn (ha.run pos pins s σ H _ I h) fun us s1 ⟨vs, H1, I1, r, q⟩ => ⟨I1.kIn, run_g F hgu hr hb hx I1 r q⟩) he hpl) hd)⟩
end
/-! ### repr of data -/
def rReprD (K : PySem.W.Frag) : RC := fun xs H Q => ∃ (a : Addr) (d : PyData), xs = [.ref a] ∧ Dp K H (.ref a) d ∧ d.showable = true ∧ d.hasDict = false ∧ d.depth ≤ 60 ∧ d.shown.length ≤ sizeLine ∧ Q (.str d.shown) H
theorem call_reprD {X : Cx} (hgu : X.A.guards = some []) (hu : X.A.units + 64 < cLine) : CallR X (.builtin "repr") (rReprD X.K) := by
  intro pins s σ H xs us Q I r h
  obtain ⟨a, d, rfl, hd, h1, h2, h3, h4, q⟩ := h
  cases r with
  | cons ru rn =>
    cases rn
    cases (show _ = Value.ref a from ru)
    obtain ⟨as, rd⟩ := Dp.reads I d (.ref a) (.ref a) hd rfl
    exact repr_of_reads' rd h1 (PyData.noDict_hsm h2) hgu (by omega) (fun b o e => e)
      (fun h' u tk hk => ⟨.str d.shown, H, I.kept (t' := tk) hk, ⟨u, rfl⟩, q⟩) h4
/-! ### the end of a law, its def's promise holding where no display stands around -/
/-- one heap in which the script alone may be tracked -/
def SoleAt (K : PySem.W.Frag) (a : Addr) (t : Heap) (P : Program) (w : World) (xs : List V) (H : Hp) : Prop :=
  (∀ b u, H b = some u → b = a ∧ ∃ ob, u = .frz ob (.lst xs)) ∧ SqL K H a xs ∧ HOk P w H t ∧ (H a ≠ none → K.lookup a = none)
theorem law_g {P : Program} {w : World} {K : PySem.W.Frag} {mg mb : Str → Option Value} {CX : CXT} {k : Nat} {fa a : Addr} {fd : FuncData} {x : Str} {sp : Sp} {t : Shared} {vs : List Value} {ns : List Int}
    (inK : K.In t.heap) (nsM : t.heap.Ns mainGlobals mg) (nsB : t.heap.Ns builtinsNs mb) (boot : ∀ y : Str, y ≠ "__name__" → mb y = bootBuiltins y) (lim : t.heap.NoLimit) (noGen : t.gens = #[])
    (script : t.heap.get? a = some { cls := .type "list", data := .seq vs.toArray }) (hni : IntsAre vs ns) (few : ns.length ≤ sizeLine) (room : Room k callerA)
    (F : ∀ base : Heap, K.In base → base.Ns mainGlobals mg → GOk P w K mg base CX k fa fd [x] sp) (bind : ∀ (s : Shared) (u : Value), BindsTo s fd ⟨[u], []⟩ [(x, u)])
    (asked : ∀ H : Hp, Only H → SqL K H a (ns.map V.int) → sp [.ref a] H (fun v _ => v = .bl true) fun _ _ _ => False)
    (noErr : ∀ H e s', CX [] H t (fun _ _ _ => False) e s' → False) :
    codeAny (model P w) callerA (.call (.ref fa) ⟨[.ref a], []⟩) (fun r t2 => r = .ok (.ret (.bool true)) ∧ OldK t.heap t2.heap ∧ t2.os = t.os ∧ AllBare t2.gens) t := by
  have hv := vals_ints hni
  have hlen : vs.length = ns.length := hni.length
  obtain ⟨H, sole, sq, hok, free⟩ : ∃ H, SoleAt K a t.heap P w (ns.map V.int) H := by
    by_cases hk : ∃ o, K.lookup a = some o
    · obtain ⟨o, hk⟩ := hk
      have e1 := inK a o hk
      rw [script] at e1
      cases e1
      exact ⟨fun _ => none, fun b u z => (nomatch z), .inr ⟨_, vs.toArray, _, hk, rfl, rfl, rfl, by rw [List.size_toArray, hlen]; exact few, by simpa using hv⟩, fun b u z => (nomatch z), fun z => absurd rfl z⟩
    · have hn : K.lookup a = none := by
        cases e1 : K.lookup a with
        | none => rfl
        | some o => exact absurd ⟨o, e1⟩ hk
      have at1 : ∀ b u, (if b = a then some (HO.frz { cls := .type "list", data := .seq vs.toArray } (.lst (ns.map V.int))) else none) = some u → b = a ∧ u = HO.frz { cls := .type "list", data := .seq vs.toArray } (.lst (ns.map V.int)) := fun b u z => by
        by_cases hb : b = a
        · rw [if_pos hb] at z; exact ⟨hb, (Option.some.inj z).symm⟩
        · rw [if_neg hb] at z; cases z
      refine ⟨fun b => if b = a then some (HO.frz { cls := .type "list", data := .seq vs.toArray } (.lst (ns.map V.int))) else none, fun b u z => ⟨(at1 b u z).1, _, (at1 b u z).2⟩, .inl (.inr ⟨_, if_pos rfl⟩), fun b u z => ?_, fun _ => hn⟩
      obtain ⟨rfl, rfl⟩ := at1 b u z
      exact ⟨script, by rw [List.length_map]; exact few, vs, _, hv, script⟩
  have only : Only H := fun b => by
    cases e1 : H b with
    | none => exact .inl rfl
    | some u =>
      obtain ⟨_, ob, rfl⟩ := sole b u e1
      exact .inr ⟨ob, _, rfl⟩
  -- the base: what stands, the script hidden if it is tracked
  have hid : ∀ {b : Addr} {o : Obj}, t.heap.get? b = some o → (b = a → H a = none) → (hidT t.heap H).get? b = some o := fun {b o} e1 e2 => hidT_get e1 (by
    cases e3 : H b with
    | none => rfl
    | some u =>
      obtain ⟨rfl, _⟩ := sole b u e3
      rw [e2 rfl] at e3; cases e3)
  have ns : ∀ {b : Addr} {m : Str → Option Value}, t.heap.Ns b m → (hidT t.heap H).Ns b m := fun {b m} ⟨o, es, ep, e1, d1, r1⟩ => ⟨o, es, ep, hid e1 (fun z => by
    subst z
    rw [script] at e1
    cases e1
    cases (show Data.seq vs.toArray _ = Data.dict es ep from d1)), d1, r1⟩
  have inB : K.In (hidT t.heap H) := fun b o e1 => hid (inK b o e1) fun z => by
    subst z
    by_cases e2 : H b = none
    · exact e2
    · rw [free e2] at e1; cases e1
  obtain ⟨mc, l1, l2⟩ := lim
  have en : Env0 P w K mg (hidT t.heap H) callerA [] t H :=
    ⟨rfl, ⟨inB, ns nsM, ⟨mb, ns nsB, boot⟩, ⟨mc, ns l1, l2⟩⟩, fun b o e1 => of_hidT e1, Nat.le_of_eq (hidT_size _ _), trivial,
      fun b hb => absurd (show b ∈ ([] : List Addr) from hb) (by simp), hok, .of_eq noGen⟩
  refine codeAny_mono ((F _ inB (ns nsM)).runs callerA [] t H ⟨[.ref a], []⟩ [.ref a] [.ref a] _ _ rfl room en (bind t (.ref a)) (.cons rfl .nil) (asked H only sq)) fun res t2 h2 => ?_
  cases res with
  | error z => exact (noErr H z t2 h2).elim
  | ok fl =>
    cases fl with
    | next => exact h2.elim
    | brk => exact h2.elim
    | cont => exact h2.elim
    | ret u =>
      obtain ⟨v, H2, os, bare, un, hok2, rv, q⟩ := h2
      have q : v = .bl true := q
      subst q
      cases (show u = Value.bool true from rv)
      refine ⟨rfl, OldK.of_keep fun b o e1 => ?_, os, bare⟩
      cases e2 : H b with
      | none => exact un.keep b o e1 e2 (fun z => absurd (show b ∈ ([] : List Addr) from z) (by simp)) (by simp)
      | some u =>
        obtain ⟨rfl, ob, rfl⟩ := sole b u e2
        obtain ⟨k1, _⟩ := hok _ _ e2
        obtain ⟨k2, _⟩ := hok2 _ _ (un.frzs _ ob _ e2)
        rw [e1] at k1; cases k1
        exact k2
theorem walk_g {l : PySem.W.OpenLaw} {n k : Nat} {q : Program} {loose : List Str} {XP : (Str → Option Value) → Heap → Prop} {YP : World → Heap → Prop} {d : DefRec} {K : Params → PySem.W.Frag} {CX : World → CXT} {sp : World → Sp} {x : Str}
    (hn : l.most = some n) (hn2 : n ≤ sizeLine) (hdf : d.params.defaults = []) (room : Room k callerA) (hY : ∀ (w : World) (h : Heap), YP w h → (K w.params).In h)
    (F : ∀ (w : World) (mg : Str → Option Value) (fa : Addr) (h : Heap), (K w.params).In h → h.Ns mainGlobals mg → mg d.name = some (.ref fa) →
      ∃ fd : FuncData, (∀ (s : Shared) (u : Value), BindsTo s fd ⟨[u], []⟩ [(x, u)]) ∧ ∀ base : Heap, (K w.params).In base → base.Ns mainGlobals mg → GOk l.prog w (K w.params) mg base (CX w) k fa fd [x] (sp w))
    (asked : ∀ (w : World) (H : Hp) (a : Addr) (ns : List Int), ns.length ≤ n → Only H → SqL (K w.params) H a (ns.map V.int) → sp w [.ref a] H (fun v _ => v = .bl true) fun _ _ _ => False)
    (noErr : ∀ (w : World) (H : Hp) (s : Shared) (e : Value) (s' : Shared), CX w [] H s (fun _ _ _ => False) e s' → False) :
    PySem.W.WalkO q loose XP YP l.row.toRowW d [] (fun f vs => PySem.call f vs) :=
  Att.attach_call hn hdf fun w s0 t mg mb fa o pm cd doc a vs ns G Y ho hd hcd hmg hobj hints hlen hg =>
    let ⟨fd, hb, hF⟩ := F w mg fa _ (hY w _ Y) G.T.g hmg
    law_g (hY w _ Y) G.T.g G.T.b G.T.builtins G.T.nolimit hg hobj hints (Nat.le_trans hlen hn2) room hF hb
      (fun H hO hS => asked w H a ns hlen hO hS) fun H e s' => noErr w H t e s'
end Fg
/-! Own classes: methods, their defaults and keywords; own exceptions of two fields. -/
namespace Fg
open PySem PySem.Spec PyProof.Rows L2
/-! ### defs with defaults -/
/-- a def with defaults dvs keeps its promise -/
def OKD (P : Program) (w : World) (K : PySem.W.Frag) (mg : Str → Option Value) (base : Heap) (CX : CXT) (k : Nat) (x : Str) (ps : List Str) (dvs : List V) (sp : Sp) : Prop :=
  ∃ (f : Addr) (fd : FuncData), FnOk P w K mg base CX k f fd ps sp ∧ mg x = some (.ref f) ∧ PySem.W.keepIn K (.ref f) = true ∧ Binds K fd ps [] ∧ ∃ ds, Vals dvs ds ∧ Binds K fd ps ds
/-- .. how it stands in the text -/
def DefD (K : PySem.W.Frag) (mg : Str → Option Value) (x : Str) (st : Stmt) (ps : List Str) (dvs : List V) : Prop :=
  ∃ (f : Addr) (fd : FuncData), FunD K x x (defArgs st) (defBody st) (defScope st) dvs [] f fd ∧ mg x = some (.ref f) ∧ Binds K fd ps [] ∧ ∃ ds, Vals dvs ds ∧ Binds K fd ps ds
section
variable {P : Program} {w : World} {K : PySem.W.Frag} {mg : Str → Option Value} {base : Heap} {x q m : Str} {st : Stmt} {N ps : List Str} {k : Nat} {sp : Sp} {dvs : List V} {C : Addr} {CX : CXT}
theorem OKD.full (G : OKD P w K mg base CX k x ps dvs sp) : OK P w K mg base CX k x ps sp := by
  obtain ⟨f, fd, F, hm, hk, hb, _⟩ := G
  exact ⟨f, fd, F, hm, hk, hb⟩
theorem FunD.ok0 {f : Addr} {fd : FuncData} {kws : List (Str × V)} (F : FunD K x q (defArgs st) (defBody st) (defScope st) dvs kws f fd) (S : FnScope N ps (defScope st)) (len : ∀ vs H Q E, sp vs H Q E → vs.length = ps.length)
    (body : ∀ (cdv : Value) (A : Around) (outer : List Env) (s : Shared) (H : Hp) (vs : List V) (Q : VK) (E : XK), Room k (A.deeper (envOfC q (defScope st) s.heap.objs.size f cdv)) → sp vs H Q E →
      ∃ t, PSs (cxOf CX0 P w K mg base N q (defScope st) f cdv A outer s H E).nox (defBody st) t ∧ t { nx := fun _ H' => Q .non H', rt := Q } (start N vs) H) : FnOk P w K mg base CX0 (k + 1) f fd ps sp :=
  F.ok S len fun cdv A outer s H vs Q E hr h => let ⟨t, z, e⟩ := body cdv A outer s H vs Q E hr h; ⟨t, z.nox, e⟩
theorem OKD.mk (D : DefD K mg x st ps dvs) (S : FnScope N ps (defScope st)) (len : ∀ vs H Q E, sp vs H Q E → vs.length = ps.length)
    (body : ∀ (f : Addr) (cdv : Value) (A : Around) (outer : List Env) (s : Shared) (H : Hp) (vs : List V) (Q : VK) (E : XK), Room k (A.deeper (envOfC x (defScope st) s.heap.objs.size f cdv)) → sp vs H Q E →
      ∃ t, PSs (cxOf CX0 P w K mg base N x (defScope st) f cdv A outer s H E).nox (defBody st) t ∧ t { nx := fun _ H' => Q .non H', rt := Q } (start N vs) H) : OKD P w K mg base CX0 (k + 1) x ps dvs sp := by
  obtain ⟨f, fd, F, hm, hb, hd⟩ := D
  exact ⟨f, fd, FunD.ok0 F S len fun cdv A outer s H vs Q E hr h => body f cdv A outer s H vs Q E hr h, hm, F.kp, hb, hd⟩
theorem OKD.mkX (D : DefD K mg x st ps dvs) (S : FnScope N ps (defScope st)) (len : ∀ vs H Q E, sp vs H Q E → vs.length = ps.length)
    (body : ∀ (f : Addr) (cdv : Value) (A : Around) (outer : List Env) (s : Shared) (H : Hp) (vs : List V) (Q : VK) (E : XK), Room k (A.deeper (envOfC x (defScope st) s.heap.objs.size f cdv)) → sp vs H Q E →
      ∃ t, PSs (cxOf (L2.CX P w) P w K mg base N x (defScope st) f cdv A outer s H E) (defBody st) t ∧ t { nx := fun _ H' => Q .non H', rt := Q } (start N vs) H) : OKD P w K mg base (L2.CX P w) (k + 1) x ps dvs sp := by
  obtain ⟨f, fd, F, hm, hb, hd⟩ := D
  exact ⟨f, fd, F.ok S len fun cdv A outer s H vs Q E hr h => body f cdv A outer s H vs Q E hr h, hm, F.kp, hb, hd⟩
/-! ### methods -/
/-- a method of the class at C as it stands in the text -/
def MetIn (K : PySem.W.Frag) (C : Addr) (m q : Str) (st : Stmt) (ps : List Str) (dvs : List V) : Prop :=
  ∃ (f : Addr) (fd : FuncData), Meth K C m f ∧ FunD K m q (defArgs st) (defBody st) (defScope st) dvs [] f fd ∧ Binds K fd ps [] ∧ ∃ ds, Vals dvs ds ∧ Binds K fd ps ds
/-- .. and it keeps its promise -/
def MOK (P : Program) (w : World) (K : PySem.W.Frag) (mg : Str → Option Value) (base : Heap) (CX : CXT) (k : Nat) (C : Addr) (m : Str) (ps : List Str) (dvs : List V) (sp : Sp) : Prop :=
  ∃ (f : Addr) (fd : FuncData), Meth K C m f ∧ FnOk P w K mg base CX k f fd ps sp ∧ Binds K fd ps [] ∧ ∃ ds, Vals dvs ds ∧ Binds K fd ps ds
theorem MOK.mk (D : MetIn K C m q st ps dvs) (S : FnScope N ps (defScope st)) (len : ∀ vs H Q E, sp vs H Q E → vs.length = ps.length)
    (body : ∀ (f : Addr) (cdv : Value) (A : Around) (outer : List Env) (s : Shared) (H : Hp) (vs : List V) (Q : VK) (E : XK), Room k (A.deeper (envOfC q (defScope st) s.heap.objs.size f cdv)) → sp vs H Q E →
      ∃ t, PSs (cxOf CX0 P w K mg base N q (defScope st) f cdv A outer s H E).nox (defBody st) t ∧ t { nx := fun _ H' => Q .non H', rt := Q } (start N vs) H) : MOK P w K mg base CX0 (k + 1) C m ps dvs sp := by
  obtain ⟨f, fd, hm, F, hb, hd⟩ := D
  exact ⟨f, fd, hm, FunD.ok0 F S len fun cdv A outer s H vs Q E hr h => body f cdv A outer s H vs Q E hr h, hb, hd⟩
theorem MOK.mkX (D : MetIn K C m q st ps dvs) (S : FnScope N ps (defScope st)) (len : ∀ vs H Q E, sp vs H Q E → vs.length = ps.length)
    (body : ∀ (f : Addr) (cdv : Value) (A : Around) (outer : List Env) (s : Shared) (H : Hp) (vs : List V) (Q : VK) (E : XK), Room k (A.deeper (envOfC q (defScope st) s.heap.objs.size f cdv)) → sp vs H Q E →
      ∃ t, PSs (cxOf (L2.CX P w) P w K mg base N q (defScope st) f cdv A outer s H E) (defBody st) t ∧ t { nx := fun _ H' => Q .non H', rt := Q } (start N vs) H) : MOK P w K mg base (L2.CX P w) (k + 1) C m ps dvs sp := by
  obtain ⟨f, fd, hm, F, hb, hd⟩ := D
  exact ⟨f, fd, hm, F.ok S len fun cdv A outer s H vs Q E hr h => body f cdv A outer s H vs Q E hr h, hb, hd⟩
/-- a class whose instances its __init__ makes -/
def MkIn (K : PySem.W.Frag) (mg : Str → Option Value) (x q : Str) (C : Addr) (st : Stmt) (ps : List Str) (dvs : List V) : Prop :=
  ∃ (f : Addr) (fd : FuncData), Mk K C f ∧ mg x = some (.ref C) ∧ FunD K "__init__" q (defArgs st) (defBody st) (defScope st) dvs [] f fd ∧ Binds K fd ps [] ∧ ∃ ds, Vals dvs ds ∧ Binds K fd ps ds
def MkOK (P : Program) (w : World) (K : PySem.W.Frag) (mg : Str → Option Value) (base : Heap) (CX : CXT) (k : Nat) (x : Str) (C : Addr) (ps : List Str) (dvs : List V) (sp : Sp) : Prop :=
  ∃ (f : Addr) (fd : FuncData), Mk K C f ∧ mg x = some (.ref C) ∧ FnOk P w K mg base CX k f fd ps sp ∧ Binds K fd ps [] ∧ ∃ ds, Vals dvs ds ∧ Binds K fd ps ds
theorem MkOK.mk (D : MkIn K mg x q C st ps dvs) (S : FnScope N ps (defScope st)) (len : ∀ vs H Q E, sp vs H Q E → vs.length = ps.length)
    (body : ∀ (f : Addr) (cdv : Value) (A : Around) (outer : List Env) (s : Shared) (H : Hp) (vs : List V) (Q : VK) (E : XK), Room k (A.deeper (envOfC q (defScope st) s.heap.objs.size f cdv)) → sp vs H Q E →
      ∃ t, PSs (cxOf CX0 P w K mg base N q (defScope st) f cdv A outer s H E).nox (defBody st) t ∧ t { nx := fun _ H' => Q .non H', rt := Q } (start N vs) H) : MkOK P w K mg base CX0 (k + 1) x C ps dvs sp := by
  obtain ⟨f, fd, M, hm, F, hb, hd⟩ := D
  exact ⟨f, fd, M, hm, FunD.ok0 F S len fun cdv A outer s H vs Q E hr h => body f cdv A outer s H vs Q E hr h, hb, hd⟩
theorem MkOK.mkX (D : MkIn K mg x q C st ps dvs) (S : FnScope N ps (defScope st)) (len : ∀ vs H Q E, sp vs H Q E → vs.length = ps.length)
    (body : ∀ (f : Addr) (cdv : Value) (A : Around) (outer : List Env) (s : Shared) (H : Hp) (vs : List V) (Q : VK) (E : XK), Room k (A.deeper (envOfC q (defScope st) s.heap.objs.size f cdv)) → sp vs H Q E →
      ∃ t, PSs (cxOf (L2.CX P w) P w K mg base N q (defScope st) f cdv A outer s H E) (defBody st) t ∧ t { nx := fun _ H' => Q .non H', rt := Q } (start N vs) H) : MkOK P w K mg base (L2.CX P w) (k + 1) x C ps dvs sp := by
  obtain ⟨f, fd, M, hm, F, hb, hd⟩ := D
  exact ⟨f, fd, M, hm, F.ok S len fun cdv A outer s H vs Q E hr h => body f cdv A outer s H vs Q E hr h, hb, hd⟩
end
/-! ### the calls -/
section
variable {X : Cx} {CX : CXT} {k n : Nat} {x m : Str} {ps ks : List Str} {sp : Sp} {dvs : List V} {E : XK} {o e : Expr} {es : List Expr} {kws : List Keyword} {to : TE} {ta tk : TA} {p pos apos : PySem.Pos} {C : Addr}
/-- f(e, ..), the defaults filling up -/
theorem pe_fd (G : OKD X.prog X.w X.K X.mg X.base CX k x ps dvs sp) (hr : Room k X.A) (hx : Passes CX X E) (ha : PA X (e :: es) ta) (hg : Gl X x := by rfl) (hd : (x == ("__debug__" : Str)) = false := by decide)
    (he : starEach (e :: es) X.env = (false, eval e X.env) :: starEach es X.env := by rfl) (hpl : (backTo pos (starEach es X.env)).any (·.1) = false := by rfl) :
    PE X (.Call (.Name x p) (e :: es) [] pos) (tCall sp dvs E ta) := by
  obtain ⟨f, fd, F, hm, hk, _, ds, hv, hb⟩ := G
  exact pe_call F hr hg hm hk hb hv hx ha hd he hpl
theorem pe_m {pl : Sem Bool} (ho : PE X o to) (c : Cls X.K C) (G : MOK X.prog X.w X.K X.mg X.base CX k C m ps dvs sp) (hr : Room k X.A) (hx : Passes CX X E) (ha : PA X (e :: es) ta)
    (hst : starEach (e :: es) X.env = (false, eval e X.env) :: starEach es X.env := by rfl) (hpl : (backTo pos (starEach es X.env)).any (·.1) = false := by rfl)
    (ht : eval (.Call (.Attribute o m apos) (e :: es) [] pos) X.env = (do
      let ov ← eval o X.env
      standAt apos.atName
      let (f, first) ← holding [ov] (getMethod ov m pl)
      callWith pos f first (backTo pos (starEach (e :: es) X.env)) (backToKw pos (keywordEach [] X.env))) := by rfl) :
    PE X (.Call (.Attribute o m apos) (e :: es) [] pos) (tMeth C m sp [] E to ta) := by
  obtain ⟨f, fd, hm, F, hb, _⟩ := G
  exact pe_meth ho c hm F hr hb .nil hx ha hst hpl ht
/-- .. the defaults filling up -/
theorem pe_md {pl : Sem Bool} (ho : PE X o to) (c : Cls X.K C) (G : MOK X.prog X.w X.K X.mg X.base CX k C m ps dvs sp) (hr : Room k X.A) (hx : Passes CX X E) (ha : PA X (e :: es) ta)
    (hst : starEach (e :: es) X.env = (false, eval e X.env) :: starEach es X.env := by rfl) (hpl : (backTo pos (starEach es X.env)).any (·.1) = false := by rfl)
    (ht : eval (.Call (.Attribute o m apos) (e :: es) [] pos) X.env = (do
      let ov ← eval o X.env
      standAt apos.atName
      let (f, first) ← holding [ov] (getMethod ov m pl)
      callWith pos f first (backTo pos (starEach (e :: es) X.env)) (backToKw pos (keywordEach [] X.env))) := by rfl) :
    PE X (.Call (.Attribute o m apos) (e :: es) [] pos) (tMeth C m sp dvs E to ta) := by
  obtain ⟨f, fd, hm, F, _, ds, hv, hb⟩ := G
  exact pe_meth ho c hm F hr hb hv hx ha hst hpl ht
theorem pe_m0 {pl : Sem Bool} (ho : PE X o to) (c : Cls X.K C) (G : MOK X.prog X.w X.K X.mg X.base CX k C m ps dvs sp) (hr : Room k X.A) (hx : Passes CX X E)
    (ht : eval (.Call (.Attribute o m apos) [] [] pos) X.env = (do
      let ov ← eval o X.env
      standAt apos.atName
      let (f, first) ← holding [ov] (getMethod ov m pl)
      callWith pos f first (backTo pos (starEach [] X.env)) (backToKw pos (keywordEach [] X.env))) := by rfl) :
    PE X (.Call (.Attribute o m apos) [] [] pos) (tMeth C m sp [] E to tNil) := by
  obtain ⟨f, fd, hm, F, hb, _⟩ := G
  exact pe_meth0 ho c hm F hr hb .nil hx ht
/-- C(e, ..), the defaults filling up -/
theorem pe_mkd (G : MkOK X.prog X.w X.K X.mg X.base CX k x C ps dvs sp) (hr : Room (k + 1) X.A) (hx : Passes CX X E) (ha : PA X (e :: es) ta) (hg : Gl X x := by rfl) (hd : (x == ("__debug__" : Str)) = false := by decide)
    (he : starEach (e :: es) X.env = (false, eval e X.env) :: starEach es X.env := by rfl) (hpl : (backTo pos (starEach es X.env)).any (·.1) = false := by rfl) :
    PE X (.Call (.Name x p) (e :: es) [] pos) (tMake C sp dvs E ta) := by
  obtain ⟨f, fd, M, hm, F, _, ds, hv, hb⟩ := G
  exact pe_make M F hr hg hm hb hv hx ha hd he hpl
theorem pe_mk (G : MkOK X.prog X.w X.K X.mg X.base CX k x C ps dvs sp) (hr : Room (k + 1) X.A) (hx : Passes CX X E) (ha : PA X (e :: es) ta) (hg : Gl X x := by rfl) (hd : (x == ("__debug__" : Str)) = false := by decide)
    (he : starEach (e :: es) X.env = (false, eval e X.env) :: starEach es X.env := by rfl) (hpl : (backTo pos (starEach es X.env)).any (·.1) = false := by rfl) :
    PE X (.Call (.Name x p) (e :: es) [] pos) (tMake C sp [] E ta) := by
  obtain ⟨f, fd, M, hm, F, hb, _⟩ := G
  exact pe_make M F hr hg hm hb .nil hx ha hd he hpl
/-! ### a method called with keywords -/
/-- how it binds with the keywords ks: all parameters are given, in their order -/
def KwIn (K : PySem.W.Frag) (C : Addr) (m q : Str) (st : Stmt) (ps : List Str) (dvs : List V) (n : Nat) (ks : List Str) : Prop :=
  ∃ (f : Addr) (fd : FuncData), Meth K C m f ∧ FunD K m q (defArgs st) (defBody st) (defScope st) dvs [] f fd ∧ KBn K fd ps n ks (fun us ws => us ++ ws) (fun vs zs => vs ++ zs)
def KOK (P : Program) (w : World) (K : PySem.W.Frag) (mg : Str → Option Value) (base : Heap) (CX : CXT) (k : Nat) (C : Addr) (m : Str) (ps : List Str) (n : Nat) (ks : List Str) (sp : Sp) : Prop :=
  ∃ (f : Addr) (fd : FuncData), Meth K C m f ∧ FnOk P w K mg base CX k f fd ps sp ∧ KBn K fd ps n ks (fun us ws => us ++ ws) (fun vs zs => vs ++ zs)
/-- the same def: one promise -/
theorem KOK.of {P : Program} {w : World} {K : PySem.W.Frag} {mg : Str → Option Value} {base : Heap} {q : Str} {st : Stmt} (D : KwIn K C m q st ps dvs n ks) (G : MOK P w K mg base CX k C m ps dvs sp)
    (same : ∀ f g fd gd, Meth K C m f → Meth K C m g → FunD K m q (defArgs st) (defBody st) (defScope st) dvs [] f fd → FnOk P w K mg base CX k g gd ps sp → FnOk P w K mg base CX k f fd ps sp) : KOK P w K mg base CX k C m ps n ks sp := by
  obtain ⟨f, fd, hm, F, hk⟩ := D
  obtain ⟨g, gd, hn, G, _⟩ := G
  exact ⟨f, fd, hm, same f g fd gd hm hn F G, hk⟩
theorem KOK.mkX {P : Program} {w : World} {K : PySem.W.Frag} {mg : Str → Option Value} {base : Heap} {q : Str} {st : Stmt} {N : List Str} (D : KwIn K C m q st ps dvs n ks) (S : FnScope N ps (defScope st)) (len : ∀ vs H Q E, sp vs H Q E → vs.length = ps.length)
    (body : ∀ (f : Addr) (cdv : Value) (A : Around) (outer : List Env) (s : Shared) (H : Hp) (vs : List V) (Q : VK) (E : XK), Room k (A.deeper (envOfC q (defScope st) s.heap.objs.size f cdv)) → sp vs H Q E →
      ∃ t, PSs (cxOf (L2.CX P w) P w K mg base N q (defScope st) f cdv A outer s H E) (defBody st) t ∧ t { nx := fun _ H' => Q .non H', rt := Q } (start N vs) H) : KOK P w K mg base (L2.CX P w) (k + 1) C m ps n ks sp := by
  obtain ⟨f, fd, hm, F, hb⟩ := D
  exact ⟨f, fd, hm, F.ok S len fun cdv A outer s H vs Q E hr h => body f cdv A outer s H vs Q E hr h, hb⟩
/-- o.m(e, .., k = v, ..): n counts the instance, too -/
def tMethN (C : Addr) (m : Str) (n nk : Nat) (sp : Sp) (E : XK) (to : TE) (ta tk : TA) : TE := fun σ H Q => to σ H fun x H1 => ∃ a dx fs, x = .ref a ∧ H1 a = some (.ins C dx fs) ∧ fs.lookup m = none ∧
  ta σ H1 fun vs H2 => tk σ H2 fun zs H3 => vs.length + 1 = n ∧ zs.length = nk ∧ sp (x :: (vs ++ zs)) H3 Q E
theorem pe_mk_kw {pl : Sem Bool} (ho : PE X o to) (c : Cls X.K C) (G : KOK X.prog X.w X.K X.mg X.base CX k C m ps n ks sp) (hr : Room k X.A) (hx : Passes CX X E) (ha : PA X (e :: es) ta) (hkw : PK X kws tk)
    (hkp : ∀ f, Meth X.K C m f → PySem.W.keepIn X.K (.ref f) = true)
    (hall : (backToKw pos (keywordEach kws X.env)).all (·.1.isSome) = true := by rfl) (hks : (backToKw pos (keywordEach kws X.env)).filterMap (·.1) = ks := by rfl)
    (hst : starEach (e :: es) X.env = (false, eval e X.env) :: starEach es X.env := by rfl)
    (hpl : ((backTo pos (starEach (e :: es) X.env)).any (·.1) || (backToKw pos (keywordEach kws X.env)).any (·.1.isNone)) = false := by rfl)
    (ht : eval (.Call (.Attribute o m apos) (e :: es) kws pos) X.env = (do
      let ov ← eval o X.env
      standAt apos.atName
      let (f, first) ← holding [ov] (getMethod ov m pl)
      callWith pos f first (backTo pos (starEach (e :: es) X.env)) (backToKw pos (keywordEach kws X.env))) := by rfl) :
    PE X (.Call (.Attribute o m apos) (e :: es) kws pos) (tMethN C m n ks.length sp E to ta tk) := by
  obtain ⟨f, fd, hm, F, hb⟩ := G
  refine ⟨fun pins s σ H Q I h => ?_⟩
  refine PySem.W.methodCall_KW (pl := pl) (thn (ho.run pins s σ H _ I h) fun u s1 ⟨x, H1, I1, rx, a, dx, fs, ex, ea, l, q⟩ => ?_) ht
  subst ex
  obtain rfl : u = Value.ref a := rx
  refine getmeth_ok I1 ea c hm l ?_
  refine PySem.W.callWith_KW (first := [.ref a]) (h₀ := X.base) I.ok.mod.kin hm.kp hall (thn (ha.run pos pins s1 σ H1 _ I1 q) fun us s2 ⟨vs, H2, I2, r, q2⟩ => ?_) hpl hst
  refine thn (hkw.run pos pins s2 σ H2 _ I2 q2) fun ws s3 ⟨zs, H3, I3, rz, l1, l2, q3⟩ => ⟨I3.kIn, ?_⟩
  rw [hks]
  exact run_fnN (us := .ref a :: us) (vs := .ref a :: vs) F hr hb hx I3 (.cons rfl r) rz (by simpa using l1) l2 q3
/-- binding of a positional default by its keyword -/
theorem FunD.kbinds1 {K : PySem.W.Frag} {x q : Str} {params : Arguments} {body : List Stmt} {scope : Scope} {kws : List (Str × V)} {f : Addr} {fd : FuncData} (F : FunD K x q params body scope dvs kws f fd) (n : Nat) (ks : List Str) (hd : dvs ≠ [])
    (h : ∀ (T : Addr) (kV doc pm : Value) (an : Option Addr) (cdv ct : Value) (us its ws : List Value), us.length = n → its.length = dvs.length → ws.length = ks.length →
      ∃ k, bindArgs (PySem.W.fnOf x q params body scope (.ref T) kV doc pm an cdv ct) ⟨us, ks.zip ws⟩ = seqItems? (.ref T) >>= k ∧ k (some its.toArray) = pure (ps.zip (us ++ ws))) :
    KBn K fd ps n ks (fun us ws => us ++ ws) (fun vs zs => vs ++ zs) := by
  obtain ⟨oc, od, dV, kV, doc, pm, an, cdv, ct, osl, rfl, lk, hcd, hD, hK⟩ := F.ex
  rcases hD with ⟨e, _⟩ | ⟨_, T, o, its, m, rfl, lT, oT, rT⟩
  · exact absurd e hd
  · refine ⟨fun s us ws X l1 l2 => ?_, fun r1 r2 => r1.append r2⟩
    obtain ⟨k, e1, e2⟩ := h T kV doc pm an cdv ct us its ws l1 rT.length.symm l2
    refine BindsTo.of_looks fun M => ?_
    rw [e1]
    exact looks_items X lT oT (.of_pure e2)
end
/-! ### own exceptions with two fields -/
def spIni2 (C : Addr) (f g : Str) : Sp := sp3 fun x v y H Q _ => ∃ a, x = .ref a ∧ H a = some (exo a C none) ∧ ∀ dx H', H dx = none → dx ≠ a → H' a = some (exo a C (some dx)) → H' dx = some (exd dx [(g, y), (f, v)]) → (∀ b, b ≠ a → b ≠ dx → H' b = H b) → Q .non H'
def OKx2 (P : Program) (w : World) (K : PySem.W.Frag) (mg : Str → Option Value) (base : Heap) (x f g : Str) (C : Addr) : Prop :=
  mg x = some (.ref C) ∧ OexC K C ∧ ∃ (fI : Addr) (fd : FuncData), PySem.W.findIn K (.ref C) "__init__" = some (some (.ref fI)) ∧ PySem.W.typeIn K (.ref fI) = some (.type "function") ∧
    FnOk P w K mg base CX0 1 fI fd ["self", f, g] (spIni2 C f g) ∧ Binds K fd ["self", f, g] []
theorem ini_ok2 {P : Program} {w : World} {K : PySem.W.Frag} {mg : Str → Option Value} {base : Heap} {C fI : Addr} {f g q : Str} {st : Stmt} {fd : FuncData} (F : Fun K "__init__" q st fI fd) (S : FnScope ["self", f, g] ["self", f, g] (defScope st))
    (ox : OexC K C) (noF : PySem.W.findIn K (.ref C) f = some none) (noG : PySem.W.findIn K (.ref C) g = some none)
    (hb : ∀ (cdv : Value) (A : Around) (outer : List Env) (s : Shared) (H : Hp) (E : XK), PSs (cxOf CX0 P w K mg base ["self", f, g] q (defScope st) fI cdv A outer s H E).nox (defBody st) (tSeq (tOst K f (tVar 0) (tVar 1)) (tOst K g (tVar 0) (tVar 2)))) :
    FnOk P w K mg base CX0 1 fI fd ["self", f, g] (spIni2 C f g) := by
  refine F.ok S (fun vs H Q E h => len3 vs H Q E h) fun cdv A outer s H vs Q E hr h => ⟨_, hb cdv A outer s H E, ?_⟩
  obtain ⟨x, v, y, rfl, a, rfl, ha, q⟩ := h
  refine ⟨v, rfl, .ref a, rfl, a, C, rfl, ox, noF, .inl ⟨ha, fun dx n ne => ?_⟩⟩
  refine ⟨y, rfl, .ref a, rfl, a, C, rfl, ox, noG, .inr ⟨dx, _, upd_same, by rw [upd_ne ne, upd_same], by show 1 ≤ 900; decide, ?_⟩⟩
  refine q dx _ n ne (by rw [upd_ne ne.symm, upd_same]) upd_same fun b h1 h2 => by rw [upd_ne h2, upd_ne h1, upd_ne h2]
/-- C(e, ..): an error whose dict, new, holds the two fields, the later one first -/
def tMkE2 (C : Addr) (f g : Str) (ta : TA) : L2.St → Hp → XK → Prop := fun σ H Q => ta σ H fun vs H1 => ∃ v y, vs = [v, y] ∧ ∀ d, H1 d = none → Q (.ref C) (some d) (upd H1 d (.xd [(g, y), (f, v)]))
theorem pmk_E2 {X : Cx} {x f g : Str} {C : Addr} {e : Expr} {es : List Expr} {ta : TA} {p pos : PySem.Pos} {k : Nat} (G : OKx2 X.prog X.w X.K X.mg X.base x f g C) (hr : Room (k + 2) X.A) (ha : PA X (e :: es) ta) (hg : Gl X x := by rfl) (hdb : (x == ("__debug__" : Str)) = false := by decide)
    (he : starEach (e :: es) X.env = (false, eval e X.env) :: starEach es X.env := by rfl) (hpl : (backTo pos (starEach es X.env)).any (·.1) = false := by rfl) :
    PMk X (.Call (.Name x p) (e :: es) [] pos) (tMkE2 C f g ta) := by
  obtain ⟨hm, ox, fI, fd, iC, tI, F, hb⟩ := G
  intro pins s σ H Q I h
  refine pmk_oex (k := 1) (dvs := []) ox iC tI F (hr.mono (by omega)) hb .nil pass0 hg hm (pa_mono ha) hdb he hpl pins s σ H Q I ⟨_, h, fun vs H1 hq => ?_⟩
  obtain ⟨v, y, rfl, q⟩ := hq
  refine ⟨by show 2 ≤ 1000; omega, fun a na => ⟨.ref a, v, y, rfl, a, rfl, upd_same, fun dx H' nd ne h1 h2 h3 => ⟨rfl, dx, [(g, y), (f, v)], h1, h2, ?_, ?_⟩⟩⟩
  · rw [upd_ne ne] at nd; exact nd
  · have n2 : H1 dx = none := by rw [upd_ne ne] at nd; exact nd
    have e1 : upd (del H' a) dx (.xd [(g, y), (f, v)]) = upd H1 dx (.xd [(g, y), (f, v)]) := by
      funext b
      by_cases hb : b = dx
      · rw [hb, upd_same, upd_same]
      · rw [upd_ne hb, upd_ne hb]
        by_cases ha : b = a
        · rw [ha, del_same, na]
        · rw [del_ne ha, h3 b ha hb, upd_ne ha]
    rw [e1]
    exact q dx n2
/-- the wish for an error of the class at C whose dict, new, holds fs -/
def Rzf (E : XK) (H : Hp) (C : Addr) (fs : List (Str × V)) : Prop := ∀ d H', H d = none → Same H H' → H' d = some (.xd fs) → E (.ref C) (some d) H'
theorem Rzf.mono {E : XK} {H H1 : Hp} {C : Addr} {fs : List (Str × V)} (h : Rzf E H C fs) (s : Same H H1) : Rzf E H1 C fs := fun d H' n s' e => h d H' (s.free n) (s.trans s') e
theorem Rzf.at {E : XK} {H : Hp} {C : Addr} {fs : List (Str × V)} (h : Rzf E H C fs) {d : Addr} (n : H d = none) : E (.ref C) (some d) (upd H d (.xd fs)) :=
  h d _ n (fun b o e => by rw [upd_ne (ne_of_none e n)]; exact e) upd_same
section
variable {σ : L2.St} {H : Hp} {Q : XK} {C : Addr} {f g : Str} {ta : TA} {v y : V} {P : V → V → Prop}
theorem i_mkE2 (q : ta σ H fun vs H1 => ∃ v y, vs = [v, y] ∧ ∀ d, H1 d = none → Q (.ref C) (some d) (upd H1 d (.xd [(g, y), (f, v)]))) : tMkE2 C f g ta σ H Q := q
theorem i_ex2 (q : P v y) : ∃ a b, [v, y] = [a, b] ∧ P a b := ⟨v, y, rfl, q⟩
end
/-! ### what remains of GOK -/
theorem GOK.mk {P : Program} {w : World} {K : PySem.W.Frag} {mg : Str → Option Value} {base : Heap} {x : Str} {st : Stmt} {N ps : List Str} {k : Nat} {sp : Sp} (D : DefIn K mg x st ps) (S : FnScope N ps (defScope st)) (len : ∀ vs H Q E, sp vs H Q E → vs.length = ps.length)
    (body : ∀ (f : Addr) (cdv : Value) (A : Around) (outer : List Env) (s : Shared) (H : Hp) (vs : List V) (Q : VK) (E : XK), A.guards = some [] → Room k (A.deeper (envOfC x (defScope st) s.heap.objs.size f cdv)) → sp vs H Q E →
      ∃ t, PSs (cxOf CX0 P w K mg base N x (defScope st) f cdv A outer s H E).nox (defBody st) t ∧ t { nx := fun _ H' => Q .non H', rt := Q } (start N vs) H) : GOK P w K mg base CX0 (k + 1) x ps sp := by
  obtain ⟨f, fd, F, hm, hb⟩ := D
  refine ⟨f, fd, gok_mk F S len fun cdv A outer s H vs Q E hg hr h => ?_, hm, F.kp, hb⟩
  obtain ⟨t, z, e⟩ := body f cdv A outer s H vs Q E hg hr h
  exact ⟨t, z.nox, e⟩
end Fg
/-! Data in the heap: what a value is, and what a step adds to what is known. -/
namespace Fg
open PySem PySem.Spec PyProof.Rows L2
abbrev dS (l : List Nat) : PyData := .str ⟨l.toArray⟩
mutual
inductive At (H : Hp) : V → PyData → Prop
  | non : At H .non .none
  | bl (b : Bool) : At H (.bl b) (.bool b)
  | int (i : Int) : At H (.int i) (.int i)
  | str (l : List Nat) : l.length ≤ 10000 → At H (S l) (dS l)
  | lst {a : Addr} {xs : List V} {ds : List PyData} : H a = some (.lst xs) → xs.length ≤ 10000 → AtAll H xs ds → At H (.ref a) (.list ds)
  | tup {a : Addr} {xs : List V} {ds : List PyData} : H a = some (.tup xs) → xs.length ≤ 10000 → AtAll H xs ds → At H (.ref a) (.tuple ds)
  | dct {a : Addr} : H a = some (.dK []) → At H (.ref a) (.dict [])
inductive AtAll (H : Hp) : List V → List PyData → Prop
  | nil : AtAll H [] []
  | cons {v : V} {vs : List V} {d : PyData} {ds : List PyData} : At H v d → AtAll H vs ds → AtAll H (v :: vs) (d :: ds)
end
section
variable {H H' : Hp}
mutual
theorem At.mono (s : Same H H') : ∀ (d : PyData) (v : V), At H v d → At H' v d
  | .none, _, h => by cases h; exact .non
  | .bool b, _, h => by cases h; exact .bl b
  | .int i, _, h => by cases h; exact .int i
  | .str x, _, h => by
    cases h with
    | str l hl => exact .str l hl
  | .list ds, _, h => by
    cases h with
    | lst e l a => exact .lst (s _ _ e) l (AtAll.mono s ds _ a)
  | .tuple ds, _, h => by
    cases h with
    | tup e l a => exact .tup (s _ _ e) l (AtAll.mono s ds _ a)
  | .dict kvs, _, h => by
    cases h with
    | dct e => exact .dct (s _ _ e)
theorem AtAll.mono (s : Same H H') : ∀ (ds : List PyData) (vs : List V), AtAll H vs ds → AtAll H' vs ds
  | [], _, h => by cases h; exact .nil
  | d :: ds, _, h => by
    cases h with
    | cons h1 h2 => exact .cons (At.mono s d _ h1) (AtAll.mono s ds _ h2)
end
theorem At.same {v : V} {d : PyData} (h : At H v d) (s : Same H H') : At H' v d := At.mono s d v h
theorem AtAll.same {vs : List V} {ds : List PyData} (h : AtAll H vs ds) (s : Same H H') : AtAll H' vs ds := AtAll.mono s ds vs h
mutual
theorem At.dp (K : PySem.W.Frag) : ∀ (d : PyData) (v : V), At H v d → d.hasDict = false → Dp K H v d
  | .none, _, h, _ => by cases h; exact .non
  | .bool b, _, h, _ => by cases h; exact .bl b
  | .int i, _, h, _ => by cases h; exact .int i
  | .str x, _, h, _ => by cases h; exact .str _
  | .list ds, _, h, n => by
    cases h with
    | lst e l a => exact .lst (.inl (.inl e)) (AtAll.dp K ds _ a n)
  | .tuple ds, _, h, n => by
    cases h with
    | tup e l a => exact .tup (.inl (.inl e)) (AtAll.dp K ds _ a n)
  | .dict kvs, _, h, n => by cases n
theorem AtAll.dp (K : PySem.W.Frag) : ∀ (ds : List PyData) (vs : List V), AtAll H vs ds → PyData.hasDictAll ds = false → DpAll K H vs ds
  | [], _, h, _ => by cases h; exact .nil
  | d :: ds, _, h, n => by
    cases h with
    | cons h1 h2 =>
      have n' : (d.hasDict || PyData.hasDictAll ds) = false := n
      rw [Bool.or_eq_false_iff] at n'
      exact .cons (At.dp K d _ h1 n'.1) (AtAll.dp K ds _ h2 n'.2)
end
theorem AtAll.len : ∀ {vs : List V} {ds : List PyData}, AtAll H vs ds → vs.length = ds.length
  | _, _, .nil => rfl
  | _, _, .cons _ r => congrArg Nat.succ r.len
theorem AtAll.get : ∀ {vs : List V} {ds : List PyData}, AtAll H vs ds → ∀ {i : Nat} {v : V}, vs[i]? = some v → ∃ d, ds[i]? = some d ∧ At H v d
  | _, _, .nil, _, _, e => by simp at e
  | _, _, .cons h r, 0, _, e => by
    cases (show some _ = some _ from e)
    exact ⟨_, rfl, h⟩
  | _, _, .cons h r, i + 1, v, e => r.get (i := i) e
theorem AtAll.at : ∀ {vs : List V} {ds : List PyData}, AtAll H vs ds → ∀ {i : Nat} {d : PyData}, ds[i]? = some d → ∃ v, vs[i]? = some v ∧ At H v d
  | _, _, .nil, _, _, e => by simp at e
  | _, _, .cons h r, 0, _, e => by
    cases (show some _ = some _ from e)
    exact ⟨_, rfl, h⟩
  | _, _, .cons h r, i + 1, v, e => r.at (i := i) e
theorem AtAll.app : ∀ {vs ws : List V} {ds es : List PyData}, AtAll H vs ds → AtAll H ws es → AtAll H (vs ++ ws) (ds ++ es)
  | _, _, _, _, .nil, r => r
  | _, _, _, _, .cons h t, r => .cons h (t.app r)
theorem AtAll.one {v : V} {d : PyData} (h : At H v d) : AtAll H [v] [d] := .cons h .nil
theorem AtAll.take : ∀ {vs : List V} {ds : List PyData}, AtAll H vs ds → ∀ (n : Nat), AtAll H (vs.take n) (ds.take n)
  | _, _, .nil, n => by simp; exact .nil
  | _, _, .cons h r, 0 => .nil
  | _, _, .cons h r, n + 1 => .cons h (r.take n)
theorem AtAll.drop : ∀ {vs : List V} {ds : List PyData}, AtAll H vs ds → ∀ (n : Nat), AtAll H (vs.drop n) (ds.drop n)
  | _, _, .nil, n => by simp; exact .nil
  | _, _, .cons h r, 0 => .cons h r
  | _, _, .cons h r, n + 1 => r.drop n
theorem AtAll.map {α : Type} {f : α → V} {g : α → PyData} (h : ∀ x, At H (f x) (g x)) : ∀ l : List α, AtAll H (l.map f) (l.map g)
  | [] => .nil
  | x :: r => .cons (h x) (AtAll.map h r)
theorem AtAll.rep {v : V} {d : PyData} (h : At H v d) : ∀ n : Nat, AtAll H (List.replicate n v) (List.replicate n d)
  | 0 => .nil
  | n + 1 => .cons h (AtAll.rep h n)
end
/-! ### A: what is known, G: all that stands -/
structure Ext (A G A' G' : Hp) : Prop where
  aa : Same A A'
  ag : Same A' G'
  gg : Same G G'
  nw : ∀ b, A b = none → A' b ≠ none → G b = none
section
variable {A G A1 G1 A2 G2 H : Hp} {p : Addr} {o o' : HO} {v : V} {d : PyData}
theorem Ext.refl (s : Same A G) : Ext A G A G := ⟨fun _ _ e => e, s, fun _ _ e => e, fun b h1 h2 => absurd h1 h2⟩
theorem Ext.trans (x : Ext A G A1 G1) (y : Ext A1 G1 A2 G2) : Ext A G A2 G2 := by
  refine ⟨x.aa.trans y.aa, y.ag, x.gg.trans y.gg, fun b h1 h2 => ?_⟩
  by_cases h : A1 b = none
  · exact x.gg.free (y.nw b h h2)
  · exact x.nw b h1 h
/-- something new, known -/
theorem Ext.new (x : Ext A G A1 G1) (n : G1 p = none) : Ext A G (upd A1 p o) (upd G1 p o) := by
  have na : A1 p = none := x.ag.free n
  refine ⟨Same.upd x.aa (x.gg.trans (fun _ _ e => e) |>.free n |> fun z => ?_), fun b u e => ?_, Same.upd x.gg (x.gg.free n), fun b h1 h2 => ?_⟩
  · by_cases h : A p = none
    · exact h
    · exact absurd na (by
        intro z
        cases e : A p with
        | none => exact h e
        | some u => rw [x.aa _ _ e] at z; cases z)
  · by_cases hb : b = p
    · rw [hb, upd_same] at e
      rw [hb, upd_same]; exact e
    · rw [upd_ne hb] at e
      rw [upd_ne hb]; exact x.ag _ _ e
  · by_cases hb : b = p
    · rw [hb]; exact x.gg.free n
    · rw [upd_ne hb] at h2
      exact x.nw b h1 h2
/-- something new, hidden -/
theorem Ext.hid (x : Ext A G A1 G1) (n : G1 p = none) : Ext A G A1 (upd G1 p o) :=
  ⟨x.aa, x.ag.trans (same_upd n), x.gg.trans (same_upd n), x.nw⟩
/-- what is hidden, and was not there at first, changes -/
theorem Ext.put (x : Ext A G A1 G1) (n : G p = none) (na : A1 p = none) : Ext A G A1 (upd G1 p o) :=
  ⟨x.aa, fun b u e => by rw [upd_ne (ne_of_none e na)]; exact x.ag _ _ e, Same.upd x.gg n, x.nw⟩
/-- what was hidden is known -/
theorem Ext.show (x : Ext A G A1 G1) (n : G p = none) (sa : Same A G) (e : G1 p = some o) : Ext A G (upd A1 p o) G1 := by
  have na : A p = none := sa.free n
  refine ⟨Same.upd x.aa na, fun b u e1 => ?_, x.gg, fun b h1 h2 => ?_⟩
  · by_cases hb : b = p
    · rw [hb, upd_same] at e1
      rw [hb, e]; exact e1
    · rw [upd_ne hb] at e1
      exact x.ag _ _ e1
  · by_cases hb : b = p
    · rw [hb]; exact n
    · rw [upd_ne hb] at h2
      exact x.nw b h1 h2
/-- what is hidden stays hidden -/
theorem Ext.free (x : Ext A G A1 G1) (n : A p = none) (e : G p ≠ none) : A1 p = none := by
  by_cases h : A1 p = none
  · exact h
  · exact absurd (x.nw p n h) e
theorem Ext.up (x : Ext A G A1 G1) (h : At A1 v d) : At G1 v d := h.same x.ag
theorem Ext.old (x : Ext A G A1 G1) (h : At A v d) : At A1 v d := h.same x.aa
end
/-! ### comprehensions whose elements are data -/
section
variable {K : PySem.W.Frag} {σ : L2.St} {A G : Hp} {Q : VK} {te tl : TE} {tt : TT} {ta : TA} {j : Nat} {a : Addr} {xs : List V} {vs : List Nat}
/-- behind i turns: the list at Dl, hidden, holds data -/
def Cw (A G : Hp) (Dl : Addr) (f : Nat → PyData) (i : Nat) (G1 : Hp) : Prop := G Dl = none ∧ ∃ A1 l, Ext A G A1 G1 ∧ A1 Dl = none ∧ G1 Dl = some (.lst l) ∧ AtAll A1 l ((List.range i).map f)
theorem cw_start (s : Same A G) {Dl : Addr} {f : Nat → PyData} (n : G Dl = none) : Cw A G Dl f 0 (upd G Dl (.lst [])) :=
  ⟨n, A, [], (Ext.refl s).hid n, s.free n, upd_same, .nil⟩
theorem cw_turn {Dl : Addr} {f : Nat → PyData} {i : Nat} {G1 : Hp} {σ2 : L2.St} (w : Cw A G Dl f i G1) (hi : i < 10000)
    (he : ∀ A1 G1, Ext A G A1 G1 → ∀ QV : VK, (∀ A2 G2 v, Ext A1 G1 A2 G2 → At A2 v (f i) → QV v G2) → te σ2 G1 QV) :
    tYes σ2 G1 fun b H3 => if b = true then te σ2 H3 fun y H4 => ∃ acc, H4 Dl = some (.lst acc) ∧ acc.length < sizeLine ∧ Cw A G Dl f (i + 1) (upd H4 Dl (.lst (acc ++ [y]))) else Cw A G Dl f (i + 1) H3 := by
  obtain ⟨n, A1, l, x, na, e, al⟩ := w
  refine i_yes ?_
  rw [if_pos rfl]
  refine he A1 G1 x _ fun A2 G2 v y hv => ?_
  have na2 : A2 Dl = none := y.free na (by rw [e]; simp)
  have ll : l.length = i := by rw [al.len]; simp
  refine ⟨l, y.gg _ _ e, Nat.lt_of_le_of_lt (Nat.le_of_eq ll) (Nat.lt_trans hi (by decide)), n, A2, l ++ [v], (x.trans y).put n na2, na2, upd_same, ?_⟩
  rw [List.range_succ, List.map_append]
  exact (al.same y.aa).app (.one hv)
theorem cw_end {Dl : Addr} {f : Nat → PyData} {n : Nat} {G1 : Hp} (w : Cw A G Dl f n G1) (sa : Same A G) (hn : n ≤ 10000) : ∃ A1, Ext A G A1 G1 ∧ At A1 (.ref Dl) (.list ((List.range n).map f)) ∧ ∃ l, G1 Dl = some (.lst l) ∧ A1 Dl = some (.lst l) ∧ AtAll A1 l ((List.range n).map f) ∧ l.length = n := by
  obtain ⟨h, A1, l, x, na, e, al⟩ := w
  have ll : l.length = n := by rw [al.len]; simp
  have al2 := al.same (same_upd (o := .lst l) na)
  exact ⟨_, x.show h sa e, .lst upd_same (by omega) al2, l, e, upd_same, al2, ll⟩
/-- [te for j in a list] -/
theorem c_lstD {ds : List PyData} (sa : Same A G) (ha : ∀ R : VK, R (.ref a) G → tl σ G R) (hx : SqL K G a xs) (hd : AtAll A xs ds) (hn : xs.length ≤ 10000) (f : PyData → PyData) (hw : ∀ x, wipe ((wipe σ vs).set j (some x)) vs = wipe σ vs)
    (he : ∀ x d A1 G1, d ∈ ds → At A1 x d → Ext A G A1 G1 → ∀ QV : VK, (∀ A2 G2 v, Ext A1 G1 A2 G2 → At A2 v (f d) → QV v G2) → te ((wipe σ vs).set j (some x)) G1 QV)
    (q : ∀ Dl A1 G1 l, Ext A G A1 G1 → G1 Dl = some (.lst l) → A1 Dl = some (.lst l) → AtAll A1 l (ds.map f) → l.length = ds.length → Q (.ref Dl) G1) : tLc (iAny K tl) (gName j) tYes te vs σ G Q := by
  have hl := hd.len
  have e1 : (List.range ds.length).map (fun i => f (ds.getD i .none)) = ds.map f := by
    refine List.ext_getElem? fun i => ?_
    rw [List.getElem?_map, List.getElem?_map]
    by_cases h : i < ds.length
    · rw [List.getElem?_range h, Option.map_some, List.getD_eq_getElem?_getD, List.getElem?_eq_getElem h]
      rfl
    · rw [List.getElem?_eq_none (by simpa using h), List.getElem?_eq_none (by omega)]
      rfl
  refine ha _ (.inl ⟨a, xs, rfl, hx, fun Dl nD => ?_⟩)
  refine lc_list (xs := xs) (Cw A G Dl fun i => f (ds.getD i .none)) (cw_start sa nD) (fun i H' hi p => ?_) (fun i x H' hi p => ?_) (fun H' p => ?_)
  · obtain ⟨_, _, _, x, _⟩ := p
    exact x.gg.seq hx
  · have hlt := (List.getElem?_eq_some_iff.mp hi).1
    obtain ⟨d, hd1, hd2⟩ := hd.get hi
    refine ⟨hw _, cw_turn p (by omega) fun A1 G1 y QV k => he x d A1 G1 (List.mem_of_getElem? hd1) (hd2.same y.aa) y QV fun A2 G2 v z hv => k A2 G2 v z ?_⟩
    rw [List.getD_eq_getElem?_getD, hd1]
    exact hv
  · rw [hl] at p
    obtain ⟨A1, y, _, l, e, ea, al, ll⟩ := cw_end p sa (by omega)
    rw [e1] at al
    exact q Dl A1 H' l y e ea al ll
/-- [te for j in a tuple] -/
theorem c_tupD {ds : List PyData} (sa : Same A G) (ha : ∀ R : VK, R (.ref a) G → tl σ G R) (hx : SqT K G a xs) (hd : AtAll A xs ds) (hn : xs.length ≤ 10000) (f : PyData → PyData) (hw : ∀ x, wipe ((wipe σ vs).set j (some x)) vs = wipe σ vs)
    (he : ∀ x d A1 G1, d ∈ ds → At A1 x d → Ext A G A1 G1 → ∀ QV : VK, (∀ A2 G2 v, Ext A1 G1 A2 G2 → At A2 v (f d) → QV v G2) → te ((wipe σ vs).set j (some x)) G1 QV)
    (q : ∀ Dl A1 G1 l, Ext A G A1 G1 → G1 Dl = some (.lst l) → A1 Dl = some (.lst l) → AtAll A1 l (ds.map f) → l.length = ds.length → Q (.ref Dl) G1) : tLc (iAny K tl) (gName j) tYes te vs σ G Q := by
  have hl := hd.len
  have e1 : (List.range ds.length).map (fun i => f (ds.getD i .none)) = ds.map f := by
    refine List.ext_getElem? fun i => ?_
    rw [List.getElem?_map, List.getElem?_map]
    by_cases h : i < ds.length
    · rw [List.getElem?_range h, Option.map_some, List.getD_eq_getElem?_getD, List.getElem?_eq_getElem h]
      rfl
    · rw [List.getElem?_eq_none (by simpa using h), List.getElem?_eq_none (by omega)]
      rfl
  refine ha _ (.inr (.inl ⟨a, xs, rfl, hx, fun Dl nD => ?_⟩))
  refine lc_tup (xs := xs) (Cw A G Dl fun i => f (ds.getD i .none)) (cw_start sa nD) (fun i H' hi p => ?_) (fun i x H' hi p => ?_) (fun H' p => ?_)
  · obtain ⟨_, _, _, x, _⟩ := p
    exact Same.tup x.gg hx
  · have hlt := (List.getElem?_eq_some_iff.mp hi).1
    obtain ⟨d, hd1, hd2⟩ := hd.get hi
    refine ⟨hw _, cw_turn p (by omega) fun A1 G1 y QV k => he x d A1 G1 (List.mem_of_getElem? hd1) (hd2.same y.aa) y QV fun A2 G2 v z hv => k A2 G2 v z ?_⟩
    rw [List.getD_eq_getElem?_getD, hd1]
    exact hv
  · rw [hl] at p
    obtain ⟨A1, y, _, l, e, ea, al, ll⟩ := cw_end p sa (by omega)
    rw [e1] at al
    exact q Dl A1 H' l y e ea al ll
end
/-! ### rules by name -/
section
variable {X : Cx} (K : PySem.W.Frag) {e o value : Expr} {es : List Expr} {te to tv : TE} {ta : TA} {f : Str} {p pos apos cpos tpos pos' : PySem.Pos}
theorem peFld (he : PE X e te) (h : X.K = K := by rfl) (hb : attributeBase e f X.env (eval e X.env) = eval e X.env := by rfl) : PE X (.Attribute e f pos) (tFld K te f) := h ▸ pe_fld he hb
theorem psFld (ho : PE X o to) (hv : PE X value tv) (h : X.K = K := by rfl) (hs : swapsWith value (some (.Attribute o f pos')) pos.line X.env = pure false := by rfl) : PS X (.Assign [.Attribute o f pos'] value pos) (sFld K to tv f) := h ▸ ps_fld ho hv hs
theorem psFldAug {op : Operator} {rd : V → V → Hp → VK → Prop} (ho : PE X o to) (hv : PE X value tv) (hop : InOp X op rd) (h : X.K = K := by rfl) : PS X (.AugAssign (.Attribute o f tpos) op value pos) (sFldAug K to tv rd f) := h ▸ ps_fldaug ho hv hop
def rSplit : V → List V → Hp → VK → Prop := fun x xs H Q => ∃ a b, x = .str a ∧ xs = [.str b] ∧ (b.length == 0) = false ∧ a.length + 2 ≤ sizeLine ∧ rNewStrs (Txt.split a b) H Q
def tSpl (K : PySem.W.Frag) (to : TE) (t : TA) : TE := tBM K "str" rSplit to t
theorem peSplit (ho : PE X o to) (ha : PA X (e :: es) ta) (h : X.K = K := by rfl) (hbase : attributeBase o "split" X.env (eval o X.env) = eval o X.env := by rfl)
    (hfew : ((backTo cpos (starEach (e :: es) X.env)).all (fun x => !x.1) && (backToKw cpos (keywordEach [] X.env)).all (fun x => x.1.isSome)
      && decide ((e :: es).length + ([] : List Keyword).length + (if ([] : List Keyword).isEmpty then 0 else 1) < 30)) = true := by rfl)
    (hline : (apos.endLine == cpos.line) = true := by rfl) (hs : starEach (e :: es) X.env = (false, eval e X.env) :: starEach es X.env := by rfl) (hplain : (backTo cpos (starEach es X.env)).any (·.1) = false := by rfl) :
    PE X (.Call (.Attribute o "split" apos) (e :: es) [] cpos) (tSpl K to ta) := h ▸ pe_bm PySem.F.plainAttrs_str PySem.F.slot_str_split PySem.F.type_str_split mt_split ho ha hbase hfew hline hs hplain
theorem cIsiT (h : X.K = K := by rfl) : CallR X (.builtin "isinstance") (rIsiT K) := h ▸ call_isiT
theorem opInD (hu : X.A.units + 65 < cLine) (h : X.K = K := by rfl) : OpR X (compareOp .In) (rInD K) := h ▸ op_inD hu
theorem opNotInD (hu : X.A.units + 65 < cLine) (h : X.K = K := by rfl) : OpR X (compareOp .NotIn) (rNotInD K) := h ▸ op_notInD hu
theorem cReprD (hgu : X.A.guards = some []) (hu : X.A.units + 64 < cLine) (h : X.K = K := by rfl) : CallR X (.builtin "repr") (rReprD K) := h ▸ call_reprD hgu hu
end
/-! ### readings -/
section
variable {K : PySem.W.Frag} {σ : L2.St} {H : Hp} {Q : VK} {Qs : L2.St → Hp → Prop} {D : Ends} {te to tv : TE} {ta : TA} {a C dx : Addr} {fs : List (Str × V)} {f m : Str} {v y : V} {xs : List V} {sp : Sp} {dvs : List V} {E : XK} {z w : Int}
theorem i_fld {P : V → Prop} (h : H a = some (.ins C dx fs)) (c : Cls K C) (n : NoAttr K C f) (l : fs.lookup f = some v) (q : P v) : ∃ a' C dx fs v, V.ref a = .ref a' ∧ H a' = some (.ins C dx fs) ∧ Cls K C ∧ NoAttr K C f ∧ fs.lookup f = some v ∧ P v :=
  ⟨a, C, dx, fs, v, rfl, h, c, n, l, q⟩
theorem i_tfld (q : te σ H fun x H1 => ∃ a C dx fs v, x = .ref a ∧ H1 a = some (.ins C dx fs) ∧ Cls K C ∧ NoAttr K C f ∧ fs.lookup f = some v ∧ Q v H1) : tFld K te f σ H Q := q
theorem i_sfld (q : tv σ H fun y H1 => to σ H1 fun x H2 => ∃ a C dx fs, x = .ref a ∧ H2 a = some (.ins C dx fs) ∧ Cls K C ∧ NoAttr K C f ∧ fs.length < 1000 ∧ D.nx σ (upd H2 a (.ins C dx (putF f y fs)))) : sFld K to tv f D σ H := q
theorem i_put {P : Addr → Addr → Addr → List (Str × V) → Prop} (h : H a = some (.ins C dx fs)) (c : Cls K C) (n : NoAttr K C f) (l : fs.length < 1000) (q : P a C dx fs) :
    ∃ a' C dx fs, V.ref a = .ref a' ∧ H a' = some (.ins C dx fs) ∧ Cls K C ∧ NoAttr K C f ∧ fs.length < 1000 ∧ P a' C dx fs := ⟨a, C, dx, fs, rfl, h, c, n, l, q⟩
theorem i_meth (q : to σ H fun x H1 => ∃ a dx fs, x = .ref a ∧ H1 a = some (.ins C dx fs) ∧ fs.lookup m = none ∧ ta σ H1 fun vs H2 => sp (x :: (vs ++ dvs)) H2 Q E) : tMeth C m sp dvs E to ta σ H Q := q
theorem i_self {P : Prop} (h : H a = some (.ins C dx fs)) (l : fs.lookup m = none) (q : P) : ∃ a' dx fs, V.ref a = .ref a' ∧ H a' = some (.ins C dx fs) ∧ fs.lookup m = none ∧ P := ⟨a, dx, fs, rfl, h, l, q⟩
theorem i_make (q : ta σ H fun vs H1 => ∀ x dx, H1 x = none → H1 dx = none → dx ≠ x → sp (.ref x :: (vs ++ dvs)) (upd (upd H1 dx (.own x)) x (.ins C dx [])) (fun v H2 => v = .non ∧ Q (.ref x) H2) E) : tMake C sp dvs E ta σ H Q := q
theorem i_spl (q : to σ H fun x H1 => tyV K "str" x H1 ∧ ta σ H1 fun xs H2 => rSplit x xs H2 Q) : tSpl K to ta σ H Q := q
/-- the kind of a datum -/
def kindD : PyData → String
  | .none => "NoneType" | .bool _ => "bool" | .int _ => "int" | .str _ => "str" | .list _ => "list" | .tuple _ => "tuple" | .dict _ => "dict"
theorem At.ty {d : PyData} (K : PySem.W.Frag) (h : At H v d) : TyX K H v (.type (kindD d)) := by
  cases h with
  | non => exact .base .non
  | bl b => exact .base (.bl b)
  | int i => exact .base (.int i)
  | str l _ => exact .base (.str _)
  | lst e _ _ => exact .base (.lst e)
  | tup e _ _ => exact .base (.tup e)
  | dct e => exact .base (.dK e)
theorem i_isiD {d : PyData} {t : String} {b : Bool} (h : At H v d) (e : PySem.W.kitOne K (.type (kindD d)) (.type t) = some b) (q : Q (.bl b) H) : rIsi K [v, .ty t] H Q := ⟨_, _, _, _, b, rfl, .ty _, h.ty K, e, q⟩
theorem i_isiT2 {d : PyData} {t u : String} {b : Bool} {tp : Addr} (h : At H v d) (ht : H tp = some (.tup [.ty t, .ty u])) (e : PySem.W.kitAny K (.type (kindD d)) [.type t, .type u] = some b) (q : Q (.bl b) H) : rIsiT K [v, .ref tp] H Q :=
  ⟨v, tp, _, _, _, b, rfl, ht, .cons (.ty _) (.cons (.ty _) .nil), h.ty K, e, q⟩
end
theorem OK.never {P : Program} {w : World} {K : PySem.W.Frag} {mg : Str → Option Value} {base : Heap} {CX : CXT} {k : Nat} {x : Str} {st : Stmt} {ps : List Str} {dvs : List V} (D : DefD K mg x st ps dvs) : OK P w K mg base CX k x ps fun _ _ _ _ => False := by
  obtain ⟨f, fd, F, hm, hb, _⟩ := D
  exact ⟨f, fd, ⟨fun _ _ _ _ h => h.elim, fun _ _ _ _ _ _ _ _ _ _ _ _ _ h => h.elim⟩, hm, F.kp, hb⟩
theorem OK.never0 {P : Program} {w : World} {K : PySem.W.Frag} {mg : Str → Option Value} {base : Heap} {CX : CXT} {k : Nat} {x : Str} {st : Stmt} {ps : List Str} (D : DefIn K mg x st ps) : OK P w K mg base CX k x ps fun _ _ _ _ => False := by
  obtain ⟨f, fd, F, hm, hb⟩ := D
  exact ⟨f, fd, ⟨fun _ _ _ _ h => h.elim, fun _ _ _ _ _ _ _ _ _ _ _ _ _ h => h.elim⟩, hm, F.kp, hb⟩
theorem depth_mem : ∀ {ds : List PyData} {d : PyData}, d ∈ ds → d.depth ≤ PyData.depthAll ds
  | e :: r, d, h => by
    show d.depth ≤ max e.depth (PyData.depthAll r)
    rcases List.mem_cons.mp h with rfl | h
    · exact Nat.le_max_left _ _
    · exact Nat.le_trans (depth_mem h) (Nat.le_max_right _ _)
/-- lists as tuples, at all depths -/
def deepD : PyData → PyData
  | .list ds => .tuple (deepDs ds)
  | .tuple ds => .tuple (deepDs ds)
  | d => d
where deepDs : List PyData → List PyData
  | [] => []
  | d :: r => deepD d :: deepDs r
theorem deepDs_map : ∀ ds : List PyData, deepD.deepDs ds = ds.map deepD
  | [] => rfl
  | d :: r => by rw [List.map_cons, ← deepDs_map r]; rfl
/-! ### isinstance of a datum -/
def isSeqD : PyData → Bool
  | .list _ => true | .tuple _ => true | _ => false
def isTupD : PyData → Bool
  | .tuple _ => true | _ => false
def isStrD : PyData → Bool
  | .str _ => true | _ => false
def isIntD : PyData → Bool
  | .int _ => true | .bool _ => true | _ => false
def isBoolD : PyData → Bool
  | .bool _ => true | _ => false
section
variable {K : PySem.W.Frag} {H : Hp} {Q : VK} {v : V} {d : PyData} {tp : Addr}
theorem i_isiSeq (b : Bool) (h : At H v d) (ht : H tp = some (.tup [.ty "list", .ty "tuple"])) (e : isSeqD d = b) (q : Q (.bl b) H) : rIsiT K [v, .ref tp] H Q := by
  subst e
  refine i_isiT2 h ht ?_ q
  cases d <;> simp only [kindD, isSeqD] <;> first
    | exact kitAny_cons (b := true) (kit_ty (by decide +kernel)) (fun z => nomatch z) (fun _ => rfl)
    | exact kitAny_cons (b := false) (kit_ty (by decide +kernel)) (fun _ => kitAny_cons (b := true) (kit_ty (by decide +kernel)) (fun z => nomatch z) (fun _ => rfl)) (fun z => nomatch z)
    | exact kitAny_cons (b := false) (kit_ty (by decide +kernel)) (fun _ => kitAny_cons (b := false) (kit_ty (by decide +kernel)) (fun _ => rfl) (fun z => nomatch z)) (fun z => nomatch z)
theorem i_isiTup (b : Bool) (h : At H v d) (e : isTupD d = b) (q : Q (.bl b) H) : rIsi K [v, .ty "tuple"] H Q := by
  subst e
  refine i_isiD h (kit_ty ?_) q
  cases d <;> (simp only [kindD, isTupD] ; decide +kernel)
theorem i_isiStr (b : Bool) (h : At H v d) (e : isStrD d = b) (q : Q (.bl b) H) : rIsi K [v, .ty "str"] H Q := by
  subst e
  refine i_isiD h (kit_ty ?_) q
  cases d <;> (simp only [kindD, isStrD] ; decide +kernel)
theorem i_isiInt (b : Bool) (h : At H v d) (e : isIntD d = b) (q : Q (.bl b) H) : rIsi K [v, .ty "int"] H Q := by
  subst e
  refine i_isiD h (kit_ty ?_) q
  cases d <;> (simp only [kindD, isIntD] ; decide +kernel)
theorem i_isiBool (b : Bool) (h : At H v d) (e : isBoolD d = b) (q : Q (.bl b) H) : rIsi K [v, .ty "bool"] H Q := by
  subst e
  refine i_isiD h (kit_ty ?_) q
  cases d <;> (simp only [kindD, isBoolD] ; decide +kernel)
theorem At.tupled {ds : List PyData} (h : At H v (.tuple ds)) : ∃ a xs, v = .ref a ∧ H a = some (.tup xs) ∧ xs.length ≤ 10000 ∧ AtAll H xs ds := by
  cases h with
  | tup e l a => exact ⟨_, _, rfl, e, l, a⟩
theorem At.listed {ds : List PyData} (h : At H v (.list ds)) : ∃ a xs, v = .ref a ∧ H a = some (.lst xs) ∧ xs.length ≤ 10000 ∧ AtAll H xs ds := by
  cases h with
  | lst e l a => exact ⟨_, _, rfl, e, l, a⟩
theorem At.strd {x : Str} (h : At H v (.str x)) : v = .str x := by
  cases h; rfl
theorem At.strl {x : Str} (h : At H v (.str x)) : ∃ l : List Nat, v = S l ∧ x = ⟨l.toArray⟩ ∧ l.length ≤ 10000 := by
  cases h with
  | str l hl => exact ⟨l, rfl, rfl, hl⟩
theorem At.intd {i : Int} (h : At H v (.int i)) : v = .int i := by
  cases h; rfl
theorem At.mkTup {a : Addr} {xs : List V} {ds : List PyData} (e : H a = some (.tup xs)) (h : AtAll H xs ds) (l : ds.length ≤ 10000) : At H (.ref a) (.tuple ds) := .tup e (by rw [h.len]; exact l) h
theorem At.mkLst {a : Addr} {xs : List V} {ds : List PyData} (e : H a = some (.lst xs)) (h : AtAll H xs ds) (l : ds.length ≤ 10000) : At H (.ref a) (.list ds) := .lst e (by rw [h.len]; exact l) h
end
/-! ### loops over a text, over a tuple, behind i_for -/
section
variable {K : PySem.W.Frag} {σ : L2.St} {H : Hp} {D : Ends} {te : TE} {tb : TS} {g : TG} {a : Addr} {xs : List V} {z : List Nat}
theorem i_forS {A B : Prop} (Pv : Nat → L2.St → Hp → Prop) (h0 : Pv 0 σ H)
    (hs : ∀ i c σ' H', z[i]? = some c → Pv i σ' H' → g (S [c]) σ' H' fun σ2 H2 => tb { D with nx := Pv (i + 1), ct := Pv (i + 1), bk := D.nx } σ2 H2) (hd : ∀ σ' H', Pv z.length σ' H' → D.nx σ' H') :
    A ∨ B ∨ ∃ z', S z = .str z' ∧ LoopG g tb D σ (Its z') H := by
  have e : (⟨z.toArray⟩ : Str).cps.size = z.length := str_len z
  refine .inr (.inr ⟨_, rfl, for_it walk_str Pv h0 (fun _ _ _ _ _ => True.intro) (fun i x σ' H' H2 hi p y => ?_) (by rw [e]; exact hd)⟩)
  obtain ⟨rfl, c, hc, rfl⟩ := y
  exact hs i c σ' _ (by simpa using hc) p
theorem i_forT {A B : Prop} (hx : SqT K H a xs) (Pv : Nat → L2.St → Hp → Prop) (h0 : Pv 0 σ H) (hl : ∀ i σ' H', i ≤ xs.length → Pv i σ' H' → SqT K H' a xs)
    (hs : ∀ i x σ' H', xs[i]? = some x → Pv i σ' H' → g x σ' H' fun σ2 H2 => tb { D with nx := Pv (i + 1), ct := Pv (i + 1), bk := D.nx } σ2 H2) (hd : ∀ σ' H', Pv xs.length σ' H' → D.nx σ' H') :
    A ∨ (∃ a' xs', V.ref a = .ref a' ∧ SqT K H a' xs' ∧ LoopG g tb D σ (Itt K a') H) ∨ B := .inr (.inl ⟨a, xs, rfl, hx, for_tup Pv h0 hl hs hd⟩)
end
/-! ### calls whose defaults fill up; methods -/
section
variable {σ : L2.St} {H : Hp} {Q : VK} {E : XK} {tl : TA} {x y z u : V} {p1 : P1} {p2 : P2} {p3 : P3} {p4 : P4}
theorem i_callD {sp : Sp} {dvs : List V} (q : tl σ H fun vs H1 => sp (vs ++ dvs) H1 Q E) : tCall sp dvs E tl σ H Q := q
theorem i_spD2 (q : p2 x y H Q E) : sp2 p2 ([x] ++ [y]) H Q E := ⟨x, y, rfl, q⟩
theorem i_spM1 (q : p1 x H Q E) : sp1 p1 (x :: ([] ++ [])) H Q E := ⟨x, rfl, q⟩
theorem i_spM2 (q : p2 x y H Q E) : sp2 p2 (x :: ([y] ++ [])) H Q E := ⟨x, y, rfl, q⟩
theorem i_spM3 (q : p3 x y z H Q E) : sp3 p3 (x :: ([y, z] ++ [])) H Q E := ⟨x, y, z, rfl, q⟩
theorem i_spM4 (q : p4 x y z u H Q E) : sp4 p4 (x :: ([y, z, u] ++ [])) H Q E := ⟨x, y, z, u, rfl, q⟩
theorem i_spM3d (q : p3 x y z H Q E) : sp3 p3 (x :: ([y] ++ [z])) H Q E := ⟨x, y, z, rfl, q⟩
end
end Fg
/-! enumerate(a tuple) -/
namespace Fg
open PySem PySem.Spec PyProof.Rows L2
open AutoSeq1 (wpAny_loadPart')
theorem meets_enumT (l : Addr) (items : Array Value) (n : Nat) (dct : Option Addr) (sl : Array (Option Value)) :
    Meets (Builtin.«enumerate.__new__» ⟨[.type "enumerate", .ref l], []⟩) (fun _ R s => s.heap.get? l = some { cls := .type "tuple", dict := dct, data := .seq items n, slots := sl } ∧
      R (.ok (.ret (.ref (s.heap.push { cls := .type "tuple_iterator", data := .fields #[.ref l, .int 0 0] }).objs.size)))
        { s with heap := (s.heap.push { cls := .type "tuple_iterator", data := .fields #[.ref l, .int 0 0] }).push { cls := .type "enumerate", data := .fields #[.none, .bool false, .ref s.heap.objs.size, rawInt 0, .none, .none] } }) :=
  .of_wp fun prog w A R s h => by
    obtain ⟨hp, g, d, tk, os⟩ := s; obtain ⟨hl, h⟩ := h
    have hsub := sub_enumerate
    have hL : Heap.IsTuple (Shared.heap ⟨hp, g, d, tk, os⟩) l items := ⟨_, hl, rfl, n, rfl⟩
    wp_walk using wpAny_loadPart' hl
    refine wpAny_stack_any fun st => wpAny_pure ?_
    split
    · rename_i c _ _ _ _ _
      cases (c == Value.type "enumerate")
      · wp_walk using wpAny_loadPart' hl, wpAny_pyIter_tuple hL
        exact ⟨_, rfl, h⟩
      · wp_walk using wpAny_loadPart' hl, wpAny_pyIter_tuple hL
        exact ⟨_, rfl, h⟩
    · wp_walk using wpAny_loadPart' hl, wpAny_pyIter_tuple hL
      exact ⟨_, rfl, h⟩
section
variable {prog : Program} {w : World} {A : Around} {E : Value → Shared → Prop} {s : Shared}
theorem call_enumT {l : Addr} {items : Array Value} {Q : Value → Shared → Prop} (hL : s.heap.IsTuple l items)
    (h : ∀ h', IsEnum h' (s.heap.objs.size + 1) s.heap.objs.size 0 .none → h'.IsTupleIter s.heap.objs.size l 0 → h'.objs.size = s.heap.objs.size + 2 →
      (∀ b o, s.heap.get? b = some o → h'.get? b = some o) → Q (.ref (s.heap.objs.size + 1)) { s with heap := h' }) :
    wpAny (model prog w) A (call (.type "enumerate") [.ref l]) Q E s := by
  obtain ⟨⟨c, dct, dt, sl⟩, hl, hc, n, hd⟩ := hL
  replace hc : c = .type "tuple" := hc
  replace hd : dt = .seq items n := hd
  subst hc hd
  refine callType_new F.called_enumerate (by decide) (F.typeCall_enumerate_1 _) (F.newCall_enumerate_1 _) (fun obj => F.args_object_init_2 obj _) F.entry_enumerate_new
    (meets_enumT l items n dct sl) ⟨hl, ?_⟩
  have hz : (s.heap.push { cls := .type "tuple_iterator", data := .fields #[.ref l, .int 0 0] }).objs.size = s.heap.objs.size + 1 := Heap.size_push ..
  show _ ∧ _
  rw [hz]
  have he : IsEnum ((s.heap.push { cls := .type "tuple_iterator", data := .fields #[.ref l, .int 0 0] }).push
      { cls := .type "enumerate", data := .fields #[.none, .bool false, .ref s.heap.objs.size, rawInt 0, .none, .none] }) (s.heap.objs.size + 1) s.heap.objs.size 0 .none := by
    have := Heap.get?_push_size (s.heap.push { cls := .type "tuple_iterator", data := .fields #[.ref l, .int 0 0] })
      (o := { cls := .type "enumerate", data := .fields #[.none, .bool false, .ref s.heap.objs.size, rawInt 0, .none, .none] }) rfl
    rw [hz] at this; exact this
  refine ⟨⟨_, he, rfl⟩, h _ he ⟨_, Heap.get?_push_of_some _ (Heap.get?_push_size _ rfl), rfl, rfl⟩ (by rw [Heap.size_push, hz]) fun b o x => Heap.get?_push_of_some _ (Heap.get?_push_of_some _ x)⟩
end
/-- the tuple at a, each item in a new pair with its place -/
def Itet (K : PySem.W.Frag) (a : Addr) : It :=
  ⟨fun i H => ∃ (xs : List V) (x : V), SqT K H a xs ∧ xs[i]? = some x, fun i H v H' => ∃ T x, v = .ref T ∧ H T = none ∧ H' = upd H T (.tup [.int (i : Nat), x]) ∧ ∀ xs, SqT K H a xs → xs[i]? = some x, fun i H => ∃ xs : List V, SqT K H a xs ∧ i = xs.length⟩
theorem turn_enumT {P : Program} {w : World} {K : PySem.W.Frag} {elts : List Expr} {kk : Nat} {tpos : PySem.Pos} (a e it : Addr) :
    Turn P w K (.Tuple elts kk tpos) (Itet K a) [e, it] e (fun i h => (∃ old, IsEnum h e it ((i : Nat) : Int) old) ∧ h.IsTupleIter it a i ∧ e ≠ it) where
  mem := by simp
  obj := fun i h st b hb => by
    obtain ⟨⟨old, he⟩, ⟨o, ho, hc, hd⟩, _⟩ := st
    have e' : b = e ∨ b = it := by simpa using hb
    rcases e' with z | z
    · rw [z]; exact ⟨_, he, fun v q => nomatch q⟩
    · rw [z]; exact ⟨o, ho, fun v q => by rw [hd] at q; cases q⟩
  keep := fun i h h' st k => let ⟨⟨old, he⟩, hi, hne⟩ := st; ⟨⟨old, k e (by simp) _ he⟩, hi.at fun o q => k it (by simp) o q, hne⟩
  item := by
    intro X hP hw hK hc i pins s σ H E I hf st hg
    subst hP hw hK
    obtain ⟨⟨old, he⟩, hit, hne⟩ := st
    obtain ⟨xs, x, hq, hx⟩ := hg
    obtain ⟨its, rv, p, hz⟩ := I.tuple hq
    have pt : s.heap.IsTuple a its.toArray := p
    obtain ⟨u, hu, ru⟩ := rv.get hx
    have hel : e < s.heap.objs.size := Heap.lt_size he
    have hil : it < s.heap.objs.size := by obtain ⟨_, q, _⟩ := hit; exact Heap.lt_size q
    have hai : a ≠ it := fun z => by
      obtain ⟨o1, q1, c1, _⟩ := hit
      obtain ⟨o2, q2, c2, _⟩ := pt
      rw [z, q1] at q2
      cases q2
      rw [c1] at c2
      exact absurd c2 (by simp)
    have hae : e ≠ a := fun z => by
      obtain ⟨o2, q2, c2, _⟩ := pt
      rw [← z] at q2
      have q1 : s.heap.get? e = some _ := he
      rw [q1] at q2
      cases q2
      exact absurd c2 (by simp)
    have hsz : its.toArray.size = xs.length := by rw [List.size_toArray]; exact rv.length.symm
    have D := Draws.tuple (prog := X.prog) (w := X.w) (A := X.A.in1) (I.ok.hd hc) it a hai its.toArray
    refine wpAny_pyNext_enum_itemC D he ⟨hit, pt⟩ (by rw [hsz]; exact (List.getElem?_eq_some_iff.mp hx).1) hne (by simp [hne, hae]) fun y h' tk hy ho hS' hT hsz2 hk => ?_
    have yu : y = u := by
      have e1 : its.toArray[i]? = some u := by simpa using hu
      rw [e1] at hy
      exact (Option.some.inj hy).symm
    subst yu
    refine ⟨_, rfl, wpAny_letOwnedTupleGo_enum (s := { s with heap := h', toks := tk + 1 }) ho fun h2 he2 sb => ?_⟩
    have T2 : h2.get? s.heap.objs.size = some { cls := .type "tuple", data := .seq #[.int i tk, y] } := (sb.2 _ (Nat.ne_of_gt hel)).trans hT
    have new : ObjOk X.prog X.w (upd H s.heap.objs.size (.tup [.int (i : Nat), x])) h2 s.heap.objs.size (.tup [.int (i : Nat), x]) :=
      ⟨by show 2 ≤ sizeLine; decide, [.int i tk, y], .cons ⟨_, rfl⟩ (.cons ru .nil), ⟨_, T2, rfl, _, rfl⟩⟩
    have J : Inv X pins σ (upd H s.heap.objs.size (.tup [.int (i : Nat), x])) { s with heap := h2, toks := tk + 1 } :=
      I.turnedNew (ch := [e, it]) (fun b ob hb q => (sb.2 b (fun z => hb (by simp [z]))).trans (hk b ob (fun z => hb (by simp [z])) (fun z => hb (by simp [z])) q)) hf (Nat.le_refl _) new
    refine ⟨.ref s.heap.objs.size, _, J, rfl, ⟨_, x, rfl, I.hok.fresh (Nat.le_refl _), rfl, fun ys hy => by rw [I.tuple_inj hy hq]; exact hx⟩, ⟨⟨y, ?_⟩, ?_, hne⟩, fun b hb => ?_⟩
    · have e1 : ((i + 1 : Nat) : Int) = (i : Int) + 1 := by omega
      rw [e1]; exact he2
    · exact hS'.1.at fun o q => (sb.2 it (Ne.symm hne)).trans q
    · have hb' : b < s.heap.objs.size := by
        have e' : b = e ∨ b = it := by simpa using hb
        rcases e' with z | z
        · rw [z]; exact hel
        · rw [z]; exact hil
      rw [upd_ne (Nat.ne_of_lt hb')]
      exact (hf b hb).1
  done := by
    intro X hP hw hK hc i pins s σ H E I hf st hg
    subst hP hw hK
    obtain ⟨⟨old, he⟩, hit, hne⟩ := st
    obtain ⟨xs, hq, hx⟩ := hg
    obtain ⟨its, rv, p, hz⟩ := I.tuple hq
    have pt : s.heap.IsTuple a its.toArray := p
    have hai : a ≠ it := fun z => by
      obtain ⟨o1, q1, c1, _⟩ := hit
      obtain ⟨o2, q2, c2, _⟩ := pt
      rw [z, q1] at q2
      cases q2
      rw [c1] at c2
      exact absurd c2 (by simp)
    obtain ⟨f0, f1, f2, f3, f4, f5⟩ := hf it (by simp)
    have hsz : its.toArray.size = i := by rw [List.size_toArray, hx]; exact rv.length.symm
    have D := Draws.tuple (prog := X.prog) (w := X.w) (A := X.A.in1) (I.ok.hd hc) it a hai its.toArray
    exact wpAny_pyNext_enum_endD D he ⟨hsz ▸ hit, pt⟩ fun h' eb => ⟨rfl, I.turned (t' := s.toks) (fun b o hb q => eb b o hb q) f0 f1 f3 f4 f5⟩
  self := fun A i s Q E st h => let ⟨⟨_, he⟩, _⟩ := st; wpAny_pyIter_enum he h
def iEnumT (K : PySem.W.Frag) (ta : TA) : TI := fun σ H R => ta σ H fun vs H1 => ∃ a xs, vs = [.ref a] ∧ SqT K H1 a xs ∧ R (Itet K a) H1
theorem pi_enumT {X : Cx} {e : Expr} {ta : TA} {p pos tpos : PySem.Pos} {elts : List Expr} {kk : Nat} (hg : Gl X "enumerate") (hm : X.mg "enumerate" = none) (ha : PA X [e] ta) (hs : starEach [e] X.env = [(false, eval e X.env)] := by rfl) :
    PI X (.Tuple elts kk tpos) (.Call (.Name "enumerate" p) [e] [] pos) (iEnumT X.K ta) := by
  refine ⟨fun pins s σ H R I h => Call_ (ld_blt I hg hm boot_enumerate (PyProof.Rows.callWith_type1 (thn (ha.run pos pins s σ H _ I h) fun us s1 ⟨vs, H1, J, r1, q1⟩ => ?_) hs rfl))⟩
  have far : ∀ b ∈ [s1.heap.objs.size + 1, s1.heap.objs.size], s1.heap.objs.size ≤ b := fun b hb => by
    rcases List.mem_cons.mp hb with rfl | hb
    · exact Nat.le_succ _
    · rw [List.mem_singleton.mp hb]; exact Nat.le_refl _
  obtain ⟨a, xs, rfl, hq, q⟩ := q1
  cases r1 with
  | cons r rr =>
    cases rr
    cases r
    obtain ⟨its, rv, pl, hz⟩ := J.tuple hq
    refine call_enumT (show s1.heap.IsTuple a its.toArray from pl) fun h' hE hit hsz hk => wpAny_pyIter_enum hE ?_
    have J2 : Inv X pins σ H1 { s1 with heap := h' } := J.kept (t' := s1.toks) hk
    exact ⟨_, _, _, _, H1, rfl, J2, turn_enumT a (s1.heap.objs.size + 1) s1.heap.objs.size, ⟨⟨.none, hE⟩, hit, Nat.succ_ne_self _⟩, fun b hb => J.fpOk (far b hb) (J.hok.fresh (far b hb)), q⟩
theorem piEnumT (K : PySem.W.Frag) {X : Cx} {e : Expr} {ta : TA} {p pos tpos : PySem.Pos} {elts : List Expr} {kk : Nat} (hg : Gl X "enumerate") (hm : X.mg "enumerate" = none) (ha : PA X [e] ta) (h : X.K = K := by rfl) (hs : starEach [e] X.env = [(false, eval e X.env)] := by rfl) :
    PI X (.Tuple elts kk tpos) (.Call (.Name "enumerate" p) [e] [] pos) (iEnumT K ta) := h ▸ pi_enumT hg hm ha hs
/-- for i, x in enumerate(tuple) -/
theorem f_enumT {K : PySem.W.Frag} {σ : L2.St} {H : Hp} {D : Ends} {ta : TA} {tb : TS} {a : Addr} {xs : List V} {i1 i2 : Nat} (ha : ∀ R : List V → Hp → Prop, R [.ref a] H → ta σ H R) (hx : SqT K H a xs) (Pv : Nat → L2.St → Hp → Prop) (h0 : Pv 0 σ H)
    (hl : ∀ i σ' H', i ≤ xs.length → Pv i σ' H' → H' a = H a)
    (hs : ∀ i x σ' H' T, xs[i]? = some x → Pv i σ' H' → H' T = none → tb { D with nx := Pv (i + 1), ct := Pv (i + 1), bk := D.nx } ((σ'.set i1 (some (.int (i : Int)))).set i2 (some x)) (upd H' T (.tup [.int (i : Int), x]))) (hd : ∀ σ' H', Pv xs.length σ' H' → D.nx σ' H') :
    tFor (iEnumT K ta) (gTup K 2 (gCons (gName i1) (gCons (gName i2) gNil))) tb D σ H := by
  refine ha _ ⟨a, xs, rfl, hx, ?_⟩
  have sq : ∀ H', H' a = H a → SqT K H' a xs := fun H' e => by
    rcases hx with (h | ⟨o, h⟩) | h
    · exact .inl (.inl (e.trans h))
    · exact .inl (.inr ⟨o, e.trans h⟩)
    · exact .inr h
  have w : Walk (Itet K a) xs.length (fun H' => H' a = H a) (fun i Ha v Hb => ∃ T x, v = .ref T ∧ Ha T = none ∧ Hb = upd Ha T (.tup [.int (i : Nat), x]) ∧ xs[i]? = some x) := by
    refine ⟨fun i H' hi e => ⟨xs, xs[i], sq H' e, by simp [hi]⟩, fun H' e => ⟨xs, sq H' e, rfl⟩, fun i H' x H2 hi e y => ?_⟩
    obtain ⟨T, x, h1, h2, h3, h4⟩ := y
    exact ⟨T, x, h1, h2, h3, h4 xs (sq H' e)⟩
  refine for_it w Pv h0 (fun i σ' H' hi p => hl i σ' H' hi p) (fun i x σ' H' H2 hi p y => ?_) hd
  obtain ⟨T, c, rfl, nT, rfl, hc⟩ := y
  exact ⟨T, _, rfl, SqT.of upd_same, rfl, _, _, rfl, _, _, rfl, rfl, hs i c σ' H' T hc p nT⟩
end Fg
/-! replace, where the token of what is replaced is known: it was just cut out of a written text. -/
namespace Fg
open PySem PySem.Spec PyProof.Rows L2
theorem u65 {k : Nat} {A : Around} (r : Room k A) : A.units + 65 < cLine := by have := r.un; omega
section
variable {X : Cx} {pins : List (Addr × Obj)} {σ : L2.St} {H : Hp} {s : Shared}
/-- a store into a local name, the value kept in sight -/
theorem store_raw {M : Model} {A : Around} {E : Value → Shared → Prop} {i : Nat} {x : Str} {v : V} {u : Value} {Q : Unit → Shared → Prop} (I : Inv X pins σ H s) (hN : X.N.Nodup) (hi : X.N[i]? = some x) (hk : X.env.scope.names.lookup x = some .local) (r : RelV v u)
    (h : ∀ h' m, Inv X pins (σ.set i (some v)) H { s with heap := h', toks := s.toks + 1 } → h'.Ns X.env.locals m → m x = some u → Q () { s with heap := h', toks := s.toks + 1 }) : wpAny M A (storeName X.env x u) Q E s := by
  obtain ⟨m, hn, hl⟩ := id I.loc
  have hcls : (X.env.scope.kind == .class || (X.env.scope.kind == .module && X.env.locals != X.env.globals)) = false := by rw [I.ok.kind]; rfl
  have hiσ : i < σ.length := by rw [I.len]; exact (List.getElem?_eq_some_iff.mp hi).1
  have cne := I.cne
  have tracked : ∀ {a : Addr} {h' : Heap}, (∃ o, s.heap.get? a = some o ∧ H a = none) → Heap.SameBut a s.heap h' → HOk X.prog X.w H h' := fun {a h'} ha hs b ob e => by
    obtain ⟨_, _, hfree⟩ := ha
    refine (I.hok b ob e).stay (fun c w' hc q => (hs.2 c ?_).trans q) (fun _ q => q) fun _ _ q => q
    rintro rfl
    rcases hc with rfl | hc
    · rw [hfree] at e; cases e
    · rw [hfree] at hc; cases hc
  refine wpAny_storeName_local hk hn (fun h' hn' hs => ?_) hcls
  obtain ⟨oL, _, _, hoL, _⟩ := id hn
  refine h h' _ ⟨I.ok, I.os, I.bare, ⟨fun b o e n hb hx => ?_, fun b o e n hb hx => ?_, I.base.free, fun b o e hx => ?_, I.base.tups, I.base.frzs, I.base.tbls⟩, ⟨_, hn', fun j y v' e1 e2 e3 => ?_⟩, fun y c e => ?_, I.free, I.freeC, fun p hp => ?_, tracked ⟨oL, hoL, I.free⟩ hs, by simpa using I.len⟩ hn' (by simp)
  · exact (hs.2 b (Nat.ne_of_lt (Nat.lt_of_lt_of_le (Heap.lt_size e) I.ok.above))).trans (I.base.keep b o e n hb hx)
  · obtain ⟨sl, e1⟩ := I.base.slot b o e n hb hx
    exact ⟨sl, (hs.2 b (Nat.ne_of_lt (Nat.lt_of_lt_of_le (Heap.lt_size e) I.ok.above))).trans e1⟩
  · obtain ⟨o', e1⟩ := I.base.there b o e hx
    exact ⟨o', (hs.2 b (Nat.ne_of_lt (Nat.lt_of_lt_of_le (Heap.lt_size e) I.ok.above))).trans e1⟩
  · by_cases hj : j = i
    · subst hj
      rw [hi] at e1; cases e1
      rw [List.getElem?_set_self hiσ] at e2
      cases e2
      exact ⟨u, r, .inl ⟨hk, by simp⟩⟩
    · rw [List.getElem?_set_ne (Ne.symm hj)] at e2
      obtain ⟨u', r', q⟩ := hl j y v' e1 e2 e3
      refine ⟨u', r', ?_⟩
      rcases q with ⟨k, e⟩ | ⟨k, c, e, z⟩
      · refine .inl ⟨k, ?_⟩
        have : y ≠ x := fun e => hj (nodup_ix hN e1 (e ▸ hi))
        simp [this, e]
      · exact .inr ⟨k, c, e, z.sameBut hs (cne y c e)⟩
  · obtain ⟨w', z⟩ := I.cell y c e
    exact ⟨w', z.sameBut hs (cne y c e)⟩
  · obtain ⟨e, n, ne, nf, d⟩ := I.pin p hp
    exact ⟨(hs.2 p.1 ne).trans e, n, ne, nf, d⟩
end
/-- x = 'a'[e1]; y = 'b'.replace(x, 'c')[e2] -/
def tLitRep (i j : Nat) (a b c : Str) (t1 t2 : TE) (u : TS) : TS := fun D σ H => t1 σ H fun z1 H1 => ∃ (k1 : Int) (g1 : Nat), z1 = .int k1 ∧ a.length ≤ sizeLine ∧ atI a.cps.toList k1 = some g1 ∧ ((⟨#[g1]⟩ : Str) == c) = false ∧
  b.length + (b.length + 1) * c.length ≤ 16777216 ∧ t2 (σ.set i (some (.str ⟨#[g1]⟩))) H1 fun z2 H2 => ∃ (k2 : Int) (g2 : Nat), z2 = .int k2 ∧ (Txt.replace b ⟨#[g1]⟩ c).length ≤ sizeLine ∧
    atI (Txt.replace b ⟨#[g1]⟩ c).cps.toList k2 = some g2 ∧ u D ((σ.set i (some (.str ⟨#[g1]⟩))).set j (some (.str ⟨#[g2]⟩))) H2
theorem item_str_raw {prog : Program} {w : World} {A : Around} {E : Value → Shared → Prop} {s : Shared} {value slice : Expr} {z : Str} {i : Int} {c : Nat} {t u : Tok} {Q : Value → Shared → Prop} (hz : z.length ≤ sizeLine) (he : atI z.cps.toList i = some c) (hs : PlainIx slice)
    (h : Q (.str ⟨#[c]⟩ s.toks) { s with toks := s.toks + 1 }) : wpAny (model prog w) A (subscriptTail value slice (.str z t) (.int i u)) Q E s := by
  obtain ⟨j, h1, h2, h3, h4, h5⟩ := atI_get he
  have hl : z.cps.toList.length = z.length := by simp [Str.length]
  rw [hl] at h1 h4 h5
  have hn := line63
  exact tail_any (typeIs_str s z t) slot_str_getitem.lookup (P.getItem_str (c := c) (by
    have e1 : decide (i < -(2 ^ 63 : Int)) = false := decide_eq_false (by omega)
    have e2 : decide (i ≥ 2 ^ 63) = false := decide_eq_false (by omega)
    rw [e1, e2, Bool.or_false]) (by rw [h1]; simpa using h2) h) (hs _ _)
theorem pss_litrep {X : Cx} {i j : Nat} {x y a b c : Str} {e1 e2 : Expr} {t1 t2 : TE} {rest : List Stmt} {u : TS} {k0 k1 k2 : Nat} {p1 p2 p3 p4 q1 q2 q3 q4 q5 q6 q7 q8 : PySem.Pos} (hN : X.N.Nodup) (hi : X.N[i]? = some x) (hj : X.N[j]? = some y)
    (hx : X.env.scope.names.lookup x = some .local) (hy : Loc X.env.scope y) (h1 : PE X e1 t1) (h2 : PE X e2 t2) (pl1 : PlainIx e1) (pl2 : PlainIx e2) (hr : PSs X rest u)
    (hs1 : swapsWith (.Subscript (.Constant (.str a) k0 p2) e1 p3) (some (.Name x p1)) p4.line X.env = pure false := by rfl)
    (hs2 : swapsWith (.Subscript (.Call (.Attribute (.Constant (.str b) k1 q2) "replace" q3) [.Name x q4, .Constant (.str c) k2 q5] [] q6) e2 q7) (some (.Name y q1)) q8.line X.env = pure false := by rfl)
    (hf : X.fn y = true ∨ X.env.scope.names.lookup y = some .local := by first | exact .inl rfl | exact .inr rfl | assumption)
    (hst : starEach [.Name x q4, .Constant (.str c) k2 q5] X.env = [(false, eval (.Name x q4) X.env), (false, eval (.Constant (.str c) k2 q5) X.env)] := by rfl)
    (hbase : attributeBase (.Constant (.str b) k1 q2) "replace" X.env (eval (.Constant (.str b) k1 q2) X.env) = eval (.Constant (.str b) k1 q2) X.env := by rfl) (hline : (q3.endLine == q6.line) = true := by rfl)
    (hd : (x == ("__debug__" : Str)) = false := by decide) :
    PSs X (.Assign [.Name x p1] (.Subscript (.Constant (.str a) k0 p2) e1 p3) p4 ::
      .Assign [.Name y q1] (.Subscript (.Call (.Attribute (.Constant (.str b) k1 q2) "replace" q3) [.Name x q4, .Constant (.str c) k2 q5] [] q6) e2 q7) q8 :: rest) (tLitRep i j a b c t1 t2 u) := by
  refine ⟨fun pins s σ H D I h => ?_⟩
  refine wpAny_execs_cons (wpAny_Assign_Name (Subscript_ (Calls.Constant_str ?_)) hs1)
  refine wpAny_mono (PySem.wpAny_toks (h1.run pins _ σ H _ (I.tok (s.toks + 1)) h)) (fun v1 s1 q => ?_) fun _ _ z => z.2
  obtain ⟨hk1, z1, H1, I1, r1, n1, g1, rfl, hz1, he1, hne, hb, q⟩ := q
  obtain ⟨w1, rfl⟩ := r1
  have hk1' : s.toks + 1 ≤ s1.toks := hk1
  refine item_str_raw hz1 he1 pl1 ?_
  refine store_raw (v := .str ⟨#[g1]⟩) (I1.tok (s1.toks + 1)) hN hi hx ⟨_, rfl⟩ fun h' m I2 hn hm => ?_
  refine wpAny_execs_cons (wpAny_Assign_Name (Subscript_ ?_) hs2)
  refine PySem.Call_method2 hbase hst hline (Calls.Constant_str ?_)
  refine ⟨"str", _, F.plainAttrs_str, F.slot_str_replace, F.type_str_replace, typeIs_str _ _ _, (fun _ e => nomatch e), Calls.callWith_builtin rfl (Calls.evalArgs_plain (Calls.spliced_cons ?_))⟩
  refine wpAny_Name (wpAny_loadName_local I.ok.kind hx hn hm ?_) hd
  refine Calls.spliced_cons (Calls.Constant_str (Calls.spliced_nil ?_))
  refine PySem.SC.replace (by show s1.toks ≠ 0; omega) (by show s1.toks + 1 + 1 + 1 ≠ 0; omega) (by show s1.toks ≠ s1.toks + 1 + 1 + 1; omega) hne hb fun t' tk => ?_
  refine thn (h2.run pins _ _ H1 _ (I2.tok tk) q) fun v2 s2 ⟨z2, H2, I3, r2, n2, g2, e2', hz2, he2, q2⟩ => ?_
  subst e2'
  obtain ⟨w2, rfl⟩ := r2
  refine item_str_raw hz2 he2 pl2 ?_
  exact store_ok (v := .str ⟨#[g2]⟩) (I3.tok (s2.toks + 1)) hN hj hy ⟨_, rfl⟩ (fun s3 I4 => hr.run pins s3 _ H2 D I4 q2) hf
/-- a test on x == 6 gives out a token: behind it the body may ask for one -/
theorem ps_ifK {X : Cx} {e : Expr} {te : TE} {n : Int} {k : Nat} {a b : List Stmt} {t u : TS} {p1 p2 pos : PySem.Pos} {r : R2} (ho : OpR X (compareOp .Eq) r) (he : PE X e te) (ha : PSsT X a t) (hb : PSs X b u) :
    PS X (.If (.Compare e [.Eq] [.Constant (.int n) k p1] p2) a b pos) (tIfS (tTest (tOp r te (tC (.int n)))) t u) := by
  refine ⟨fun pins s σ H D I h => ?_⟩
  refine wpAny_If ?_
  have h' := (pt_cmpR (X := X) (pos := p2) ho he (pe_int (i := n) (j := k) (pos := p1)) (nomark _))
  refine wpAny_isTrue_Compare1 (thn (he.run pins s σ H _ I h) fun v s1 ⟨x, H1, I1, r1, q1⟩ => wpAny_Constant_int ?_) (nomark _)
  refine wpAny_mono (PySem.wpAny_toks (ho pins _ σ H1 x (.int n) v _ _ (I1.tok (s1.toks + 1)) r1 ⟨_, rfl⟩ q1)) (fun c s3 q => ?_) fun _ _ z => z.2
  obtain ⟨hk, z, H3, I3, r3, kb, e, q3⟩ := q
  subst e
  cases r3
  have hk' : s1.toks + 1 ≤ s3.toks := hk
  refine wpAny_truthy_bool ?_
  cases kb with
  | true => exact ha pins s3 σ H3 D (by omega) I3 q3
  | false => exact hb.run pins s3 σ H3 D I3 q3
/-! ### str of a text or of a small number; list(..) -/
def rStrP : RC := orC (fun xs H Q => ∃ i : Int, xs = [.int i] ∧ i.natAbs.log2 < 1920 ∧ Q (.str (toString i)) H) fun xs H Q => ∃ a, xs = [.str a] ∧ Q (.str a) H
theorem call_strP {X : Cx} : CallR X (.type "str") rStrP := orC_call call_str_int SkE.call_str_str
def rListP (K : PySem.W.Frag) : RC := fun xs H Q => ∃ p ys, xs = [.ref p] ∧ (SqL K H p ys ∨ SqT K H p ys) ∧ ∀ l, H l = none → Q (.ref l) (upd H l (.lst ys))
theorem cListP (K : PySem.W.Frag) {X : Cx} (h : X.K = K := by rfl) : CallR X (.type "list") (rListP K) := h ▸ call_list_of
/-- e.upper() -/
def tUpp (K : PySem.W.Frag) (to : TE) : TE := tBM0 K "str" (fun x xs H Q => ∃ a, x = .str a ∧ xs = [] ∧ a.length ≤ 5592405 ∧ Q (.str (Txt.upper a)) H) to
theorem peUpper (K : PySem.W.Frag) {X : Cx} {o : Expr} {to : TE} {apos cpos : PySem.Pos} (ho : PE X o to) (h : X.K = K := by rfl) (hbase : attributeBase o "upper" X.env (eval o X.env) = eval o X.env := by rfl) (hline : (apos.endLine == cpos.line) = true := by rfl) :
    PE X (.Call (.Attribute o "upper" apos) [] [] cpos) (tUpp K to) := h ▸ pe_bm0 PySem.F.plainAttrs_str PySem.F.slot_str_upper PySem.F.type_str_upper mt_upper ho hbase hline
end Fg
/-! law's own promise, where no display stands around -/
namespace Fg
open PySem PySem.Spec PyProof.Rows L2
theorem FnGOk.mk {P : Program} {w : World} {K : PySem.W.Frag} {mg : Str → Option Value} {base : Heap} {x : Str} {st : Stmt} {N ps : List Str} {k : Nat} {sp : Sp} {f : Addr} {fd : FuncData} (F : Fun K x x st f fd) (S : FnScope N ps (defScope st)) (len : ∀ vs H Q E, sp vs H Q E → vs.length = ps.length)
    (body : ∀ (cdv : Value) (A : Around) (outer : List Env) (s : Shared) (H : Hp) (vs : List V) (Q : VK) (E : XK), A.guards = some [] → Room k (A.deeper (envOfC x (defScope st) s.heap.objs.size f cdv)) → sp vs H Q E →
      ∃ t, PSs (cxOf CX0 P w K mg base N x (defScope st) f cdv A outer s H E).nox (defBody st) t ∧ t { nx := fun _ H' => Q .non H', rt := Q } (start N vs) H) : GOk P w K mg base CX0 (k + 1) f fd ps sp :=
  gok_mk F S len fun cdv A outer s H vs Q E hg hr h => let ⟨t, z, e⟩ := body cdv A outer s H vs Q E hg hr h; ⟨t, z.nox, e⟩
/-- tuples put together: what stands behind, by data -/
theorem i_catT {K : PySem.W.Frag} {H : Hp} {Q : VK} {a b : Addr} {xs ys : List V} (h1 : H a = some (.tup xs)) (h2 : H b = some (.tup ys)) (hz : xs.length + ys.length ≤ 1000)
    (q : ∀ r H', Same H H' → H' r = some (.tup (xs ++ ys)) → ((r = a ∨ r = b) ∧ H' = H ∨ H r = none ∧ H' = upd H r (.tup (xs ++ ys))) → Q (.ref r) H') : addP K (.ref a) (.ref b) H Q := by
  refine .inr (.inr (.inr ⟨a, b, xs, ys, rfl, rfl, .inl (.inl h1), .inl (.inl h2), Nat.le_trans hz (by decide), fun e => ?_, fun _ e => ?_, fun _ _ p np => ?_⟩))
  · subst e
    exact q b H (Same.refl H) h2 (.inl ⟨.inr rfl, rfl⟩)
  · subst e
    exact q a H (Same.refl H) (by rw [List.append_nil]; exact h1) (.inl ⟨.inl rfl, rfl⟩)
  · exact q p _ (same_upd np) upd_same (.inr ⟨np, rfl⟩)
/-- a part of a tuple -/
theorem i_slTup {K : PySem.W.Frag} {H : Hp} {Q : VK} {a : Addr} {xs : List V} {lo hi : Option Int} (h : H a = some (.tup xs))
    (q : ∀ r H', Same H H' → H' r = some (.tup (cutV xs lo hi)) → (r = a ∧ H' = H ∨ H r = none ∧ H' = upd H r (.tup (cutV xs lo hi))) → Q (.ref r) H') : slP K (.ref a) lo hi H Q := by
  refine .inr (.inl ⟨a, xs, rfl, .inl (.inl h), fun z => ?_, fun _ p np => ?_⟩)
  · have e : cutV xs lo hi = xs := by
      unfold cutV
      rw [z.1, z.2, List.drop_zero, Nat.sub_zero, List.take_length]
    exact q a H (Same.refl H) (by rw [e]; exact h) (.inl ⟨rfl, rfl⟩)
  · exact q p _ (same_upd np) upd_same (.inr ⟨np, rfl⟩)
end Fg
/-! repr of data: how long it is; of any value. -/
namespace Fg
open PySem PySem.Spec PyProof.Rows L2
/-- it can be shown, and is not long: at most m signs and parts -/
def rpB (m : Nat) (d : PyData) : Bool := d.showable && (d.leavesShort 400 && decide (d.bulk ≤ m))
structure Rp (m : Nat) (d : PyData) : Prop where
  sh : d.showable = true
  lv : d.leavesShort 400 = true
  bk : d.bulk ≤ m
theorem rp_of {m : Nat} {d : PyData} (h : rpB m d = true) : Rp m d := by
  unfold rpB at h
  rw [Bool.and_eq_true, Bool.and_eq_true] at h
  exact ⟨h.1, h.2.1, of_decide_eq_true h.2.2⟩
theorem Rp.fits {m : Nat} {d : PyData} (h : Rp m d) (hm : m ≤ 20000) : d.shown.length ≤ sizeLine := by
  have h1 := PyData.shown_le_bulk 400 (by decide) d h.lv
  have h2 : (400 + 2) * d.bulk ≤ 402 * 20000 := Nat.mul_le_mul_left _ (Nat.le_trans h.bk hm)
  have h3 : 402 * 20000 + 400 ≤ sizeLine := by decide
  omega
theorem Rp.mono {m n : Nat} {d : PyData} (h : Rp m d) (k : m ≤ n) : Rp n d := ⟨h.sh, h.lv, Nat.le_trans h.bk k⟩
theorem rp_all {m : Nat} : ∀ {ds : List PyData}, (∀ d ∈ ds, Rp m d) → PyData.showableAll ds = true ∧ PyData.leavesShortAll 400 ds = true ∧ PyData.bulkAll ds ≤ (m + 1) * ds.length
  | [], _ => ⟨rfl, rfl, by simp only [PyData.bulkAll]; exact Nat.zero_le _⟩
  | d :: r, h => by
    have h1 := h d (List.mem_cons_self ..)
    obtain ⟨a, b, c⟩ := rp_all (ds := r) fun x hx => h x (List.mem_cons_of_mem _ hx)
    refine ⟨?_, ?_, ?_⟩
    · simp only [PyData.showableAll, h1.sh, a, Bool.and_self]
    · simp only [PyData.leavesShortAll, h1.lv, b, Bool.and_self]
    · have := h1.bk
      simp only [PyData.bulkAll, List.length_cons, Nat.mul_add, Nat.mul_one]
      omega
theorem Rp.list {m : Nat} {ds : List PyData} (h : ∀ d ∈ ds, Rp m d) : Rp ((m + 1) * ds.length) (.list ds) := by
  obtain ⟨a, b, c⟩ := rp_all h
  exact ⟨by simp only [PyData.showable]; exact a, by simp only [PyData.leavesShort]; exact b, by simp only [PyData.bulk]; exact c⟩
theorem Rp.tuple {m : Nat} {ds : List PyData} (h : ∀ d ∈ ds, Rp m d) : Rp ((m + 1) * ds.length) (.tuple ds) := by
  obtain ⟨a, b, c⟩ := rp_all h
  exact ⟨by simp only [PyData.showable]; exact a, by simp only [PyData.leavesShort]; exact b, by simp only [PyData.bulk]; exact c⟩
theorem Rp.str {m : Nat} {l : List Nat} (h : l.length ≤ m) (hc : ∀ c ∈ l, c < 16 ^ 8) : Rp m (dS l) := by
  refine ⟨by simp only [PyData.showable], ?_, ?_⟩
  · simp only [PyData.leavesShort, List.all_eq_true, decide_eq_true_eq]
    intro c hm
    exact hc c (by simpa using hm)
  · simp only [PyData.bulk]
    have : (⟨l.toArray⟩ : Str).cps.size = l.length := by simp
    omega
theorem Rp.non {m : Nat} : Rp m .none := ⟨rfl, rfl, Nat.zero_le _⟩
theorem Rp.bool {m : Nat} (b : Bool) : Rp m (.bool b) := ⟨rfl, rfl, Nat.zero_le _⟩
theorem Rp.int {m : Nat} {i : Int} (h : i.natAbs < 10 ^ 40) : Rp m (.int i) := by
  refine ⟨?_, ?_, Nat.zero_le _⟩
  · simp only [PyData.showable]
    refine decide_eq_true ?_
    rcases Nat.eq_zero_or_pos i.natAbs with z | z
    · rw [z]; decide
    · refine (Nat.log2_lt (by omega)).mpr (Nat.lt_trans h ?_)
      exact (by decide +kernel : 10 ^ 40 < 2 ^ 1920)
  · have := int_text_length_le10 (a := i) (k := 40) (by decide) h
    simp only [PyData.leavesShort]
    refine decide_eq_true ?_
    show (PyData.shown (.int i)).length ≤ 400
    have e : (PyData.shown (.int i)).length = (toString i).length := by
      show (Str.ofString (toString i)).length = _
      rw [PySem.ofString_length]
    omega
/-- repr of any value that is data -/
def rReprA (K : PySem.W.Frag) : RC := fun xs H Q => ∃ (v : V) (d : PyData), xs = [v] ∧ Dp K H v d ∧ d.showable = true ∧ d.hasDict = false ∧ d.depth ≤ 60 ∧ d.shown.length ≤ sizeLine ∧ Q (.str d.shown) H
theorem cReprA (K : PySem.W.Frag) {X : Cx} (hgu : X.A.guards = some []) (hu : X.A.units + 64 < cLine) (hK : X.K = K := by rfl) : CallR X (.builtin "repr") (rReprA K) := by
  subst hK
  intro pins s σ H xs us Q I r h
  obtain ⟨v, d, rfl, hd, h1, h2, h3, h4, q⟩ := h
  cases r with
  | cons ru rn =>
    cases rn
    cases v with
    | ref a =>
      cases (show _ = Value.ref a from ru)
      obtain ⟨as, rd⟩ := Dp.reads I d (.ref a) (.ref a) hd rfl
      exact repr_of_reads' rd h1 (PyData.noDict_hsm h2) hgu (by omega) (fun b o e => e)
        (fun h' u tk hk => ⟨.str d.shown, H, I.kept (t' := tk) hk, ⟨u, rfl⟩, q⟩) h4
    | non =>
      cases hd
      cases (show _ = Value.none from ru)
      exact PySem.P.repr_of_none ⟨.str (PyData.shown .none), H, I.tok (s.toks + 1), ⟨_, rfl⟩, q⟩
    | bl b =>
      cases hd
      cases (show _ = Value.bool b from ru)
      exact PySem.P.repr_of_bool ⟨.str (PyData.shown (.bool b)), H, I.tok (s.toks + 1), ⟨_, rfl⟩, q⟩
    | int i =>
      cases hd
      obtain ⟨t, rfl⟩ := (show ∃ t, _ = Value.int i t from ru)
      exact PySem.P.repr_of_int (of_decide_eq_true (by simpa only [PyData.showable] using h1)) ⟨.str (PyData.shown (.int i)), H, I.tok (s.toks + 1), ⟨_, rfl⟩, q⟩
    | str x =>
      cases hd
      obtain ⟨t, rfl⟩ := (show ∃ t, _ = Value.str x t from ru)
      exact PySem.P.repr_of_str ⟨.str (PyData.shown (.str x)), H, I.tok (s.toks + 1), ⟨_, rfl⟩, q⟩ h4
    | _ => cases hd
section
variable {K : PySem.W.Frag} {H : Hp} {Q : VK} {v : V} {d : PyData} {m : Nat}
theorem i_reprA (h : At H v d) (r : Rp m d) (hm : m ≤ 20000) (nd : d.hasDict = false) (dp : d.depth ≤ 60) (q : Q (.str d.shown) H) : rReprA K [v] H Q := ⟨v, d, rfl, h.dp K d v nd, r.sh, nd, dp, r.fits hm, q⟩
theorem i_reprD {a : Addr} (h : At H (.ref a) d) (r : Rp m d) (hm : m ≤ 20000) (nd : d.hasDict = false) (dp : d.depth ≤ 60) (q : Q (.str d.shown) H) : rReprD K [.ref a] H Q := ⟨a, d, rfl, h.dp K d _ nd, r.sh, nd, dp, r.fits hm, q⟩
end
end Fg
/-! The reader of rhythm texts, in plain Lean. -/
namespace Fg
open PySem PySem.Spec PyProof.Rows L2
abbrev SG : List Nat := [46, 103, 114, 119]
abbrev DG : List Nat := [48, 49, 50, 51, 52, 53, 54, 55, 56, 57]
def Row (l : List Nat) : Prop := ∀ c ∈ l, c ∈ SG
def rpt (n : Nat) (l : List Nat) : List Nat := (List.replicate n l).flatten
theorem rpt_len (n : Nat) (l : List Nat) : (rpt n l).length = n * l.length := by simp [rpt, List.length_flatten]
theorem rpt_succ (k : Nat) (t : List Nat) : rpt (k + 1) t = t ++ rpt k t := by unfold rpt; rw [List.replicate_succ, List.flatten_cons]
theorem rpt_get : ∀ (k : Nat) (t : List Nat) (j : Nat), j < k * t.length → (rpt k t)[j]? = t[j % t.length]?
  | 0, t, j, h => by rw [Nat.zero_mul] at h; omega
  | k + 1, t, j, h => by
    rw [rpt_succ]
    by_cases hj : j < t.length
    · rw [List.getElem?_append_left hj, Nat.mod_eq_of_lt hj]
    · rw [List.getElem?_append_right (by omega), rpt_get k t (j - t.length) (by rw [Nat.succ_mul] at h; omega)]
      rw [← Nat.mod_eq_sub_mod (by omega)]
/-- the first lit one -/
def firstLit : List Nat → Nat
  | [] => 46
  | c :: r => if c = 46 then firstLit r else c
/-- a stretch as the reader has it -/
def Sv (n : Nat) (r : List Nat) : HO := .tup [.int (n : Int), if n ≤ 24 then S r else .non]
abbrev Stv := Nat × List Nat
def lcmL (ps : List Stv) : Nat := ps.foldl (fun b p => Nat.lcm b p.1) 1
theorem lcmL_snoc (ps : List Stv) (p : Stv) : lcmL (ps ++ [p]) = Nat.lcm (lcmL ps) p.1 := by
  unfold lcmL
  rw [List.foldl_append]
  rfl
def showN (ps : List Stv) (n : Nat) : List Nat := (List.range n).map fun i => firstLit (ps.map fun p => (rpt (n / p.1) p.2).getD i 0)
theorem showN_len (ps : List Stv) (n : Nat) : (showN ps n).length = n := by simp [showN]
theorem dvd_fold (ps : List Stv) : ∀ b, (b ∣ ps.foldl (fun b p => Nat.lcm b p.1) b) ∧ ∀ p ∈ ps, p.1 ∣ ps.foldl (fun b p => Nat.lcm b p.1) b := by
  induction ps with
  | nil => exact fun b => ⟨Nat.dvd_refl _, by simp⟩
  | cons q r ih =>
    intro b
    obtain ⟨h1, h2⟩ := ih (Nat.lcm b q.1)
    refine ⟨Nat.dvd_trans (Nat.dvd_lcm_left _ _) h1, fun p hp => ?_⟩
    rcases List.mem_cons.mp hp with rfl | hp
    · exact Nat.dvd_trans (Nat.dvd_lcm_right _ _) h1
    · exact h2 p hp
theorem dvd_lcmL {ps : List Stv} {p : Stv} (h : p ∈ ps) : p.1 ∣ lcmL ps := (dvd_fold ps 1).2 p h
theorem fold_pos (ps : List Stv) (h : ∀ p ∈ ps, 1 ≤ p.1) : ∀ b, 1 ≤ b → 1 ≤ ps.foldl (fun b p => Nat.lcm b p.1) b := by
  induction ps with
  | nil => exact fun b hb => hb
  | cons q r ih => exact fun b hb => ih (fun p hp => h p (List.mem_cons_of_mem _ hp)) _ (Nat.lcm_pos hb (h q List.mem_cons_self))
theorem lcmL_pos {ps : List Stv} (h : ∀ p ∈ ps, 1 ≤ p.1) : 1 ≤ lcmL ps := fold_pos ps h 1 (Nat.le_refl _)
/-! ### digits -/
def run (z : List Nat) (a : Nat) : List Nat := (z.drop a).takeWhile fun c => decide (c ∈ DG)
def bd (z : List Nat) (a : Nat) : Nat := a + (run z a).length
theorem run_step {z : List Nat} {m c : Nat} (h : z[m]? = some c) (hc : c ∈ DG) : run z m = c :: run z (m + 1) := by
  obtain ⟨hl, rfl⟩ := List.getElem?_eq_some_iff.mp h
  unfold run
  rw [List.drop_eq_getElem_cons hl, List.takeWhile_cons_of_pos (by simpa using hc)]
theorem run_stop {z : List Nat} {m : Nat} (h : ∀ c, z[m]? = some c → c ∉ DG) : run z m = [] := by
  unfold run
  by_cases hl : m < z.length
  · rw [List.drop_eq_getElem_cons hl, List.takeWhile_cons_of_neg (by simpa using h _ (List.getElem?_eq_getElem hl))]
  · rw [List.drop_of_length_le (by omega)]
    rfl
theorem bd_step {z : List Nat} {m c : Nat} (h : z[m]? = some c) (hc : c ∈ DG) : bd z (m + 1) = bd z m := by
  unfold bd
  rw [run_step h hc, List.length_cons]
  omega
theorem bd_stop {z : List Nat} {m : Nat} (h : ∀ c, z[m]? = some c → c ∉ DG) : bd z m = m := by
  unfold bd
  rw [run_stop h]
  rfl
theorem bd_le {z : List Nat} {a : Nat} (h : a ≤ z.length) : bd z a ≤ z.length := by
  unfold bd run
  have := (List.takeWhile_prefix (fun c => decide (c ∈ DG)) (l := z.drop a)).length_le
  rw [List.length_drop] at this
  omega
theorem bd_ge (z : List Nat) (a : Nat) : a ≤ bd z a := Nat.le_add_right _ _
theorem bd_eq {z : List Nat} {a : Nat} : bd z a = a ↔ run z a = [] := by
  unfold bd
  constructor
  · intro h
    exact List.length_eq_zero_iff.mp (by omega)
  · intro h
    rw [h]; rfl
theorem run_digits (z : List Nat) (a : Nat) : ∀ c ∈ run z a, c ∈ DG := fun c hc => by
  unfold run at hc
  generalize z.drop a = l at hc
  induction l with
  | nil => simp at hc
  | cons x r ih =>
    by_cases h : x ∈ DG
    · rw [List.takeWhile_cons_of_pos (by simpa using h)] at hc
      rcases List.mem_cons.mp hc with rfl | hc
      · exact h
      · exact ih hc
    · rw [List.takeWhile_cons_of_neg (by simpa using h)] at hc
      simp at hc
theorem cutN_run {z : List Nat} {a : Nat} (h : a ≤ z.length) : cutN z (some (a : Int)) (some (bd z a : Nat)) = run z a := by
  unfold cutN
  rw [HT.sIx_nat, HT.sIx_nat, Nat.min_eq_left h, Nat.min_eq_left (bd_le h)]
  have e : bd z a - a = (run z a).length := by unfold bd; omega
  rw [e]
  unfold run
  exact (List.prefix_iff_eq_take.mp (List.takeWhile_prefix _)).symm
def num (l : List Nat) : Nat := l.foldl (fun n c => 10 * n + (c - 48)) 0
def within (l : List Nat) (lo hi : Nat) : Bool := decide (1 ≤ l.length) && decide (l.length ≤ 2) && decide (lo ≤ num l) && decide (num l ≤ hi)
theorem within_iff {l : List Nat} {lo hi : Nat} : within l lo hi = true ↔ (1 ≤ l.length ∧ l.length ≤ 2 ∧ lo ≤ num l ∧ num l ≤ hi) := by
  unfold within
  simp only [Bool.and_eq_true, decide_eq_true_eq, and_assoc]
/-! ### the reader -/
abbrev Res := Except Nat (Stv × Nat)
def rep (s : Stv) (t : Nat) : Stv := (s.1 * t, rpt t s.2)
def beh (s u : Stv) : Stv := (s.1 + u.1, s.2 ++ u.2)
def shown (ps : List Stv) : Stv := (lcmL ps, showN ps (lcmL ps))
def fillTo (p : Stv) (b : Nat) : Stv := (b, p.2 ++ List.replicate (b - p.1) 46)
def isStart (c : Nat) : Bool := decide (c ∈ SG) || decide (c ∈ DG)
def timesOf (r : List Nat) : Nat := if r = [] then 1 else num r
def close (z : List Nat) (t : Nat) : Res → Res
  | .error k => .error k
  | .ok (s, e) => if z[e]? = some 41 then .ok (rep s t, e + 1) else .error e
def item (rp : Option (Nat → Res)) (z : List Nat) (a : Nat) : Res :=
  if (run z a).take 1 = [48] then .error a
  else match z[bd z a]? with
    | none => .error (bd z a)
    | some c =>
      if c ∉ SG ∧ c ≠ 40 then .error (bd z a)
      else if run z a ≠ [] ∧ within (run z a) 2 24 = false then .error a
      else if c ≠ 40 then .ok (rep (1, [c]) (timesOf (run z a)), bd z a + 1)
      else match rp with
        | none => .error (bd z a)
        | some f => close z (timesOf (run z a)) (f (bd z a + 1))
def goOn (k : Stv → Nat → Res) : Res → Res
  | .error k => .error k
  | .ok (s, e) => k s e
def items (ri : Nat → Res) (z : List Nat) : Nat → Nat → Stv → Res
  | 0, a, p => .ok (p, a)
  | f + 1, a, p => match z[a]? with
    | none => .ok (p, a)
    | some c => if isStart c = true then goOn (fun s e => items ri z f e (beh p s)) (ri a) else .ok (p, a)
def filled (z : List Nat) (a : Nat) (p : Stv) : Res :=
  if run z a = [] then .error a
  else if (run z a).take 1 = [48] ∨ within (run z a) (max 1 p.1) 24 = false then .error a
  else .ok (fillTo p (num (run z a)), bd z a)
def partEnd (z : List Nat) (p : Stv) (e : Nat) : Res := if p.1 = 0 then .error e else if z[e]? = some 64 then filled z (e + 1) p else .ok (p, e)
def part (ri : Nat → Res) (z : List Nat) (a : Nat) : Res := goOn (partEnd z) (items ri z (z.length + 1 - a) a (0, []))
def more (rq : Nat → Res) (z : List Nat) : Nat → Nat → List Stv → Res
  | 0, a, ps => .ok (shown ps, a)
  | f + 1, a, ps => if z[a]? = some 38 then goOn (fun s e => more rq z f e (ps ++ [s])) (rq (a + 1)) else .ok (shown ps, a)
def parts (ri : Nat → Res) (z : List Nat) (a : Nat) : Res := goOn (fun s e => more (part ri z) z (z.length + 1 - e) e [s]) (part ri z a)
mutual
/-- an item, so many more may be opened -/
def rdItem (z : List Nat) : Nat → Nat → Res
  | 0 => item none z
  | d + 1 => item (some (rd z d)) z
def rd (z : List Nat) : Nat → Nat → Res
  | d => parts (rdItem z d) z
end
/-! ### what the reader hands back is small, and has its length -/
def Gb (s : Stv) (w : Nat) : Prop := s.1 + 1 ≤ 2 ^ (5 * w) ∧ (s.1 ≤ 24 → s.2.length = s.1)
def Gd (z : List Nat) (f : Nat → Res) : Prop := ∀ a s e, a ≤ z.length → f a = .ok (s, e) → a < e ∧ e ≤ z.length ∧ 1 ≤ s.1 ∧ Gb s (e - a)
theorem pow_mono5 {x y : Nat} (h : x ≤ y) : 2 ^ (5 * x) ≤ 2 ^ (5 * y) := Nat.pow_le_pow_right (by decide) (by omega)
theorem pow32 {w : Nat} (h : 1 ≤ w) : 32 ≤ 2 ^ (5 * w) := Nat.le_trans (by decide : 32 ≤ 2 ^ (5 * 1)) (pow_mono5 h)
theorem Gb.small {s : Stv} {w : Nat} (h : s.1 ≤ 24) (hw : 1 ≤ w) (hl : s.2.length = s.1) : Gb s w := ⟨by have := pow32 hw; omega, fun _ => hl⟩
theorem Gb.beh {p s : Stv} {x y : Nat} (hp : Gb p x) (hs : Gb s y) : Gb (beh p s) (x + y) := by
  refine ⟨?_, fun h => ?_⟩
  · show p.1 + s.1 + 1 ≤ _
    rw [Nat.mul_add, Nat.pow_add]
    refine Nat.le_trans ?_ (Nat.mul_le_mul hp.1 hs.1)
    rw [Nat.add_mul, Nat.mul_add]
    omega
  · have h : p.1 + s.1 ≤ 24 := h
    show (p.2 ++ s.2).length = p.1 + s.1
    rw [List.length_append, hp.2 (by omega), hs.2 (by omega)]
theorem Gb.rep {s : Stv} {x y t : Nat} (hs : Gb s x) (h1 : 1 ≤ s.1) (t1 : 1 ≤ t) (t2 : t ≤ 24) (hy : x + 1 ≤ y) : Gb (rep s t) y := by
  refine ⟨?_, fun h => ?_⟩
  · show s.1 * t + 1 ≤ _
    refine Nat.le_trans ?_ (pow_mono5 hy)
    rw [Nat.mul_add, Nat.pow_add]
    have := Nat.mul_le_mul hs.1 (show 24 ≤ 2 ^ (5 * 1) by decide)
    have h2 : s.1 * t ≤ s.1 * 24 := Nat.mul_le_mul_left _ t2
    omega
  · have h : s.1 * t ≤ 24 := h
    have : s.1 ≤ s.1 * t := Nat.le_mul_of_pos_right _ t1
    show (rpt t s.2).length = s.1 * t
    rw [rpt_len, hs.2 (by omega), Nat.mul_comm]
theorem times_ok {r : List Nat} (h : ¬ (r ≠ [] ∧ within r 2 24 = false)) : 1 ≤ timesOf r ∧ timesOf r ≤ 24 ∧ (r ≠ [] → 1 ≤ r.length) := by
  unfold timesOf
  by_cases e : r = []
  · rw [if_pos e]; exact ⟨by decide, by decide, fun z => absurd e z⟩
  · rw [if_neg e]
    have : within r 2 24 = true := by
      cases hw : within r 2 24 with
      | true => rfl
      | false => exact absurd ⟨e, hw⟩ h
    have := within_iff.mp this
    exact ⟨by omega, this.2.2.2, fun _ => this.1⟩
theorem item_gd {z : List Nat} {rp : Option (Nat → Res)} (hp : ∀ f, rp = some f → Gd z f) : Gd z (item rp z) := by
  intro a s e ha h
  unfold item at h
  split at h
  · cases h
  · split at h
    · cases h
    · rename_i c hc
      have hl := (List.getElem?_eq_some_iff.mp hc).1
      have hb := bd_ge z a
      split at h
      · cases h
      · split at h
        · cases h
        · rename_i ht
          obtain ⟨t1, t2, t3⟩ := times_ok ht
          split at h
          · cases h
            refine ⟨by omega, by omega, ?_, ?_⟩
            · show 1 ≤ 1 * _; omega
            · refine Gb.small (by show 1 * _ ≤ 24; omega) (by omega) ?_
              show (rpt _ [c]).length = 1 * _
              rw [rpt_len, List.length_singleton]; omega
          · split at h
            · cases h
            · rename_i f
              have g := hp f rfl
              unfold close at h
              split at h
              · cases h
              · rename_i s' e' hf
                obtain ⟨g1, g2, g3, g4⟩ := g _ _ _ (by omega) hf
                split at h
                · rename_i h41
                  have := (List.getElem?_eq_some_iff.mp h41).1
                  cases h
                  refine ⟨by omega, by omega, Nat.mul_pos g3 t1, g4.rep g3 t1 t2 (by omega)⟩
                · cases h
theorem items_gd {z : List Nat} {ri : Nat → Res} (hi : Gd z ri) {a0 : Nat} : ∀ (f a : Nat) (p s : Stv) (e : Nat), a0 ≤ a → a ≤ z.length → Gb p (a - a0) → items ri z f a p = .ok (s, e) → a ≤ e ∧ e ≤ z.length ∧ Gb s (e - a0) ∧ (s.1 = 0 ∨ a < e ∨ s = p)
  | 0, a, p, s, e, h0, ha, hp, h => by
    unfold items at h
    cases h
    exact ⟨by omega, ha, hp, .inr (.inr rfl)⟩
  | f + 1, a, p, s, e, h0, ha, hp, h => by
    unfold items at h
    split at h
    · cases h
      exact ⟨by omega, ha, hp, .inr (.inr rfl)⟩
    · split at h
      · unfold goOn at h
        split at h
        · cases h
        · rename_i s' e' hf
          obtain ⟨g1, g2, g3, g4⟩ := hi _ _ _ ha hf
          have := items_gd hi (a0 := a0) f e' (beh p s') s e (by omega) g2 (by
            have := hp.beh g4
            rw [show a - a0 + (e' - a) = e' - a0 by omega] at this
            exact this) h
          exact ⟨by omega, this.2.1, this.2.2.1, .inr (.inl (by omega))⟩
      · cases h
        exact ⟨by omega, ha, hp, .inr (.inr rfl)⟩
theorem filled_gd {z : List Nat} {a e : Nat} {p s : Stv} (ha : a ≤ z.length) (hp : p.1 ≤ 24 → p.2.length = p.1) (h : filled z a p = .ok (s, e)) : a < e ∧ e ≤ z.length ∧ 1 ≤ s.1 ∧ s.1 ≤ 24 ∧ s.2.length = s.1 := by
  unfold filled at h
  split at h
  · cases h
  · rename_i hr
    split at h
    · cases h
    · rename_i hw
      have : within (run z a) (max 1 p.1) 24 = true := by
        cases hc : within (run z a) (max 1 p.1) 24 with
        | true => rfl
        | false => exact absurd (.inr hc) hw
      obtain ⟨w1, w2, w3, w4⟩ := within_iff.mp this
      cases h
      refine ⟨by unfold bd; omega, bd_le ha, by show 1 ≤ num _; omega, w4, ?_⟩
      show (p.2 ++ List.replicate _ 46).length = num _
      rw [List.length_append, List.length_replicate, hp (by omega)]
      omega
theorem part_gd {z : List Nat} {ri : Nat → Res} (hi : Gd z ri) : Gd z (part ri z) := by
  intro a s e ha h
  unfold part goOn at h
  split at h
  · cases h
  · rename_i p e' hf
    obtain ⟨g1, g2, g3, g4⟩ := items_gd hi (a0 := a) _ a (0, []) p e' (Nat.le_refl _) ha ⟨by rw [Nat.sub_self]; decide, fun _ => rfl⟩ hf
    unfold partEnd at h
    split at h
    · cases h
    · rename_i hp0
      have hlt : a < e' := by
        rcases g4 with g | g | g
        · exact absurd g hp0
        · exact g
        · rw [g] at hp0; exact absurd rfl hp0
      split at h
      · rename_i h64
        have := (List.getElem?_eq_some_iff.mp h64).1
        obtain ⟨f1, f2, f3, f4, f5⟩ := filled_gd (by omega) g3.2 h
        exact ⟨by omega, f2, f3, Gb.small f4 (by omega) f5⟩
      · cases h
        exact ⟨hlt, g2, by omega, g3⟩
def Gps (ps : List Stv) (w : Nat) : Prop := lcmL ps + 1 ≤ 2 ^ (5 * w) ∧ ∀ p ∈ ps, 1 ≤ p.1 ∧ (p.1 ≤ 24 → p.2.length = p.1)
theorem lcm_le_mul {a b : Nat} (ha : 1 ≤ a) (hb : 1 ≤ b) : Nat.lcm a b ≤ a * b := Nat.le_of_dvd (Nat.mul_pos ha hb) (Nat.lcm_dvd_mul a b)
theorem Gps.snoc {ps : List Stv} {s : Stv} {x y : Nat} (h : Gps ps x) (h1 : 1 ≤ s.1) (hs : Gb s y) : Gps (ps ++ [s]) (x + y) := by
  refine ⟨?_, fun p hp => ?_⟩
  · rw [lcmL_snoc, Nat.mul_add, Nat.pow_add]
    refine Nat.le_trans ?_ (Nat.mul_le_mul h.1 hs.1)
    have := lcm_le_mul (lcmL_pos fun p hp => (h.2 p hp).1) h1
    rw [Nat.add_mul, Nat.mul_add]
    omega
  · rcases List.mem_append.mp hp with hp | hp
    · exact h.2 p hp
    · rw [List.mem_singleton.mp hp]; exact ⟨h1, hs.2⟩
theorem Gps.shown {ps : List Stv} {w : Nat} (h : Gps ps w) : 1 ≤ (shown ps).1 ∧ Gb (shown ps) w :=
  ⟨lcmL_pos fun p hp => (h.2 p hp).1, h.1, fun _ => showN_len _ _⟩
theorem Gps.one {s : Stv} {w : Nat} (h1 : 1 ≤ s.1) (h : Gb s w) : Gps [s] w := by
  refine ⟨?_, fun p hp => ?_⟩
  · show Nat.lcm 1 s.1 + 1 ≤ _
    rw [show Nat.lcm 1 s.1 = s.1 by simp [Nat.lcm]]; exact h.1
  · rw [List.mem_singleton.mp hp]; exact ⟨h1, h.2⟩
theorem Gps.mono {ps : List Stv} {x y : Nat} (h : Gps ps x) (e : x ≤ y) : Gps ps y := ⟨Nat.le_trans h.1 (pow_mono5 e), h.2⟩
theorem more_gd {z : List Nat} {rq : Nat → Res} (hi : Gd z rq) {a0 : Nat} : ∀ (f a : Nat) (ps : List Stv) (s : Stv) (e : Nat), a0 ≤ a → a ≤ z.length → Gps ps (a - a0) → more rq z f a ps = .ok (s, e) → a ≤ e ∧ e ≤ z.length ∧ 1 ≤ s.1 ∧ Gb s (e - a0)
  | 0, a, ps, s, e, h0, ha, hp, h => by
    unfold more at h
    cases h
    exact ⟨by omega, ha, hp.shown⟩
  | f + 1, a, ps, s, e, h0, ha, hp, h => by
    unfold more at h
    split at h
    · rename_i h38
      have hl := (List.getElem?_eq_some_iff.mp h38).1
      unfold goOn at h
      split at h
      · cases h
      · rename_i s' e' hf
        obtain ⟨g1, g2, g3, g4⟩ := hi _ _ _ (by omega) hf
        have := more_gd hi (a0 := a0) f e' (ps ++ [s']) s e (by omega) g2 ((hp.snoc g3 g4).mono (by omega)) h
        exact ⟨by omega, this.2⟩
    · cases h
      exact ⟨by omega, ha, hp.shown⟩
theorem parts_gd {z : List Nat} {ri : Nat → Res} (hi : Gd z ri) : Gd z (parts ri z) := by
  intro a s e ha h
  unfold parts goOn at h
  split at h
  · cases h
  · rename_i s' e' hf
    obtain ⟨g1, g2, g3, g4⟩ := part_gd hi _ _ _ ha hf
    have := more_gd (part_gd hi) (a0 := a) _ e' [s'] s e (by omega) g2 (Gps.one g3 g4) h
    exact ⟨by omega, this.2⟩
theorem rdItem_zero (z : List Nat) : rdItem z 0 = item none z := by unfold rdItem; rfl
theorem rdItem_succ (z : List Nat) (d : Nat) : rdItem z (d + 1) = item (some (rd z d)) z := by conv => lhs; unfold rdItem
theorem rd_eq (z : List Nat) (d : Nat) : rd z d = parts (rdItem z d) z := by unfold rd; rfl
theorem rdItem_gd (z : List Nat) : ∀ d, Gd z (rdItem z d)
  | 0 => by rw [rdItem_zero]; exact item_gd fun f e => nomatch e
  | d + 1 => by
    rw [rdItem_succ]
    refine item_gd fun f e => ?_
    cases e
    rw [rd_eq]
    exact parts_gd (rdItem_gd z d)
theorem rd_gd (z : List Nat) (d : Nat) : Gd z (rd z d) := by rw [rd_eq]; exact parts_gd (rdItem_gd z d)
end Fg
/-! What the walk of the reader asks. -/
namespace Fg
open PySem PySem.Spec PyProof.Rows L2
theorem range_getD_map {α β : Type} (xs : List α) (d : α) (g : α → β) : (List.range xs.length).map (fun i => g (xs.getD i d)) = xs.map g := by
  refine List.ext_getElem? fun i => ?_
  rw [List.getElem?_map, List.getElem?_map]
  by_cases h : i < xs.length
  · rw [List.getElem?_range h, Option.map_some, List.getD_eq_getElem?_getD, List.getElem?_eq_getElem h]
    rfl
  · rw [List.getElem?_eq_none (by simpa using h), List.getElem?_eq_none (by omega)]
    rfl
def PartsAt (H : Hp) (qs : List Addr) (ps : List Stv) : Prop := qs.length = ps.length ∧ ∀ (i : Nat) (q : Addr) (p : Stv), qs[i]? = some q → ps[i]? = some p → H q = some (Sv p.1 p.2)
theorem PartsAt.mono {H H' : Hp} {qs : List Addr} {ps : List Stv} (h : PartsAt H qs ps) (s : Same H H') : PartsAt H' qs ps := ⟨h.1, fun i q p a b => s _ _ (h.2 i q p a b)⟩
/-- below some thousand bits -/
def Big (n : Nat) : Prop := n < 2 ^ 8600
theorem Big.le {n m : Nat} (h : Big n) (e : m ≤ n) : Big m := Nat.lt_of_le_of_lt e h
theorem Big.div {n : Nat} {a : Int} (h : Big n) (h0 : (0 : Int) < (n : Int)) : CDivW a (n : Int) := wide_div (b := 8600) h0 (by rw [Int.natAbs_natCast]; exact h) (by decide) (by decide)
theorem Big.mul {n m : Nat} (h : Big n) (h' : Big m) : IntMulOk (n : Int) (m : Int) := CMulW.ok (wide_mul (a := 8600) (b := 8600) (by rw [Int.natAbs_natCast]; exact h) (by rw [Int.natAbs_natCast]; exact h') (by decide) (by decide) (by decide))
theorem Gb.big {s : Stv} {w : Nat} (h : Gb s w) (hw : w ≤ 1700) : Big s.1 := Nat.lt_of_lt_of_le (Nat.lt_of_lt_of_le (Nat.lt_succ_self _) h.1) (Nat.pow_le_pow_right (by decide) (by omega))
theorem Gps.big {ps : List Stv} {w : Nat} (h : Gps ps w) (hw : w ≤ 1700) : Big (lcmL ps) := Nat.lt_of_lt_of_le (Nat.lt_of_lt_of_le (Nat.lt_succ_self _) h.1) (Nat.pow_le_pow_right (by decide) (by omega))
theorem lcmL_take {ps : List Stv} (h : ∀ p ∈ ps, 1 ≤ p.1) (i : Nat) : lcmL (ps.take i) ≤ lcmL ps := by
  refine Nat.le_of_dvd (lcmL_pos h) ?_
  conv => rhs; rw [← List.take_append_drop i ps]
  unfold lcmL
  rw [List.foldl_append]
  exact (dvd_fold _ _).1
/-- int(text) -/
def rIntTx : RC := fun xs H Q => ∃ a n, xs = [.str a] ∧ PySem.intText? a = some n ∧ a.length ≤ 640 ∧ Q (.int n) H
theorem call_intTx {X : Cx} : CallR X (.type "int") rIntTx := call_int_str
theorem int1 : ∀ c ∈ DG, PySem.intText? ⟨#[c]⟩ = some ((num [c] : Nat) : Int) := by decide +kernel
theorem int2 : ∀ c ∈ DG, ∀ d ∈ DG, PySem.intText? ⟨#[c, d]⟩ = some ((num [c, d] : Nat) : Int) := by decide +kernel
theorem i_intTx {r : List Nat} {H : Hp} {Q : VK} (h1 : 1 ≤ r.length) (h2 : r.length ≤ 2) (hd : ∀ c ∈ r, c ∈ DG) (q : Q (.int ((num r : Nat) : Int)) H) : rIntTx [S r] H Q := by
  match r, h1, h2, hd, q with
  | [c], _, _, hd, q => exact ⟨_, _, rfl, int1 c (hd c (by simp)), (show 1 ≤ 640 by omega), q⟩
  | [c, d], _, _, hd, q => exact ⟨_, _, rfl, int2 c (hd c (by simp)) d (hd d (by simp)), (show 2 ≤ 640 by omega), q⟩
/-- str(int), of small ones -/
def dec (n : Nat) : List Nat := if n < 10 then [48 + n] else [48 + n / 10, 48 + n % 10]
theorem dec_str : ∀ n : Nat, n < 100 → (toString (n : Int) : Str) = ⟨(dec n).toArray⟩ := by decide +kernel
def rStrS : RC := fun xs H Q => ∃ n : Nat, xs = [.int (n : Int)] ∧ n < 100 ∧ Q (S (dec n)) H
theorem call_strS {X : Cx} : CallR X (.type "str") rStrS := by
  intro pins s σ H xs us Q I rs h
  obtain ⟨n, rfl, hn, q⟩ := h
  refine call_str_int pins s σ H _ us Q I rs ⟨(n : Int), rfl, ?_, ?_⟩
  · have : (n : Int).natAbs = n := Int.natAbs_natCast n
    rw [this]
    by_cases h0 : n = 0
    · subst h0; decide
    · exact Nat.lt_trans ((Nat.log2_lt h0).mpr (Nat.lt_trans hn (by decide : 100 < 2 ^ 7))) (by decide)
  · have e : V.str (toString (n : Int)) = S (dec n) := by unfold S; rw [dec_str n hn]
    rw [e]; exact q
def rpOf (z : List Nat) : Nat → Option (Nat → Res)
  | 0 => none
  | d + 1 => some (rd z d)
theorem rdItem_item (z : List Nat) (d : Nat) : rdItem z d = item (rpOf z d) z := by
  cases d with
  | zero => exact rdItem_zero z
  | succ d => exact rdItem_succ z d
/-- what is no string -/
def NoStr (H : Hp) (x : V) : Prop := x = .non ∨ (∃ b, x = .bl b) ∨ (∃ i, x = .int i) ∨ ∃ a xs, x = .ref a ∧ (H a = some (.tup xs) ∨ H a = some (.lst xs))
theorem NoStr.mono {H H' : Hp} {x : V} (h : NoStr H x) (s : Same H H') : NoStr H' x := by
  rcases h with h | h | h | ⟨a, xs, h, h2⟩
  · exact .inl h
  · exact .inr (.inl h)
  · exact .inr (.inr (.inl h))
  · exact .inr (.inr (.inr ⟨a, xs, h, h2.imp (s _ _) (s _ _)⟩))
end Fg
namespace Fg
open PySem PySem.Spec PyProof.Rows L2
/-! ### texts put together -/
theorem joinL_len (ls : List (List Nat)) : (TL.joinL [38] ls).length ≤ (ls.map fun l => l.length + 1).sum := by
  induction ls with
  | nil => exact Nat.le_refl _
  | cons p r ih =>
    cases r with
    | nil => show p.length ≤ _; rw [List.map_cons, List.sum_cons]; omega
    | cons q r =>
      show (p ++ ([38] ++ TL.joinL [38] (q :: r))).length ≤ _
      rw [List.map_cons, List.sum_cons, List.length_append, List.length_append]
      have : ([38] : List Nat).length = 1 := rfl
      omega
theorem joinL_len1 (ls : List (List Nat)) (h : ls ≠ []) : (TL.joinL [38] ls).length + 1 ≤ (ls.map fun l => l.length + 1).sum := by
  induction ls with
  | nil => exact absurd rfl h
  | cons p r ih =>
    cases r with
    | nil => show p.length + 1 ≤ _; rw [List.map_cons, List.sum_cons]; omega
    | cons q r =>
      have := ih (by simp)
      show (p ++ ([38] ++ TL.joinL [38] (q :: r))).length + 1 ≤ _
      rw [List.map_cons, List.sum_cons, List.length_append, List.length_append]
      have : ([38] : List Nat).length = 1 := rfl
      omega
theorem join_sep (sep : List Nat) (ls : List (List Nat)) : Txt.join ⟨sep.toArray⟩ (ls.map fun l => (⟨l.toArray⟩ : Str)) = ⟨(TL.joinL sep ls).toArray⟩ := by
  refine TL.ext_tl ?_
  rw [TL.join_eq, TL.tl_join, List.map_map]
  show TL.joinL sep.toArray.toList (ls.map fun l => l.toArray.toList) = (TL.joinL sep ls).toArray.toList
  simp
theorem i_joinG {K : PySem.W.Frag} {H : Hp} {Q : VK} {p : Addr} {sep : List Nat} {ls : List (List Nat)} (hs : SqL K H p (ls.map S)) (hz : (ls.map List.length).sum + ls.length * sep.length ≤ 100000) (q : Q (S (TL.joinL sep ls)) H) : rJoinP K (S sep) [.ref p] H Q := by
  refine ⟨⟨sep.toArray⟩, p, ls.map fun l => (⟨l.toArray⟩ : Str), rfl, rfl, .inl ?_, ?_, ?_⟩
  · rw [List.map_map]; exact hs
  · rw [List.map_map]
    have e : (ls.map ((·.length) ∘ fun l => (⟨l.toArray⟩ : Str))) = ls.map List.length := List.map_congr_left fun l _ => str_len l
    rw [e, List.length_map]
    have e2 : (⟨sep.toArray⟩ : Str).length = sep.length := str_len sep
    show (ls.map List.length).sum + ls.length * (⟨sep.toArray⟩ : Str).length ≤ _
    rw [e2]
    exact Nat.le_trans hz (by decide)
  · rw [join_sep]; exact q
theorem sum_len1 (ls : List (List Nat)) : (ls.map fun l => l.length + 1).sum = (ls.map List.length).sum + ls.length := by
  induction ls with
  | nil => rfl
  | cons p r ih => rw [List.map_cons, List.map_cons, List.sum_cons, List.sum_cons, ih, List.length_cons]; omega
theorem upd_comm {H : Hp} {a b : Addr} {o o' : HO} (h : a ≠ b) : upd (upd H a o) b o' = upd (upd H b o') a o := by
  funext c
  by_cases h1 : c = b
  · rw [h1, upd_same, upd_ne (Ne.symm h), upd_same]
  · rw [upd_ne h1]
    by_cases h2 : c = a
    · rw [h2, upd_same, upd_same]
    · rw [upd_ne h2, upd_ne h2, upd_ne h1]
def ones (n : Nat) : List V := List.replicate n (.int 1)
theorem ones_succ (n : Nat) : ones n ++ [.int 1] = ones (n + 1) := by
  unfold ones
  rw [List.replicate_succ', ]
theorem dec_len (n : Nat) : (dec n).length ≤ 2 := by
  unfold dec
  split <;> simp
end Fg
/-! Own special methods: len(o), o[i], == of instances, isinstance of an instance. -/
namespace Fg
open PySem PySem.Spec PyProof.Rows L2
/-- a special method that stands in the text, with its promise -/
def DOK (P : Program) (w : World) (K : PySem.W.Frag) (mg : Str → Option Value) (base : Heap) (CX : CXT) (k : Nat) (C : Addr) (m : Str) (ps : List Str) (sp : Sp) : Prop :=
  ∃ (f : Addr) (fd : FuncData), Meth K C m f ∧ PySem.W.fnIn K f = true ∧ FnOk P w K mg base CX k f fd ps sp ∧ Binds K fd ps []
section
variable {P : Program} {w : World} {K : PySem.W.Frag} {mg : Str → Option Value} {base : Heap} {q m : Str} {st : Stmt} {N ps : List Str} {k : Nat} {sp : Sp} {C : Addr}
theorem FunD.fnIn {x q : Str} {ag : Arguments} {bd : List Stmt} {sc : Scope} {dvs : List V} {kws : List (Str × V)} {f : Addr} {fd : FuncData} (F : FunD K x q ag bd sc dvs kws f fd) : PySem.W.fnIn K f = true := by
  obtain ⟨⟨_, _, _, _, _, _, _, _, _, _, e, h, _⟩, _⟩ := F
  unfold PySem.W.fnIn
  rw [h, e]
theorem DOK.mk (D : MetIn K C m q st ps []) (S : FnScope N ps (defScope st)) (len : ∀ vs H Q E, sp vs H Q E → vs.length = ps.length)
    (body : ∀ (f : Addr) (cdv : Value) (A : Around) (outer : List Env) (s : Shared) (H : Hp) (vs : List V) (Q : VK) (E : XK), Room k (A.deeper (envOfC q (defScope st) s.heap.objs.size f cdv)) → sp vs H Q E →
      ∃ t, PSs (cxOf CX0 P w K mg base N q (defScope st) f cdv A outer s H E).nox (defBody st) t ∧ t { nx := fun _ H' => Q .non H', rt := Q } (start N vs) H) : DOK P w K mg base CX0 (k + 1) C m ps sp := by
  obtain ⟨f, fd, hm, F, hb, _⟩ := D
  exact ⟨f, fd, hm, FunD.fnIn F, FunD.ok0 F S len fun cdv A outer s H vs Q E hr h => body f cdv A outer s H vs Q E hr h, hb⟩
theorem DOK.mkX (D : MetIn K C m q st ps []) (S : FnScope N ps (defScope st)) (len : ∀ vs H Q E, sp vs H Q E → vs.length = ps.length)
    (body : ∀ (f : Addr) (cdv : Value) (A : Around) (outer : List Env) (s : Shared) (H : Hp) (vs : List V) (Q : VK) (E : XK), Room k (A.deeper (envOfC q (defScope st) s.heap.objs.size f cdv)) → sp vs H Q E →
      ∃ t, PSs (cxOf (L2.CX P w) P w K mg base N q (defScope st) f cdv A outer s H E) (defBody st) t ∧ t { nx := fun _ H' => Q .non H', rt := Q } (start N vs) H) : DOK P w K mg base (L2.CX P w) (k + 1) C m ps sp := by
  obtain ⟨f, fd, hm, F, hb, _⟩ := D
  exact ⟨f, fd, hm, FunD.fnIn F, F.ok S len fun cdv A outer s H vs Q E hr h => body f cdv A outer s H vs Q E hr h, hb⟩
end
section
variable {X : Cx} {CX : CXT} {k : Nat} {f C a : Addr} {fd : FuncData} {ps : List Str} {sp : Sp} {E : XK} {pins : List (Addr × Obj)} {σ : L2.St} {H : Hp} {s : Shared}
/-- a def is run within a built-in -/
theorem run_in {A1 : Around} (F : FnOk X.prog X.w X.K X.mg X.base CX k f fd ps sp) (hr : Room k A1) (hf : A1.frames = X.A.frames) (hb : Binds X.K fd ps []) (hx : Passes CX X E)
    {Q : VK} {us : List Value} {vs : List V} (I : Inv X pins σ H s) (r : Vals vs us) (h : sp vs H Q E) : wpAny (model X.prog X.w) A1 (call (.ref f) us) (EP X pins σ Q) X.xe s := by
  have e0 : Env0 X.prog X.w X.K X.mg X.base A1 X.stack s H := by
    have e := I.env0
    exact ⟨by rw [hf]; exact e.frames, e.mod, e.bs, e.bsz, e.funs, e.frf, e.hok, e.bare⟩
  have hl := F.len _ _ _ _ h
  have b1 := hb s us I.kIn (by rw [List.append_nil, ← r.length]; exact hl)
  rw [List.append_nil] at b1
  refine wpAny_call (codeAny_mono (F.run A1 X.stack s H ⟨us, []⟩ us vs Q E hr e0 b1 r h) fun res t2 h2 => ?_)
  cases res with
  | error z => exact hx pins σ H s z t2 I h2
  | ok fl =>
    cases fl with
    | next => exact h2.elim
    | brk => exact h2.elim
    | cont => exact h2.elim
    | ret u => exact I.after h2
/-! ### len(o) -/
def rLenO (C : Addr) (sp : Sp) (E : XK) : RC := fun xs H Q => ∃ a dx fs, xs = [.ref a] ∧ H a = some (.ins C dx fs) ∧ sp [.ref a] H (fun v H' => ∃ n : Nat, v = .int (n : Int) ∧ n ≤ 100000 ∧ Q v H') E
theorem call_lenO (G : DOK X.prog X.w X.K X.mg X.base CX k C "__len__" ps sp) (hr : Room (k + 1) X.A) (hx : Passes CX X E) : CallR X (.builtin "len") (rLenO C sp E) := by
  intro pins s σ H xs us Q I r h
  obtain ⟨a, dx, fs, rfl, ha, q⟩ := h
  obtain ⟨f, fd, hm, _, F, hb⟩ := G
  cases r with
  | cons ru rn =>
    cases rn
    cases (show _ = Value.ref a from ru)
    obtain ⟨mA, J, _⟩ := ins_get I.hok ha
    obtain ⟨od, J, _⟩ := J.look
    obtain ⟨m, hF⟩ := I.fr
    refine PySem.W.len_K hF I.ok.mod.kin J hm.at_ hm.fn ?_
    refine wpAny_mono (run_in F hr.in1 rfl hb hx I (show Vals [V.ref a] [Value.ref a] from .cons rfl .nil) q) (fun u s1 hq => ?_) fun _ _ z => z
    obtain ⟨v, H1, I1, rv, n, rfl, hn, q1⟩ := hq
    obtain ⟨t, rfl⟩ := rv
    exact ⟨⟨by omega, by omega⟩, .int (n : Int), H1, I1.tok (s1.toks + 1), ⟨_, rfl⟩, q1⟩
/-! ### o[e] -/
def tIxO (C : Addr) (sp : Sp) (E : XK) (to te : TE) : TE := fun σ H Q => to σ H fun x H1 => te σ H1 fun y H2 => ∃ a dx fs, x = .ref a ∧ H2 a = some (.ins C dx fs) ∧ sp [x, y] H2 Q E
theorem pe_ixO {o e : Expr} {to te : TE} {pos : PySem.Pos} (ho : PE X o to) (he : PE X e te) (G : DOK X.prog X.w X.K X.mg X.base CX k C "__getitem__" ps sp) (hr : Room (k + 1) X.A) (hx : Passes CX X E)
    (hsl : ∀ x i, subscripted e true (.ref x) i = runValue (.builtin "lifetime.subscript" ⟨[.ref x, i], []⟩) := by intro _ _; with_unfolding_all rfl) :
    PE X (.Subscript o e pos) (tIxO C sp E to te) := by
  refine ⟨fun pins s σ H Q I h => ?_⟩
  obtain ⟨f, fd, hm, hfn, F, hb⟩ := G
  refine Subscript_ (binT ho he I h fun v u s2 x y H2 I2 rx ry q => ?_)
  obtain ⟨a, dx, fs, rfl, ha, q⟩ := q
  cases rx
  obtain ⟨mA, J, _⟩ := ins_get I2.hok ha
  obtain ⟨od, J, _⟩ := J.look
  obtain ⟨m, hF⟩ := I2.fr
  exact PySem.W.sub_K hF I2.ok.mod.kin J hm.at_ hfn hm.fn (run_in F hr.in1 rfl hb hx I2 (show Vals [V.ref a, y] [Value.ref a, u] from .cons rfl (.cons ry .nil)) q) (hsl a _)
/-! ### == by an own __eq__ -/
def rEqO (C : Addr) (sp : Sp) (E : XK) : R2 := fun x y H Q => ∃ a dx fs, x = .ref a ∧ H a = some (.ins C dx fs) ∧ ((∃ b dy gs, y = .ref b ∧ H b = some (.ins C dy gs)) ∨ ∃ b ys, y = .ref b ∧ H b = some (.tup ys)) ∧
  sp [x, y] H (fun v H' => ∃ b, v = .bl b ∧ Q v H') E
theorem cmpBack {A1 : Around} {Q : VK} {u : Value} {s1 : Shared} (h : EP X pins σ (fun v H' => ∃ b, v = .bl b ∧ Q v H') u s1) : ∃ b, u = .bool b ∧ EP X pins σ Q u s1 := by
  obtain ⟨v, H1, I1, rv, b, rfl, q⟩ := h
  cases (show u = Value.bool b from rv)
  exact ⟨b, rfl, .bl b, H1, I1, rfl, q⟩
theorem op_eqO (G : DOK X.prog X.w X.K X.mg X.base CX k C "__eq__" ps sp) (hT : PySem.W.notFirst X.K C (.type "tuple") = true) (hr : Room k X.A) (hx : Passes CX X E) : OpR X (compareOp .Eq) (rEqO C sp E) := by
  intro pins s σ H x y v u Q I rx ry h
  obtain ⟨a, dx, fs, rfl, ha, hy, q⟩ := h
  obtain ⟨f, fd, hm, _, F, hb⟩ := G
  cases rx
  obtain ⟨mA, J, _⟩ := ins_get I.hok ha
  obtain ⟨od, J, _⟩ := J.look
  obtain ⟨m, hF⟩ := I.fr
  have back : wpAny (model X.prog X.w) X.A (call (.ref f) [.ref a, u]) (PySem.W.CmpBack (EP X pins σ Q)) X.xe s :=
    wpAny_mono (run_in F hr rfl hb hx I (show Vals [V.ref a, y] [Value.ref a, u] from .cons rfl (.cons ry .nil)) q) (fun w' s1 hq => by
      obtain ⟨b, rfl, e⟩ := cmpBack (A1 := X.A) hq
      exact e) fun _ _ z => z
  rcases hy with ⟨b, dy, gs, rfl, hy⟩ | ⟨b, ys, rfl, hy⟩
  · cases ry
    obtain ⟨mB, J', _⟩ := ins_get I.hok hy
    obtain ⟨od', J', _⟩ := J'.look
    exact PySem.W.cmp_K (op := .Eq) (tb := .ref C) hr.units0 hF I.ok.mod.kin J J'.type (by simp [PySem.W.notFirst]) hm.at_ hm.fn back
  · cases ry
    obtain ⟨its, _, e, _⟩ := I.tuple (.inl (.inl hy))
    obtain ⟨o, ho, hc, _⟩ := id e
    refine PySem.W.cmp_K (op := .Eq) (tb := .type "tuple") hr.units0 hF I.ok.mod.kin J ?_ hT hm.at_ hm.fn back
    exact (PySem.W.Looks.ld ho).andThen (by rw [hc]; exact .now)
/-! ### a tuple == an instance: the instance is asked -/
def rEqR (C : Addr) (sp : Sp) (E : XK) : R2 := fun x y H Q => ∃ a dx fs b ys, y = .ref a ∧ H a = some (.ins C dx fs) ∧ x = .ref b ∧ H b = some (.tup ys) ∧ sp [y, x] H (fun v H' => ∃ b, v = .bl b ∧ Q v H') E
end
end Fg
/-! for x in o, where o's class has an __iter__ that returns iter(a tuple). -/
namespace Fg
open PySem PySem.Spec PyProof.Rows L2
abbrev tItO (t : Addr) : Obj := { cls := .type "tuple_iterator", data := .fields #[.ref t, .int 0 0] }
/-- the iterator, at its beginning -/
def TiO (it t : Addr) : HO := .ext fun h => h.get? it = some (tItO t)
theorem tiO_ok {P : Program} {w : World} {H : Hp} {h : Heap} {it t : Addr} (e : h.get? it = some (tItO t)) : ObjOk P w H h it (TiO it t) := ⟨e, ⟨_, e⟩, fun h1 h2 q k => k _ q⟩
/-- iter(a tuple), the iterator not older than n -/
def rIterT (K : PySem.W.Frag) (n : Nat) : RC := fun xs H Q => ∃ (t : Addr) (zs : List V), xs = [.ref t] ∧ SqT K H t zs ∧ ∀ it, H it = none → n ≤ it → Q (.ref it) (upd H it (TiO it t))
theorem call_iterT {X : Cx} : CallR X (.builtin "iter") (rIterT X.K X.s_0.heap.objs.size) := by
  intro pins s σ H xs us Q I r h
  obtain ⟨t, zs, rfl, hq, q⟩ := h
  obtain ⟨u, rfl, ru⟩ := vals1 r
  cases ru
  obtain ⟨its, rv, pl, hz⟩ := I.tuple hq
  refine Calls.call_function_entry (by decide +kernel) (by decide +kernel) PySem.W.kdk_entry_iter (PySem.W.kdk_args_iter _) ?_
  unfold Builtin.«iter»
  refine wpAny_bind (m := someArgs "iter" 1 2 _) (wpAny_of_eq (a := [Value.ref t]) (by first | rfl | kernel_rfl!) ?_)
  show wpAny _ _ (pyIter (.ref t) >>= _) _ _ _
  refine wpAny_bind (wpAny_pyIter_tuple (show s.heap.IsTuple t its.toArray from pl) ?_)
  refine wpAny_pure ⟨_, rfl, ?_⟩
  exact ⟨.ref s.heap.objs.size, _, I.laid (t' := s.toks) (fun b u e => Heap.get?_push_of_some _ e) (Nat.le_refl _) (tiO_ok (Heap.get?_push_size _ rfl)), rfl, q _ (I.hok.fresh (Nat.le_refl _)) I.sz⟩
theorem cIterT (K : PySem.W.Frag) {X : Cx} (h : X.K = K := by rfl) : CallR X (.builtin "iter") (rIterT K X.s_0.heap.objs.size) := h ▸ call_iterT
/-- a def whose promise speaks of the age of what it makes: n is the heap's size at the call -/
structure NOk (P : Program) (w : World) (K : PySem.W.Frag) (mg : Str → Option Value) (base : Heap) (CX : CXT) (k : Nat) (f : Addr) (fd : FuncData) (ps : List Str) (sp : Nat → Sp) : Prop where
  many : ∀ n vs H Q E, sp n vs H Q E → vs.length = ps.length
  runs : ∀ (B : Around) (o : List Env) (t : Shared) (H : Hp) (ar : Args) (us : List Value) (vs : List V) (Q : VK) (E : XK),
    Room k B → Env0 P w K mg base B o t H → BindsTo t fd ar (ps.zip us) → Vals vs us →
    sp t.heap.objs.size vs H Q E → codeAny (model P w) B (.call (.ref f) ar) (CR CX o P w H t Q E) t
section
variable {P : Program} {w : World} {K : PySem.W.Frag} {mg : Str → Option Value} {base : Heap} {CX : CXT} {k : Nat} {f : Addr} {fd : FuncData} {ps N : List Str} {sp : Nat → Sp} {x q : Str} {st : Stmt} {dvs : List V} {kws : List (Str × V)}
theorem nok_mk (F : FunD K x q (defArgs st) (defBody st) (defScope st) dvs kws f fd) (S : FnScope N ps (defScope st)) (many : ∀ n vs H Q E, sp n vs H Q E → vs.length = ps.length)
    (body : ∀ (cv : Value) (B : Around) (o : List Env) (t : Shared) (H : Hp) (vs : List V) (Q : VK) (E : XK),
      Room k (B.deeper (envOfC q (defScope st) t.heap.objs.size f cv)) → sp t.heap.objs.size vs H Q E →
      ∃ rd, PSs (cxOf CX P w K mg base N q (defScope st) f cv B o t H E) (defBody st) rd ∧
        rd { nx := fun _ H2 => Q .non H2, rt := Q } (start N vs) H) : NOk P w K mg base CX (k + 1) f fd ps sp := by
  obtain ⟨c1, d1, kw1, dc1, pm1, an1, cv1, ct1, sl1, osl1, rfl, at1, code1, _, _⟩ := F.ex
  refine ⟨many, fun B o t H ar us vs Q E room en bd rv asked => ?_⟩
  have inK : K.In t.heap := en.mod.kin.keeps fun b u e => (en.bs b u e).1
  have nolim : t.heap.NoLimit := en.mod.nolimit.keeps fun b u e => (en.bs b u e).1
  have n1 := many _ _ _ _ _ asked
  refine codeAny_call_function room.depth (inK _ _ at1) rfl S.co S.gen rfl
    (PySem.W.codeRec_of inK code1) (bd _ _ _ _ ?_)
  refine wpAny_newFunctionEnv_cells S.kind (fun ⟨nm, u⟩ hm => ?_) fun env he t1 made => ?_
  · exact (S.par nm (List.of_mem_zip hm).1).elim .inl fun z => .inr ⟨z, PySem.W.cellsFrom_some _ _ _ (.inl z)⟩
  subst he
  obtain ⟨rd, walked, holds⟩ := body ct1 B o t H vs Q E (room.deeper _) asked
  have I0 := inv_start (CX := CX) (E := E) S room.hd en n1 rv made
  refine ⟨nolim.keeps made.toInCall.keep, codeAny_func (wpAny_mono (walked.run [] t1 (start N vs) H _ I0 holds) (fun fl t2 h2 => ?_) fun _ _ h2 => h2)⟩
  cases fl with
  | brk => obtain ⟨_, _, _, z⟩ := h2; exact z.elim
  | cont => obtain ⟨_, _, _, z⟩ := h2; exact z.elim
  | next =>
    obtain ⟨_, H2, J, z⟩ := h2
    exact ⟨.non, H2, J.os, J.bare, J.base, J.hok, rfl, z⟩
  | ret u =>
    obtain ⟨v, _, H2, J, rv2, z⟩ := h2
    exact ⟨v, H2, J.os, J.bare, J.base, J.hok, rv2, z⟩
end
/-- __iter__ of the class at C: an iterator over the tuple in the field fl -/
def spIt (K : PySem.W.Frag) (C : Addr) (fl : Str) (n : Nat) : Sp := sp1 fun x H Q _ => ∃ a dx fs t zs, x = .ref a ∧ H a = some (.ins C dx fs) ∧ fs.lookup fl = some (.ref t) ∧ SqT K H t zs ∧ ∀ it, H it = none → n ≤ it → Q (.ref it) (upd H it (TiO it t))
def IOK (P : Program) (w : World) (K : PySem.W.Frag) (mg : Str → Option Value) (base : Heap) (CX : CXT) (k : Nat) (C : Addr) (fl : Str) : Prop :=
  ∃ (f : Addr) (fd : FuncData), Meth K C "__iter__" f ∧ NOk P w K mg base CX k f fd ["self"] (spIt K C fl) ∧ Binds K fd ["self"] []
theorem IOK.mk {P : Program} {w : World} {K : PySem.W.Frag} {mg : Str → Option Value} {base : Heap} {q fl : Str} {st : Stmt} {N : List Str} {k : Nat} {C : Addr} (D : MetIn K C "__iter__" q st ["self"] []) (S : FnScope N ["self"] (defScope st))
    (body : ∀ (f : Addr) (cdv : Value) (A : Around) (outer : List Env) (s : Shared) (H : Hp) (vs : List V) (Q : VK) (E : XK), Room k (A.deeper (envOfC q (defScope st) s.heap.objs.size f cdv)) → spIt K C fl s.heap.objs.size vs H Q E →
      ∃ t, PSs (cxOf CX0 P w K mg base N q (defScope st) f cdv A outer s H E).nox (defBody st) t ∧ t { nx := fun _ H' => Q .non H', rt := Q } (start N vs) H) : IOK P w K mg base CX0 (k + 1) C fl := by
  obtain ⟨f, fd, hm, F, hb, _⟩ := D
  exact ⟨f, fd, hm, nok_mk F S (fun n vs H Q E h => len1 vs H Q E h) fun cv B o t H vs Q E hr h => let ⟨rd, z, e⟩ := body f cv B o t H vs Q E hr h; ⟨rd, z.nox, e⟩, hb⟩
/-- the walk over o -/
def iOwn (K : PySem.W.Frag) (C : Addr) (fl : Str) (te : TE) : TI := fun σ H R => te σ H fun x H1 => ∃ a dx fs t zs, x = .ref a ∧ H1 a = some (.ins C dx fs) ∧ fs.lookup fl = some (.ref t) ∧ SqT K H1 t zs ∧ R (Itt K t) H1
theorem piOwn {X : Cx} {CX : CXT} {k : Nat} {C : Addr} {fl : Str} {E : XK} {tg e : Expr} {te : TE} (he : PE X e te) (G : IOK X.prog X.w X.K X.mg X.base CX k C fl) (hr : Room k X.A) (hx : Passes CX X E) : PI X tg e (iOwn X.K C fl te) := by
  refine ⟨fun pins s σ H R I h => thn (he.run pins s σ H _ I h) fun v s1 ⟨x, H1, J1, r1, q1⟩ => ?_⟩
  obtain ⟨a, dx, fs, t, zs, rfl, ha, hl, hq, q⟩ := q1
  cases r1
  obtain ⟨f, fd, hm, F, hb⟩ := G
  obtain ⟨mA, J, _⟩ := ins_get J1.hok ha
  obtain ⟨od, J, _⟩ := J.look
  obtain ⟨m, hF⟩ := J1.fr
  refine PySem.W.owit_iter hF J1.ok.mod.kin J hm.at_ hm.fn ?_
  have e0 := J1.env0
  have r2 : Vals [V.ref a] [Value.ref a] := .cons rfl .nil
  have b1 := hb s1 [.ref a] J1.kIn rfl
  have asked : spIt X.K C fl s1.heap.objs.size [.ref a] H1 (fun v H' => ∃ it, v = .ref it ∧ H1 it = none ∧ s1.heap.objs.size ≤ it ∧ H' = upd H1 it (TiO it t)) E :=
    ⟨.ref a, rfl, a, dx, fs, t, zs, rfl, ha, hl, hq, fun it n1 n2 => ⟨it, rfl, n1, n2, rfl⟩⟩
  refine wpAny_call (codeAny_mono (F.runs X.A X.stack s1 H1 ⟨[.ref a], []⟩ [.ref a] [.ref a] _ E hr e0 (by simpa using b1) r2 asked) fun res t2 h2 => ?_)
  cases res with
  | error z => exact hx pins σ H1 s1 z t2 J1 h2
  | ok fl' =>
    cases fl' with
    | next => exact h2.elim
    | brk => exact h2.elim
    | cont => exact h2.elim
    | ret u =>
      obtain ⟨v, H2, I2, rv, it, rfl, n1, n2, rfl⟩ := J1.after h2
      cases rv
      have ho := (I2.hok it _ upd_same).1
      have hT : t2.TypeIs (.ref it) "tuple_iterator" := ⟨_, ho, rfl⟩
      have I3 : Inv X pins σ H1 t2 := by
        have := ItX.inv_drop I2 (a := it) upd_same
        rw [ItX.dropH_upd n1] at this
        exact this
      unfold PySem.W.OwitIt
      refine wpAny_specialOf hT PySem.F.slot_tuple_iterator_next.lookup ?_
      refine ⟨it, [it], fun i h => h.IsTupleIter it t i, Itt X.K t, H1, rfl, I3, turn_tuple t it, ⟨_, ho, rfl, rfl⟩, fun b hb' => ?_, q⟩
      have e : b = it := by simpa using hb'
      rw [e]
      exact J1.fpOk n2 n1
theorem piOwnK (K : PySem.W.Frag) {X : Cx} {CX : CXT} {k : Nat} {C : Addr} {fl : Str} {E : XK} {tg e : Expr} {te : TE} (he : PE X e te) (G : IOK X.prog X.w X.K X.mg X.base CX k C fl) (hr : Room k X.A) (hx : Passes CX X E) (h : X.K = K := by rfl) : PI X tg e (iOwn K C fl te) := h ▸ piOwn he G hr hx
/-! ### a tuple == an instance: the tuple says nothing, the instance is asked -/
section
variable {X : Cx} {CX : CXT} {k : Nat} {C : Addr} {ps : List Str} {sp : Sp} {E : XK}
theorem op_eqR (G : DOK X.prog X.w X.K X.mg X.base CX k C "__eq__" ps sp) (hS : PySem.W.subIn X.K (.ref C) (.type "tuple") = some false) (hr : Room k X.A) (hx : Passes CX X E) : OpR X (compareOp .Eq) (rEqR C sp E) := by
  intro pins s σ H x y v u Q I rx ry h
  obtain ⟨a, dx, fs, b, ys, rfl, ha, rfl, hb', q⟩ := h
  obtain ⟨f, fd, hm, _, F, hb⟩ := G
  cases rx
  cases ry
  obtain ⟨mA, J, _⟩ := ins_get I.hok ha
  obtain ⟨od, J, _⟩ := J.look
  obtain ⟨its, _, pl, _⟩ := I.tuple (.inl (.inl hb'))
  have hT : s.TypeIs (.ref b) "tuple" := by
    obtain ⟨o, ho, hc, _⟩ := id pl
    exact ⟨o, ho, hc⟩
  show wpAny (model X.prog X.w) X.A (richCompare .Eq (.ref b) (.ref a)) _ _ _
  unfold richCompare
  simp only [oneThing_ref]
  refine wpAny_holding (wpAny_bind (wpAny_cRoomFor hr.units0 ?_))
  refine wpAny_bind (wpAny_typeOf hT (wpAny_bind (J.type.here ?_)))
  rw [if_pos (show ((Value.type "tuple") != (Value.ref _)) = true from rfl)]
  refine wpAny_bind ((PySem.W.looks_subIn I.kIn hS).here ?_)
  simp only [Bool.false_eq_true, if_false]
  refine wpAny_bind (Q := _) ?_
  unfold tryCompare
  refine wpAny_bind (wpAny_callSpecialIfBound?_slot (name := Str.ofString "__eq__") hT PySem.F.slot_tuple_eq (wpAny_call_entry PySem.F.slot_tuple_eq hT PySem.F.entry_tuple_eq ?_ (PySem.F.args_tuple_eq_2 _ _)))
  show wpAny _ _ (isInstance (.ref a) (.type "tuple") >>= _) _ _ s
  refine wpAny_bind (wpAny_bind (J.type.here ((PySem.W.looks_subIn I.kIn hS).here ?_)))
  refine wpAny_pure ⟨_, rfl, wpAny_pure ?_⟩
  simp only [Bool.not_false, if_true]
  refine wpAny_bind (wpAny_bind (PySem.W.ifBound_K I.kIn J hm.at_ hm.fn ?_))
  refine wpAny_mono (run_in F hr rfl hb hx I (show Vals [V.ref a, V.ref b] [Value.ref a, Value.ref b] from .cons rfl (.cons rfl .nil)) q) (fun w' s1 hq => ?_) fun _ _ z => z
  obtain ⟨bb, rfl, e⟩ := cmpBack (A1 := X.A) hq
  exact wpAny_pure (wpAny_pure e)
end
end Fg
/-! In a try: instances made, o[e]; what an own class tells of its instances. -/
namespace Fg
open PySem PySem.Spec PyProof.Rows L2
section
variable {X : Cx} {CX : CXT} {k : Nat} {f C a : Addr} {fd : FuncData} {x : Str} {ps : List Str} {sp : Sp} {E : XK} {ES : L2.St → XK} {pins : List (Addr × Obj)} {σ : L2.St} {H : Hp} {s : Shared} {dvs : List V} {ds : List Value}
theorem run_inS {A1 : Around} (F : FnOk X.prog X.w X.K X.mg X.base CX k f fd ps sp) (hr : Room k A1) (hf : A1.frames = X.A.frames) (hb : Binds X.K fd ps []) (hx : PassesAt CX X σ E)
    {Q : VK} {us : List Value} {vs : List V} (I : Inv X pins σ H s) (r : Vals vs us) (h : sp vs H Q E) : wpAny (model X.prog X.w) A1 (call (.ref f) us) (EP X pins σ Q) X.xe s := by
  have e0 : Env0 X.prog X.w X.K X.mg X.base A1 X.stack s H := by
    have e := I.env0
    exact ⟨by rw [hf]; exact e.frames, e.mod, e.bs, e.bsz, e.funs, e.frf, e.hok, e.bare⟩
  have hl := F.len _ _ _ _ h
  have b1 := hb s us I.kIn (by rw [List.append_nil, ← r.length]; exact hl)
  rw [List.append_nil] at b1
  refine wpAny_call (codeAny_mono (F.run A1 X.stack s H ⟨us, []⟩ us vs Q E hr e0 b1 r h) fun res t2 h2 => ?_)
  cases res with
  | error z => exact hx pins H s z t2 I h2
  | ok fl =>
    cases fl with
    | next => exact h2.elim
    | brk => exact h2.elim
    | cont => exact h2.elim
    | ret u => exact I.after h2
def tIxOS (C : Addr) (sp : Sp) (ES : L2.St → XK) (to te : TE) : TE := fun σ H Q => to σ H fun x H1 => te σ H1 fun y H2 => ∃ a dx fs, x = .ref a ∧ H2 a = some (.ins C dx fs) ∧ sp [x, y] H2 Q (ES σ)
theorem pe_ixOS {o e : Expr} {to te : TE} {pos : PySem.Pos} (ho : PE X o to) (he : PE X e te) (G : DOK X.prog X.w X.K X.mg X.base CX k C "__getitem__" ps sp) (hr : Room (k + 1) X.A) (hx : ∀ σ, PassesAt CX X σ (ES σ))
    (hsl : ∀ x i, subscripted e true (.ref x) i = runValue (.builtin "lifetime.subscript" ⟨[.ref x, i], []⟩) := by intro _ _; with_unfolding_all rfl) :
    PE X (.Subscript o e pos) (tIxOS C sp ES to te) := by
  refine ⟨fun pins s σ H Q I h => ?_⟩
  obtain ⟨f, fd, hm, hfn, F, hb⟩ := G
  refine Subscript_ (binT ho he I h fun v u s2 x y H2 I2 rx ry q => ?_)
  obtain ⟨a, dx, fs, rfl, ha, q⟩ := q
  cases rx
  obtain ⟨mA, J, _⟩ := ins_get I2.hok ha
  obtain ⟨od, J, _⟩ := J.look
  obtain ⟨m, hF⟩ := I2.fr
  exact PySem.W.sub_K hF I2.ok.mod.kin J hm.at_ hfn hm.fn (run_inS F hr.in1 rfl hb (hx σ) I2 (show Vals [V.ref a, y] [Value.ref a, u] from .cons rfl (.cons ry .nil)) q) (hsl a _)
theorem run_makeS {Q : VK} {us : List Value} {vs : List V} (M : Mk X.K C f) (F : FnOk X.prog X.w X.K X.mg X.base CX k f fd ps sp) (hr : Room (k + 1) X.A) (hb : Binds X.K fd ps ds) (hd : Vals dvs ds)
    (hx : PassesAt CX X σ E) (I : Inv X pins σ H s) (r : Vals vs us)
    (h : ∀ x dx, H x = none → H dx = none → dx ≠ x → sp (.ref x :: (vs ++ dvs)) (upd (upd H dx (.own x)) x (.ins C dx [])) (fun v H2 => v = .non ∧ Q (.ref x) H2) E) :
    wpAny (model X.prog X.w) X.A (call (.ref C) us) (EP X pins σ Q) X.xe s := by
  have hq := h (s.heap.objs.size + 1) s.heap.objs.size (I.hok.fresh (Nat.le_succ _)) (I.hok.fresh (Nat.le_refl _)) (Nat.ne_of_lt (Nat.lt_succ_self _))
  have I2 := Inv.made (C := C) I
  have r2 : Vals (V.ref (s.heap.objs.size + 1) :: (vs ++ dvs)) (Value.ref (s.heap.objs.size + 1) :: (us ++ ds)) := .cons rfl (r.append hd)
  have hl : (Value.ref (s.heap.objs.size + 1) :: us ++ ds).length = ps.length := by
    have e := r2.length
    rw [F.len _ _ _ _ hq] at e
    exact e.symm
  refine wpAny_call (make_map (f := f) I.kIn M.makes M.init (beq_iff_eq.mp M.fn) (codeAny_mono (F.run _ X.stack _ _ ⟨Value.ref (s.heap.objs.size + 1) :: us, []⟩ (Value.ref (s.heap.objs.size + 1) :: (us ++ ds)) _ _ E (hr.make C us [])
    (I2.env0.make C us []) (hb _ (Value.ref (s.heap.objs.size + 1) :: us) I2.kIn hl) r2 hq) fun r s' hq' => ?_))
  cases r with
  | error e => exact hx pins _ _ e s' I2 hq'
  | ok fl =>
    cases fl with
    | ret u =>
      obtain ⟨v, H', I3, rv, ev, q3⟩ := I2.after hq'
      subst ev
      exact ⟨rv, ⟨V.ref (s.heap.objs.size + 1), H', I3, rfl, q3⟩⟩
    | next => exact False.elim hq'
    | brk => exact False.elim hq'
    | cont => exact False.elim hq'
def tMakeS (C : Addr) (sp : Sp) (ES : L2.St → XK) (ta : TA) : TE := fun σ H Q => ta σ H fun vs H1 => ∀ x dx, H1 x = none → H1 dx = none → dx ≠ x → sp (.ref x :: (vs ++ [])) (upd (upd H1 dx (.own x)) x (.ins C dx [])) (fun v H2 => v = .non ∧ Q (.ref x) H2) (ES σ)
theorem pe_mkS {e : Expr} {es : List Expr} {ta : TA} {p pos : PySem.Pos} (G : MkOK X.prog X.w X.K X.mg X.base CX k x C ps dvs sp) (hr : Room (k + 1) X.A) (hx : ∀ σ, PassesAt CX X σ (ES σ)) (ha : PA X (e :: es) ta) (hg : Gl X x := by rfl) (hdb : (x == ("__debug__" : Str)) = false := by decide)
    (he : starEach (e :: es) X.env = (false, eval e X.env) :: starEach es X.env := by rfl) (hpl : (backTo pos (starEach es X.env)).any (·.1) = false := by rfl) :
    PE X (.Call (.Name x p) (e :: es) [] pos) (tMakeS C sp ES ta) := by
  obtain ⟨f, fd, M, hm, F, hb, _⟩ := G
  refine ⟨fun pins s σ H Q I h => ?_⟩
  refine wpAny_Call_Name_kw (ld_glob I hg hm ?_ hdb)
  refine PySem.W.callWith_K (h₀ := X.base) I.ok.mod.kin M.kp (thn (ha.run pos pins s σ H _ I h) fun us s1 ⟨vs, H1, I1, r, q⟩ => ⟨I1.kIn, ?_⟩) he hpl
  exact run_makeS M F hr hb .nil (hx σ) I1 r q
end
/-! ### isinstance of an instance -/
structure InsC (K : PySem.W.Frag) (C : Addr) : Prop where
  cl : Cls K C
  ha : PySem.W.findIn K (.ref C) "__class__" = some (some (.builtin "object.__class__"))
  hn : PySem.W.specialIn K (.builtin "object.__class__") "__get__" = some (some (.builtin "getset_descriptor.__get__"))
  ht : PySem.W.takesIn K (.builtin "object.__class__") = some true
  hm : PySem.W.mroIn K C (.type "object") = some true
theorem kit_bltn {K : PySem.W.Frag} {T : String} {D : Addr} {b : Bool} (hi : PySem.W.isClsIn K D = true) (ht : PySem.W.typeIn K (.ref D) = some (.type "type")) (e : PySem.W.subIn K (.type T) (.ref D) = some b) : PySem.W.kitOne K (.type T) (.ref D) = some b := by
  unfold PySem.W.kitOne
  rw [if_neg (by simp)]
  show (if ((PySem.W.clsIn K D).isSome && PySem.W.typeIn K (.ref D) == some (.type "type")) = true then PySem.W.subIn K (.type T) (.ref D) else none) = _
  rw [show (PySem.W.clsIn K D).isSome = true from hi, ht, if_pos (by simp)]
  exact e
section
variable {K : PySem.W.Frag} {σ : L2.St} {H : Hp} {Q : VK} {E : XK} {ES : L2.St → XK} {C a dx : Addr} {fs : List (Str × V)} {to te : TE} {ta : TA} {sp : Sp} {c y v : V} {cv : Value} {b : Bool} {d : PyData} {R : It → Hp → Prop}
theorem i_isiO (h : H a = some (.ins C dx fs)) (T : InsC K C) (kc : ClsV c cv) (e : PySem.W.kitOne K (.ref C) cv = some b) (q : Q (.bl b) H) : rIsi K [.ref a, c] H Q := ⟨_, _, _, _, b, rfl, kc, .base (.ins h T.cl T.ha T.hn T.ht T.hm), e, q⟩
theorem i_isiDO (h : At H v d) (kc : ClsV c cv) (e : PySem.W.kitOne K (.type (kindD d)) cv = some b) (q : Q (.bl b) H) : rIsi K [v, c] H Q := ⟨_, _, _, _, b, rfl, kc, h.ty K, e, q⟩
theorem i_ixO (q : to σ H fun x H1 => te σ H1 fun y H2 => ∃ a dx fs, x = .ref a ∧ H2 a = some (.ins C dx fs) ∧ sp [x, y] H2 Q E) : tIxO C sp E to te σ H Q := q
theorem i_ixOS (q : to σ H fun x H1 => te σ H1 fun y H2 => ∃ a dx fs, x = .ref a ∧ H2 a = some (.ins C dx fs) ∧ sp [x, y] H2 Q (ES σ)) : tIxOS C sp ES to te σ H Q := q
theorem i_makeS (q : ta σ H fun vs H1 => ∀ x dx, H1 x = none → H1 dx = none → dx ≠ x → sp (.ref x :: (vs ++ [])) (upd (upd H1 dx (.own x)) x (.ins C dx [])) (fun v H2 => v = .non ∧ Q (.ref x) H2) (ES σ)) : tMakeS C sp ES ta σ H Q := q
theorem i_lenO (h : H a = some (.ins C dx fs)) (q : sp [.ref a] H (fun v H' => ∃ n : Nat, v = .int (n : Int) ∧ n ≤ 100000 ∧ Q v H') E) : rLenO C sp E [.ref a] H Q := ⟨a, dx, fs, rfl, h, q⟩
theorem i_iOwn {fl : Str} (q : te σ H fun x H1 => ∃ a dx fs t zs, x = .ref a ∧ H1 a = some (.ins C dx fs) ∧ fs.lookup fl = some (.ref t) ∧ SqT K H1 t zs ∧ R (Itt K t) H1) : iOwn K C fl te σ H R := q
end
end Fg
/-! [te for j in a text if tt] -/
namespace Fg
open PySem PySem.Spec PyProof.Rows L2
section
variable {K : PySem.W.Frag} {σ : L2.St} {H : Hp} {Q : VK} {te tl : TE} {tt : TT} {j : Nat} {z : List Nat} {vs : List Nat}
theorem c_str (ha : ∀ R : VK, R (S z) H → tl σ H R) (hn : z.length ≤ 100000) (f : Nat → Bool) (v : Nat → V) (hw : ∀ x, wipe ((wipe σ vs).set j (some x)) vs = wipe σ vs)
    (ht : ∀ i c H2, z[i]? = some c → Same H H2 → ∀ QB : Bool → Hp → Prop, (∀ H3, Same H2 H3 → QB (f i) H3) → tt ((wipe σ vs).set j (some (S [c]))) H2 QB)
    (he : ∀ i c H2, z[i]? = some c → Same H H2 → f i = true → ∀ QV : VK, (∀ H3, Same H2 H3 → QV (v i) H3) → te ((wipe σ vs).set j (some (S [c]))) H2 QV)
    (q : ∀ Dl H2, H Dl = none → Same H H2 → H2 Dl = some (.lst (kept f v z.length)) → Q (.ref Dl) H2) : tLc (iAny K tl) (gName j) tt te vs σ H Q := by
  have e : (⟨z.toArray⟩ : Str).cps.size = z.length := str_len z
  refine ha _ (.inr (.inr ⟨_, rfl, fun Dl nD => ?_⟩))
  refine lc_it walk_str (Lw H Dl (kept f v)) ⟨nD, same_upd nD, upd_same⟩ (fun _ _ _ _ => True.intro) (fun i x H' H2 hi p y => ?_) (fun H' p => q Dl H' p.1 p.2.1 (by rw [e] at p; exact p.2.2))
  obtain ⟨rfl, c, hc, rfl⟩ := y
  have hc' : z[i]? = some c := by simpa using hc
  have hlt := (List.getElem?_eq_some_iff.mp hc').1
  exact ⟨hw _, lw_turn p (by omega) (fun H2 s2 => ht i c H2 hc' s2) (fun H2 s2 => he i c H2 hc' s2)⟩
/-- the signs that are kept -/
theorem c_strF (P : Nat → Bool) (ha : ∀ R : VK, R (S z) H → tl σ H R) (hn : z.length ≤ 100000) (hw : ∀ x, wipe ((wipe σ vs).set j (some x)) vs = wipe σ vs)
    (ht : ∀ c H2, c ∈ z → Same H H2 → ∀ QB : Bool → Hp → Prop, (∀ H3, Same H2 H3 → QB (P c) H3) → tt ((wipe σ vs).set j (some (S [c]))) H2 QB)
    (he : ∀ c H2, c ∈ z → Same H H2 → ∀ QV : VK, (∀ H3, Same H2 H3 → QV (S [c]) H3) → te ((wipe σ vs).set j (some (S [c]))) H2 QV)
    (q : ∀ Dl H2, H Dl = none → Same H H2 → H2 Dl = some (.lst ((z.filter P).map fun c => S [c])) → Q (.ref Dl) H2) : tLc (iAny K tl) (gName j) tt te vs σ H Q := by
  have key : ∀ n, n ≤ z.length → kept (fun i => P (z.getD i 0)) (fun i => S [z.getD i 0]) n = ((z.take n).filter P).map fun c => S [c] := fun n => by
    induction n with
    | zero => intro _; rfl
    | succ n ih =>
      intro hn
      have hg : z[n]? = some (z.getD n 0) := by rw [List.getD_eq_getElem?_getD, List.getElem?_eq_getElem (by omega)]; rfl
      have tk : z.take (n + 1) = z.take n ++ [z.getD n 0] := by rw [List.take_succ, hg]; rfl
      rw [tk, List.filter_append, List.map_append, ← ih (by omega)]
      cases hp : P (z.getD n 0) with
      | true => rw [kept_yes (f := fun i => P (z.getD i 0)) hp, List.filter_cons_of_pos hp]; rfl
      | false => rw [kept_no (f := fun i => P (z.getD i 0)) hp, List.filter_cons_of_neg (by rw [hp]; decide)]; simp
  have gd : ∀ {i c}, z[i]? = some c → z.getD i 0 = c := fun h => by rw [List.getD_eq_getElem?_getD, h]; rfl
  refine c_str ha hn (fun i => P (z.getD i 0)) (fun i => S [z.getD i 0]) hw (fun i c H2 hc s QB k => ht c H2 (List.mem_of_getElem? hc) s QB (by rw [gd hc] at k; exact k))
    (fun i c H2 hc s _ QV k => he c H2 (List.mem_of_getElem? hc) s QV (by rw [gd hc] at k; exact k)) fun Dl H2 n s e => q Dl H2 n s ?_
  rw [key _ (Nat.le_refl _), List.take_length] at e
  exact e
end
end Fg
/-! Dicts by what they answer: keys that are texts, keys that are pairs of numbers. -/
namespace Fg
open PySem PySem.Spec PyProof.Rows L2
abbrev kS (l : List Nat) : Key := .inr ⟨l.toArray⟩
theorem kS_inj {l m : List Nat} : kS l = kS m ↔ l = m := by
  constructor
  · intro h
    exact List.toArray_inj (congrArg PySem.Str.cps (Sum.inr.inj h))
  · rintro rfl; rfl
theorem kV_S (l : List Nat) : kV (kS l) = S l := rfl
theorem putK_len {κ : Type} [DecidableEq κ] (kvs : List (κ × V)) (k : κ) (v : V) : (putK kvs k v).length ≤ kvs.length + 1 := by
  unfold putK
  split
  · rw [List.length_map]; omega
  · rw [List.length_append, List.length_singleton]; exact Nat.le_refl _
/-- at a a dict of at most n entries, which answers g -/
def TD (n : Nat) (H : Hp) (a : Addr) (g : List Nat → Option V) : Prop := ∃ kvs : List (Key × V), H a = some (.dK kvs) ∧ kvs.length ≤ n ∧ ∀ l, valV kvs (kS l) = g l
def PD (n : Nat) (H : Hp) (a : Addr) (g : Int → Int → Option V) : Prop := ∃ kvs : List (List Key × V), H a = some (.dT kvs) ∧ kvs.length ≤ n ∧ ∀ i j, valV kvs [.inl i, .inl j] = g i j
def setT (g : List Nat → Option V) (k : List Nat) (v : V) : List Nat → Option V := fun l => if l = k then some v else g l
def setP (g : Int → Int → Option V) (i j : Int) (v : V) : Int → Int → Option V := fun a b => if a = i ∧ b = j then some v else g a b
section
variable {n : Nat} {H H' : Hp} {a b : Addr} {g : List Nat → Option V} {f : Int → Int → Option V} {l : List Nat} {v : V} {Q : VK} {i j : Int}
theorem TD.at (h : TD n H a g) (e : H' a = H a) : TD n H' a g := by
  obtain ⟨kvs, h1, h2⟩ := h
  exact ⟨kvs, e.trans h1, h2⟩
theorem PD.at (h : PD n H a f) (e : H' a = H a) : PD n H' a f := by
  obtain ⟨kvs, h1, h2⟩ := h
  exact ⟨kvs, e.trans h1, h2⟩
theorem TD.mono (h : TD n H a g) (s : Same H H') : TD n H' a g := by
  obtain ⟨kvs, h1, h2⟩ := h
  exact ⟨kvs, s _ _ h1, h2⟩
theorem PD.mono (h : PD n H a f) (s : Same H H') : PD n H' a f := by
  obtain ⟨kvs, h1, h2⟩ := h
  exact ⟨kvs, s _ _ h1, h2⟩
theorem TD.some (h : TD n H a g) : ∃ o, H a = some o := by
  obtain ⟨kvs, h1, h2⟩ := h
  exact ⟨_, h1⟩
theorem PD.some (h : PD n H a f) : ∃ o, H a = some o := by
  obtain ⟨kvs, h1, h2⟩ := h
  exact ⟨_, h1⟩
theorem TD.new : TD 0 (upd H a (.dK [])) a (fun _ => none) := ⟨[], upd_same, Nat.le_refl _, fun _ => rfl⟩
theorem PD.new : PD 0 (upd H a (.dT [])) a (fun _ _ => none) := ⟨[], upd_same, Nat.le_refl _, fun _ _ => rfl⟩
theorem td_get {P : V → Prop} (h : TD n H a g) (e : g l = some v) (q : P v) : ∃ a' v', V.ref a = .ref a' ∧ DGet H a' (S l) (some v') ∧ P v' := by
  obtain ⟨kvs, h1, h2, h3⟩ := h
  refine ⟨a, v, rfl, ?_, q⟩
  have := DGet.k (k := kS l) h1
  rw [h3, e] at this
  exact this
theorem td_ask {P : Option V → Prop} (h : TD n H a g) (q : P (g l)) : ∃ a' o, V.ref a = .ref a' ∧ DGet H a' (S l) o ∧ P o := by
  obtain ⟨kvs, h1, h2, h3⟩ := h
  refine ⟨a, g l, rfl, ?_, q⟩
  have := DGet.k (k := kS l) h1
  rw [h3] at this
  exact this
theorem td_put {P : Hp → Prop} (h : TD n H a g) (hn : n ≤ 100000) (q : ∀ o, TD (n + 1) (upd H a o) a (setT g l v) → P (upd H a o)) : ∃ a' H4, V.ref a = .ref a' ∧ DPut H a' (S l) v H4 ∧ P H4 := by
  obtain ⟨kvs, h1, h2, h3⟩ := h
  refine ⟨a, _, rfl, DPut.k (k := kS l) h1 (by rw [sizeLine_eq]; omega), q _ ⟨_, upd_same, Nat.le_trans (putK_len _ _ _) (by omega), fun m => ?_⟩⟩
  rw [valV_put, h3]
  unfold setT
  by_cases e : m = l
  · rw [if_pos e, if_pos (by rw [e])]
  · rw [if_neg e, if_neg (fun z => e (kS_inj.mp z))]
theorem pd_get (h : PD n H a f) (hb : H b = some (.tup [.int i, .int j])) {P : V → Prop} (e : f i j = some v) (q : P v) : ∃ a' v', V.ref a = .ref a' ∧ DGet H a' (.ref b) (some v') ∧ P v' := by
  obtain ⟨kvs, h1, h2, h3⟩ := h
  refine ⟨a, v, rfl, ?_, q⟩
  have := DGet.t (k := [.inl i, .inl j]) h1 hb
  rw [h3, e] at this
  exact this
theorem pd_put {P : Hp → Prop} (h : PD n H a f) (hb : H b = some (.tup [.int i, .int j])) (hn : n ≤ 100000) (q : ∀ o, PD (n + 1) (upd H a o) a (setP f i j v) → P (upd H a o)) : ∃ a' H4, V.ref a = .ref a' ∧ DPut H a' (.ref b) v H4 ∧ P H4 := by
  obtain ⟨kvs, h1, h2, h3⟩ := h
  refine ⟨a, _, rfl, DPut.t (k := [.inl i, .inl j]) h1 hb (by rw [sizeLine_eq]; omega), q _ ⟨_, upd_same, Nat.le_trans (putK_len _ _ _) (by omega), fun x y => ?_⟩⟩
  rw [valV_put, h3]
  unfold setP
  by_cases e : x = i ∧ y = j
  · rw [if_pos (by rw [e.1, e.2]), if_pos e]
  · rw [if_neg (fun z => e (by injection z with z1 z2; injection z2 with z2 z3; exact ⟨Sum.inl.inj z1, Sum.inl.inj z2⟩)), if_neg e]
end
section
variable {σ : L2.St} {H : Hp} {Q : VK} {td ty tv : TE} {D : Ends}
theorem i_dget (q : td σ H fun x H1 => ty σ H1 fun y H2 => ∃ a v, x = .ref a ∧ DGet H2 a y (some v) ∧ Q v H2) : tDGet td ty σ H Q := q
theorem i_din (q : ty σ H fun y H1 => td σ H1 fun x H2 => ∃ a o, x = .ref a ∧ DGet H2 a y o ∧ Q (.bl o.isSome) H2) : tDIn ty td σ H Q := q
theorem i_dnotin (q : ty σ H fun y H1 => td σ H1 fun x H2 => ∃ a o, x = .ref a ∧ DGet H2 a y o ∧ Q (.bl (!o.isSome)) H2) : tDNotIn ty td σ H Q := q
theorem i_dput (q : tv σ H fun v H1 => td σ H1 fun x H2 => ty σ H2 fun y H3 => ∃ a H4, x = .ref a ∧ DPut H3 a y v H4 ∧ D.nx σ H4) : sDPut td ty tv D σ H := q
theorem i_dnewK (q : ∀ p, H p = none → Q (.ref p) (upd H p (.dK []))) : tDNewK σ H Q := q
theorem i_dnewT (q : ∀ p, H p = none → Q (.ref p) (upd H p (.dT []))) : tDNewT σ H Q := q
/-- {l: v}, texts -/
theorem i_disp1 {l : List Nat} {v : V} {tk tv : TE} (hk : ∀ H (R : VK), R (S l) H → tk σ H R) (hv : ∀ H (R : VK), R v H → tv σ H R) (q : ∀ p o, H p = none → TD 1 (upd H p o) p (setT (fun _ => none) l v) → Q (.ref p) (upd H p o)) : tDisp [(tk, tv)] σ H Q := by
  intro p np
  refine hk _ _ (hv _ _ ⟨upd_same, [(kS l, v)], rfl, (by decide : 1 ≤ 15), ?_⟩)
  rw [upd_upd]
  refine q p _ np ⟨_, upd_same, Nat.le_refl 1, fun m => ?_⟩
  show valV (putK [] (kS l) v) (kS m) = _
  rw [valV_put]
  unfold setT
  by_cases e : m = l
  · rw [if_pos e, if_pos (by rw [e])]
  · rw [if_neg e, if_neg (fun z => e (kS_inj.mp z))]
    rfl
end
/-! a value as a test, the written part named -/
def tTru (K : PySem.W.Frag) (te : TE) : TT := fun σ H Q => te σ H fun x H' => ∃ k, TruV K x H' k ∧ Q k H'
section
variable {K : PySem.W.Frag} {σ : L2.St} {H : Hp} {te : TE} {a : Addr} {xs : List V} {l : List Nat} {P : Bool → Prop} {Q : Bool → Hp → Prop}
theorem i_tru (q : te σ H fun x H' => ∃ k, TruV K x H' k ∧ Q k H') : tTru K te σ H Q := q
theorem i_truL (h : H a = some (.lst xs)) (q : P (!xs.isEmpty)) : ∃ k, TruV K (.ref a) H k ∧ P k := ⟨_, .inl ⟨xs, .inl (.inl h), rfl⟩, q⟩
theorem i_truL0 (h : H a = some (.lst [])) (q : P false) : ∃ k, TruV K (.ref a) H k ∧ P k := ⟨_, .inl ⟨[], .inl (.inl h), rfl⟩, q⟩
theorem i_truL1 (h : H a = some (.lst xs)) (hne : xs ≠ []) (q : P true) : ∃ k, TruV K (.ref a) H k ∧ P k := ⟨_, .inl ⟨xs, .inl (.inl h), by cases xs with
  | nil => exact absurd rfl hne
  | cons _ _ => rfl⟩, q⟩
theorem i_truT (h : H a = some (.tup xs)) (q : P (!xs.isEmpty)) : ∃ k, TruV K (.ref a) H k ∧ P k := ⟨_, .inr (.inl ⟨xs, .inl (.inl h), rfl⟩), q⟩
end
theorem ptTruth (K : PySem.W.Frag) {X : Cx} {e : Expr} {te : TE} (he : PE X e te) (h1 : ∀ whole, isTrue e X.env whole = (do let v ← whole; standAt e.pos; holding [v] (truthy v))) (h : X.K = K := by rfl) : PT X e (tTru K te) := h ▸ pt_truth he h1
end Fg
/-! {text: value, ..}, d.get(text). -/
namespace Fg
open PySem PySem.Spec PyProof.Rows L2
def lookT (ps : List (List Nat × V)) : List Nat → Option V := ps.foldl (fun g p => setT g p.1 p.2) fun _ => none
section
variable {σ : L2.St} {H : Hp} {Q : VK} {td ty : TE} {a : Addr} {n : Nat} {g : List Nat → Option V} {l : List Nat}
theorem pairs_const : ∀ (ps : List (List Nat × V)) (H : Hp) (R : List (V × V) → Hp → Prop), R (ps.map fun p => (S p.1, p.2)) H → tPairs (ps.map fun p => (tC (S p.1), tC p.2)) σ H R
  | [], _, _, h => h
  | p :: r, H, R, h => pairs_const r H _ h
theorem merge_look : ∀ (ps : List (List Nat × V)) (kvs : List (Key × V)) (g : List Nat → Option V), (∀ l, valV kvs (kS l) = g l) → ∀ l, valV (mergeK kvs (ps.map fun p => (kS p.1, p.2))) (kS l) = ps.foldl (fun g p => setT g p.1 p.2) g l
  | [], kvs, g, h, l => h l
  | p :: r, kvs, g, h, l => by
    refine merge_look r (putK kvs (kS p.1) p.2) (setT g p.1 p.2) (fun m => ?_) l
    rw [valV_put, h]
    unfold setT
    by_cases e : m = p.1
    · rw [if_pos e, if_pos (by rw [e])]
    · rw [if_neg e, if_neg (fun z => e (kS_inj.mp z))]
theorem i_dispT (ps : List (List Nat × V)) (h15 : ps.length ≤ 15) (q : ∀ p o, H p = none → TD 15 (upd H p o) p (lookT ps) → Q (.ref p) (upd H p o)) : tDisp (ps.map fun p => (tC (S p.1), tC p.2)) σ H Q := by
  intro p np
  refine pairs_const ps _ _ ⟨upd_same, ps.map fun p => (kS p.1, p.2), by rw [List.map_map]; rfl, by rw [List.length_map]; exact h15, ?_⟩
  rw [upd_upd]
  refine q p _ np ⟨_, upd_same, ?_, fun l => merge_look ps [] (fun _ => none) (fun _ => rfl) l⟩
  have := length_mergeK (ps.map fun p => (kS p.1, p.2)) []
  rw [List.length_map] at this
  exact Nat.le_trans this (by simpa using h15)
theorem i_dget1 (q : td σ H fun x H1 => ∃ a, x = .ref a ∧ IsD H1 a ∧ ty σ H1 fun y H2 => ∃ o, DGet H2 a y o ∧ Q (o.getD .non) H2) : tDGet1 td ty σ H Q := q
theorem td_isD (h : TD n H a g) : IsD H a := by
  obtain ⟨kvs, h1, _⟩ := h
  exact .inl ⟨kvs, .inl h1⟩
theorem td_get1 {P : Option V → Prop} (h : TD n H a g) (q : P (g l)) : ∃ o, DGet H a (S l) o ∧ P o := by
  obtain ⟨kvs, h1, h2, h3⟩ := h
  have := DGet.k (k := kS l) h1
  rw [h3] at this
  exact ⟨g l, this, q⟩
end
end Fg
/-! A datum == a text. -/
namespace Fg
open PySem PySem.Spec PyProof.Rows L2
def eqS : PyData → List Nat → Bool
  | .str x, l => decide (x.cps.toList = l)
  | _, _ => false
theorem eqS_str (m l : List Nat) : eqS (dS m) l = decide (m = l) := rfl
theorem strOk_small {l : List Nat} (h : ∀ c ∈ l, c < 0x110000) : PyData.strOk ⟨l.toArray⟩ = true := by
  show (⟨l.toArray⟩ : Str).cps.all (· < 0x110000) = true
  rw [Array.all_eq_true_iff_forall_mem]
  intro c hc
  exact decide_eq_true (h c (by simpa using hc))
theorem small_strOk {l : List Nat} (h : PyData.strOk ⟨l.toArray⟩ = true) : ∀ c ∈ l, c < 0x110000 := by
  have h' : (⟨l.toArray⟩ : Str).cps.all (· < 0x110000) = true := h
  rw [Array.all_eq_true_iff_forall_mem] at h'
  intro c hc
  exact of_decide_eq_true (h' c (by simpa using hc))
theorem eqS_no {d : PyData} {l : List Nat} (h : eqS d l = false) : d ≠ dS l := fun z => by
  rw [z, eqS_str, decide_eq_true rfl] at h
  cases h
theorem eqS_yes {d : PyData} {l : List Nat} (h : eqS d l = true) : d = dS l := by
  cases d with
  | str x =>
    have : x.cps.toList = l := of_decide_eq_true h
    subst this
    rfl
  | _ => cases h
section
variable {K : PySem.W.Frag} {H : Hp} {Q : VK} {v : V} {d : PyData} {l : List Nat}
theorem i_eqDS (h : At H v d) (c : d.canLay0 = true) (dp : d.depth ≤ 64) (ls : ∀ c ∈ l, c < 0x110000) (q : Q (.bl (eqS d l)) H) : eqP K v (S l) H Q := by
  have sh : SeqAt.shaped d = true := by
    unfold SeqAt.shaped
    rw [c, decide_eq_true dp]; rfl
  have sl : SeqAt.shaped (dS l) = true := by
    unfold SeqAt.shaped
    rw [Bool.and_eq_true]
    exact ⟨strOk_small ls, rfl⟩
  cases d with
  | str x =>
    obtain ⟨m, rfl, rfl, _⟩ := h.strl
    exact i_eq_str q
  | none => exact i_eq_data (h.dp K _ _ rfl) (.str _) sh sl (r := false) rfl q
  | bool b => exact i_eq_data (h.dp K _ _ rfl) (.str _) sh sl (r := false) rfl q
  | int i => exact i_eq_data (h.dp K _ _ rfl) (.str _) sh sl (r := false) rfl q
  | list ds =>
    have nd : (PyData.list ds).hasDict = false := PyData.hasDict_of_canLay _ c
    exact i_eq_data (h.dp K _ _ nd) (.str _) sh sl (r := false) rfl q
  | tuple ds =>
    have nd : (PyData.tuple ds).hasDict = false := PyData.hasDict_of_canLay _ c
    exact i_eq_data (h.dp K _ _ nd) (.str _) sh sl (r := false) rfl q
  | dict kvs => cases c
end
end Fg
/-! x in [texts] -/
namespace Fg
open PySem PySem.Spec PyProof.Rows L2
theorem eqV_S (m l : List Nat) : eqV (S m) (S l) = decide (m = l) := by
  show ((⟨m.toArray⟩ : Str) == ⟨l.toArray⟩) = _
  rw [Bool.eq_iff_iff]
  simp
theorem inV_S (l : List Nat) : ∀ ms : List (List Nat), inV (S l) (ms.map S) = decide (l ∈ ms)
  | [] => by simp [inV]
  | m :: r => by
    have ih := inV_S l r
    unfold inV at ih ⊢
    rw [List.map_cons, List.any_cons, ih, eqV_S, Bool.eq_iff_iff, Bool.or_eq_true, decide_eq_true_eq, decide_eq_true_eq, decide_eq_true_eq, List.mem_cons]
    exact ⟨fun h => h.imp_left Eq.symm, fun h => h.imp_left Eq.symm⟩
theorem flat_S : ∀ ms : List (List Nat), (ms.map S).all flatV = true
  | [] => rfl
  | m :: r => by rw [List.map_cons, List.all_cons, flat_S r]; rfl
section
variable {K : PySem.W.Frag} {H : Hp} {Q : VK} {p : Addr} {ms : List (List Nat)} {l : List Nat} {v : V}
theorem i_inS (h : H p = some (.lst (ms.map S))) (q : Q (.bl (decide (l ∈ ms))) H) : inP K (S l) (.ref p) H Q :=
  .inr ⟨p, _, rfl, .inl (.inl (.inl h)), rfl, flat_S ms, by rw [if_neg (by decide), inV_S]; exact q⟩
theorem i_ninS (h : H p = some (.lst (ms.map S))) (q : Q (.bl (!decide (l ∈ ms))) H) : notInP K (S l) (.ref p) H Q :=
  .inr ⟨p, _, rfl, .inl (.inl (.inl h)), rfl, flat_S ms, by rw [if_pos rfl, inV_S]; exact q⟩
end
end Fg
/-! [te for j in o], o an instance whose __iter__ walks a tuple. -/
namespace Fg
open PySem PySem.Spec PyProof.Rows L2
section
variable {K : PySem.W.Frag} {σ : L2.St} {A G : Hp} {Q : VK} {te tl : TE} {j : Nat} {p dx t C : Addr} {fs : List (Str × V)} {fl : Str} {xs : List V} {vs : List Nat}
theorem c_ownD {ds : List PyData} (sa : Same A G) (ha : ∀ R : VK, R (.ref p) G → tl σ G R) (hp : G p = some (.ins C dx fs)) (hl : fs.lookup fl = some (.ref t)) (hx : SqT K G t xs) (hd : AtAll A xs ds) (hn : xs.length ≤ 10000) (f : PyData → PyData) (hw : ∀ x, wipe ((wipe σ vs).set j (some x)) vs = wipe σ vs)
    (he : ∀ x d A1 G1, d ∈ ds → At A1 x d → Ext A G A1 G1 → ∀ QV : VK, (∀ A2 G2 v, Ext A1 G1 A2 G2 → At A2 v (f d) → QV v G2) → te ((wipe σ vs).set j (some x)) G1 QV)
    (q : ∀ Dl A1 G1 l, Ext A G A1 G1 → G1 Dl = some (.lst l) → A1 Dl = some (.lst l) → AtAll A1 l (ds.map f) → l.length = ds.length → Q (.ref Dl) G1) : tLc (iOwn K C fl tl) (gName j) tYes te vs σ G Q := by
  have hl' := hd.len
  have e1 : (List.range ds.length).map (fun i => f (ds.getD i .none)) = ds.map f := by
    refine List.ext_getElem? fun i => ?_
    rw [List.getElem?_map, List.getElem?_map]
    by_cases h : i < ds.length
    · rw [List.getElem?_range h, Option.map_some, List.getD_eq_getElem?_getD, List.getElem?_eq_getElem h]
      rfl
    · rw [List.getElem?_eq_none (by simpa using h), List.getElem?_eq_none (by omega)]
      rfl
  refine ha _ ⟨p, dx, fs, t, xs, rfl, hp, hl, hx, fun Dl nD => ?_⟩
  refine lc_tup (xs := xs) (Cw A G Dl fun i => f (ds.getD i .none)) (cw_start sa nD) (fun i H' hi p => ?_) (fun i x H' hi p => ?_) (fun H' p => ?_)
  · obtain ⟨_, _, _, x, _⟩ := p
    exact Same.tup x.gg hx
  · have hlt := (List.getElem?_eq_some_iff.mp hi).1
    obtain ⟨d, hd1, hd2⟩ := hd.get hi
    refine ⟨hw _, cw_turn p (by omega) fun A1 G1 y QV k => he x d A1 G1 (List.mem_of_getElem? hd1) (hd2.same y.aa) y QV fun A2 G2 v z hv => k A2 G2 v z ?_⟩
    rw [List.getD_eq_getElem?_getD, hd1]
    exact hv
  · rw [hl'] at p
    obtain ⟨A1, y, _, l, e, ea, al, ll⟩ := cw_end p sa (by omega)
    rw [e1] at al
    exact q Dl A1 H' l y e ea al ll
theorem i_ne_same {H : Hp} {x : Str} (q : Q (.bl false) H) : neP K (.str x) (.str x) H Q := by
  show neP K (S x.cps.toList) (S x.cps.toList) H Q
  refine i_ne_str ?_
  rw [decide_eq_true rfl]
  exact q
theorem i_eq_same {H : Hp} {x : Str} (q : Q (.bl true) H) : eqP K (.str x) (.str x) H Q := by
  show eqP K (S x.cps.toList) (S x.cps.toList) H Q
  refine i_eq_str ?_
  rw [decide_eq_true rfl]
  exact q
end
end Fg
/-! [line[:] for line in a list of lists]; data without lists, behind changes of lists. -/
namespace Fg
open PySem PySem.Spec PyProof.Rows L2
section
variable {K : PySem.W.Frag} {σ : L2.St} {A G H H' : Hp} {Q : VK} {te tl : TE} {j : Nat} {a : Addr} {xs : List V} {vs : List Nat}
def CpW (G : Hp) (ys : Nat → List V) (Dl : Addr) (i : Nat) (H' : Hp) : Prop := Same G H' ∧ ∃ l, H' Dl = some (.lst l) ∧ l.length = i ∧ ∀ k < i, ∃ c, l[k]? = some (.ref c) ∧ G c = none ∧ c ≠ Dl ∧ H' c = some (.lst (ys k))
theorem c_copy (ys : Nat → List V) (ha : ∀ R : VK, R (.ref a) G → tl σ G R) (hx : SqL K G a xs) (hn : xs.length ≤ 10000)
    (hl : ∀ i x, xs[i]? = some x → ∃ b, x = .ref b ∧ G b = some (.lst (ys i))) (hw : ∀ x, wipe ((wipe σ vs).set j (some x)) vs = wipe σ vs)
    (he : ∀ i b G1, xs[i]? = some (.ref b) → G1 b = some (.lst (ys i)) → ∀ QV : VK, (∀ p, G1 p = none → QV (.ref p) (upd G1 p (.lst (ys i)))) → te ((wipe σ vs).set j (some (.ref b))) G1 QV)
    (q : ∀ Dl G1 l, G Dl = none → Same G G1 → G1 Dl = some (.lst l) → l.length = xs.length → (∀ k < xs.length, ∃ c, l[k]? = some (.ref c) ∧ G c = none ∧ c ≠ Dl ∧ G1 c = some (.lst (ys k))) → Q (.ref Dl) G1) : tLc (iAny K tl) (gName j) tYes te vs σ G Q := by
  refine ha _ (.inl ⟨a, xs, rfl, hx, fun Dl nD => ?_⟩)
  refine lc_list (xs := xs) (CpW G ys Dl) ⟨same_upd nD, [], upd_same, rfl, fun k hk => absurd hk (Nat.not_lt_zero _)⟩ (fun i H' hi p => p.1.seq hx) (fun i x H' hi p => ?_) (fun H' p => ?_)
  · have hlt := (List.getElem?_eq_some_iff.mp hi).1
    obtain ⟨b, rfl, hb⟩ := hl i x hi
    refine ⟨hw _, i_yes ?_⟩
    rw [if_pos rfl]
    obtain ⟨s, l, hD, ll, hk⟩ := p
    refine he i b H' hi (s _ _ hb) _ fun p np => ?_
    have pD : Dl ≠ p := ne_of_none hD np
    refine ⟨l, (upd_ne pD).trans hD, by rw [ll]; exact Nat.lt_of_lt_of_le hlt (Nat.le_trans hn (by decide)), Same.upd (s.trans (same_upd np)) nD, l ++ [.ref p], upd_same, by rw [List.length_append, ll]; rfl, fun k hki => ?_⟩
    rcases Nat.lt_or_ge k i with h | h
    · obtain ⟨c, e1, e2, e3, e4⟩ := hk k h
      exact ⟨c, by rw [List.getElem?_append_left (by omega)]; exact e1, e2, e3, (upd_ne e3).trans ((upd_ne (ne_of_none e4 np)).trans e4)⟩
    · have : k = i := by omega
      subst this
      exact ⟨p, by rw [List.getElem?_append_right (by omega), ll, Nat.sub_self]; rfl, s.free np, pD.symm, (upd_ne pD.symm).trans upd_same⟩
  · obtain ⟨s, l, hD, ll, hk⟩ := p
    exact q Dl H' l nD s hD ll hk
theorem atAll_of : ∀ {l : List V} {ds : List PyData}, l.length = ds.length → (∀ (i : Nat) (v : V) (d : PyData), l[i]? = some v → ds[i]? = some d → At H v d) → AtAll H l ds
  | [], [], _, _ => .nil
  | v :: l, d :: ds, h, k => .cons (k 0 v d rfl rfl) (atAll_of (by simpa using h) fun i v d h1 h2 => k (i + 1) v d h1 h2)
  | [], _ :: _, h, _ => by simp at h
  | _ :: _, [], h, _ => by simp at h
/-- all tuples stay -/
def SmT (H H' : Hp) : Prop := ∀ b xs, H b = some (.tup xs) → H' b = some (.tup xs)
theorem Same.smT (s : Same H H') : SmT H H' := fun b xs e => s _ _ e
theorem SmT.trans {H'' : Hp} (s : SmT H H') (t : SmT H' H'') : SmT H H'' := fun b xs e => t _ _ (s _ _ e)
theorem SmT.put {p : Addr} {xs : List V} {o : HO} (e : H p = some (.lst xs)) : SmT H (upd H p o) := fun b ys h => by
  rw [upd_ne (fun z => by rw [z, e] at h; cases h)]
  exact h
mutual
def noL : PyData → Bool
  | .list _ => false
  | .dict _ => false
  | .tuple ds => noLs ds
  | .none => true
  | .bool _ => true
  | .int _ => true
  | .str _ => true
def noLs : List PyData → Bool
  | [] => true
  | d :: r => noL d && noLs r
end
theorem noLs_of : ∀ {ds : List PyData}, (∀ d ∈ ds, noL d = true) → noLs ds = true
  | [], _ => rfl
  | d :: r, h => by
    show (noL d && noLs r) = true
    rw [h d (List.mem_cons_self ..), noLs_of fun e he => h e (List.mem_cons_of_mem _ he)]
    rfl
mutual
theorem At.smT (s : SmT H H') : ∀ (d : PyData) (v : V), At H v d → noL d = true → At H' v d
  | .none, _, h, _ => by cases h; exact .non
  | .bool b, _, h, _ => by cases h; exact .bl b
  | .int i, _, h, _ => by cases h; exact .int i
  | .str x, _, h, _ => by
    cases h with
    | str l hl => exact .str l hl
  | .list ds, _, _, n => by cases n
  | .tuple ds, _, h, n => by
    cases h with
    | tup e l a => exact .tup (s _ _ e) l (AtAll.smT s ds _ a n)
  | .dict kvs, _, _, n => by cases n
theorem AtAll.smT (s : SmT H H') : ∀ (ds : List PyData) (vs : List V), AtAll H vs ds → noLs ds = true → AtAll H' vs ds
  | [], _, h, _ => by cases h; exact .nil
  | d :: ds, _, h, n => by
    have n' : (noL d && noLs ds) = true := n
    rw [Bool.and_eq_true] at n'
    cases h with
    | cons a b => exact .cons (At.smT s d _ a n'.1) (AtAll.smT s ds _ b n'.2)
end
theorem At.keep {v : V} {d : PyData} (h : At H v d) (s : SmT H H') (n : noL d = true) : At H' v d := At.smT s d v h n
theorem AtAll.keep {vs : List V} {ds : List PyData} (h : AtAll H vs ds) (s : SmT H H') (n : noLs ds = true) : AtAll H' vs ds := AtAll.smT s ds vs h n
/-- all but one -/
def wo (H : Hp) (p : Addr) : Hp := fun b => if b = p then none else H b
theorem wo_same {p : Addr} : wo H p p = none := if_pos rfl
theorem wo_ne {p b : Addr} (h : b ≠ p) : wo H p b = H b := if_neg h
theorem wo_sub {p : Addr} : Same (wo H p) H := fun b o e => by
  unfold wo at e
  split at e
  · cases e
  · exact e
theorem SmT.wo {p : Addr} {xs : List V} (e : H p = some (.lst xs)) : SmT H (wo H p) := fun b ys h => by
  rw [wo_ne (fun z => by rw [z, e] at h; cases h)]
  exact h
end
end Fg
namespace Fg
open PySem PySem.Spec PyProof.Rows L2
/-- all but p stands as it did -/
def But (p : Addr) (H H' : Hp) : Prop := ∀ b o, b ≠ p → H b = some o → H' b = some o
theorem But.refl (p : Addr) (H : Hp) : But p H H := fun _ _ _ e => e
theorem But.trans {p : Addr} {H H1 H2 : Hp} (a : But p H H1) (b : But p H1 H2) : But p H H2 := fun c o n e => b c o n (a c o n e)
theorem But.of {p : Addr} {H H' : Hp} (s : Same H H') : But p H H' := fun c o _ e => s c o e
theorem But.put {p : Addr} {H : Hp} {o : HO} : But p H (upd H p o) := fun c o' n e => by rw [upd_ne n]; exact e
theorem But.known {p : Addr} {A H H' : Hp} (h : But p H H') (s : Same A H) (n : A p = none) : Same A H' := fun b o e => h b o (ne_of_none e n) (s b o e)
end Fg
/-! A method called in a try. -/
namespace Fg
open PySem PySem.Spec PyProof.Rows L2
section
variable {X : Cx} {CX : CXT} {k : Nat} {C a dx : Addr} {m : Str} {ps : List Str} {sp : Sp} {ES : L2.St → XK} {dvs : List V} {o e : Expr} {es : List Expr} {to : TE} {ta : TA} {pos apos : PySem.Pos} {σ : L2.St} {H : Hp} {Q : VK} {fs : List (Str × V)}
def tMethS (C : Addr) (m : Str) (sp : Sp) (ES : L2.St → XK) (to : TE) (ta : TA) : TE := fun σ H Q => to σ H fun x H1 => ∃ a dx fs, x = .ref a ∧ H1 a = some (.ins C dx fs) ∧ fs.lookup m = none ∧ ta σ H1 fun vs H2 => sp (x :: vs) H2 Q (ES σ)
theorem pe_methS {pl : Sem Bool} (ho : PE X o to) (c : Cls X.K C) (G : MOK X.prog X.w X.K X.mg X.base CX k C m ps dvs sp) (hr : Room k X.A) (hx : ∀ σ, PassesAt CX X σ (ES σ)) (ha : PA X (e :: es) ta)
    (hst : starEach (e :: es) X.env = (false, eval e X.env) :: starEach es X.env := by rfl) (hpl : (backTo pos (starEach es X.env)).any (·.1) = false := by rfl)
    (ht : eval (.Call (.Attribute o m apos) (e :: es) [] pos) X.env = (do
      let ov ← eval o X.env
      standAt apos.atName
      let (f, first) ← holding [ov] (getMethod ov m pl)
      callWith pos f first (backTo pos (starEach (e :: es) X.env)) (backToKw pos (keywordEach [] X.env))) := by rfl) :
    PE X (.Call (.Attribute o m apos) (e :: es) [] pos) (tMethS C m sp ES to ta) := by
  obtain ⟨f, fd, hm, F, hb, _⟩ := G
  refine ⟨fun pins s σ H Q I h => ?_⟩
  refine PySem.W.methodCall_KW (pl := pl) (thn (ho.run pins s σ H _ I h) fun u s1 ⟨x, H1, I1, rx, a, dx, fs, ex, ea, l, q⟩ => ?_) ht
  subst ex
  obtain rfl : u = Value.ref a := rx
  refine getmeth_ok I1 ea c hm l ?_
  refine PySem.W.callWith_K (first := [.ref a]) (h₀ := X.base) I.ok.mod.kin hm.kp (thn (ha.run pos pins s1 σ H1 _ I1 q) fun us s2 ⟨vs, H2, I2, r, q2⟩ => ⟨I2.kIn, ?_⟩) hst hpl
  exact run_inS (us := .ref a :: us) (vs := .ref a :: vs) F hr rfl hb (hx σ) I2 (.cons rfl r) q2
theorem i_methS (q : to σ H fun x H1 => ∃ a dx fs, x = .ref a ∧ H1 a = some (.ins C dx fs) ∧ fs.lookup m = none ∧ ta σ H1 fun vs H2 => sp (x :: vs) H2 Q (ES σ)) : tMethS C m sp ES to ta σ H Q := q
end
end Fg
/-! xs[::-1] of lists and tuples. -/
namespace HT
open PySem PySem.W PySem.Calls PySem.Spec PyProof.Rows
section
variable {prog : Program} {w : World} {A : Around} {E : Value → Shared → Prop} {s : Shared}
theorem adjust_back (n : Nat) : Builtin.Slice.sliceAdjust none none (-1) (n : Int) = ((n : Int) - 1, -1) := by
  unfold Builtin.Slice.sliceAdjust
  rfl
theorem places_back (n : Nat) : Builtin.Slice.slicePlaces ((n : Int) - 1) (-1) (-1) = n := by
  unfold Builtin.Slice.slicePlaces
  have h1 : ¬ ((-1 : Int) > 0) := by omega
  have e : ((n : Int) - 1 - -1 - 1) / (- -1) = (n : Int) - 1 := by
    rw [show (- -1 : Int) = 1 by decide, Int.ediv_one]
    omega
  simp only [h1, if_false, e]
  split <;> omega
theorem fm_congr {α β : Type} {f g : α → Option β} : ∀ {l : List α}, (∀ x ∈ l, f x = g x) → l.filterMap f = l.filterMap g
  | [], _ => rfl
  | x :: r, h => by
    rw [List.filterMap_cons, List.filterMap_cons, h x (List.mem_cons_self ..), fm_congr fun y hy => h y (List.mem_cons_of_mem _ hy)]
theorem sliceApplied_back {sl : Addr} {vs : Value} {n : Nat} {Q : Int × Int × Nat → Shared → Prop} (hs : s.heap.IsSliceOf sl .none .none vs) (ps : IsPart vs (some (-1)))
    (h : Q ((n : Int) - 1, -1, n) s) : wpAny (model prog w) A (Builtin.Slice.sliceApplied (.ref sl) (pure (n : Int))) Q E s := by
  obtain ⟨os, hos, hcs, hds⟩ := id hs
  unfold Builtin.Slice.sliceApplied Builtin.Slice.sliceFields
  refine wpAny_bind (wpAny_bind (wpAny_field hos hds (x := .none) rfl (wpAny_bind (wpAny_field hos hds (x := .none) rfl (wpAny_bind (wpAny_field hos hds (x := vs) rfl (wpAny_pure ?_)))))))
  refine wpAny_bind (slicePart_ ps ?_)
  show wpAny _ _ (if ((-1 : Int) == 0) = true then _ else _) _ _ s
  rw [if_neg (by decide)]
  refine wpAny_bind (slicePart_none (wpAny_bind (slicePart_none (wpAny_bind (wpAny_pure ?_)))))
  show wpAny _ _ (match Builtin.Slice.sliceAdjust none none (-1) (n : Int) with | (lo, hi) => pure (lo, (-1 : Int), Builtin.Slice.slicePlaces lo hi (-1))) _ _ s
  rw [adjust_back n]
  show wpAny _ _ (pure ((n : Int) - 1, (-1 : Int), Builtin.Slice.slicePlaces ((n : Int) - 1) (-1) (-1))) _ _ s
  rw [places_back]
  exact wpAny_pure h
theorem pick_back (xs : Array Value) : ((List.range xs.size).filterMap fun (m : Nat) => xs[(((xs.size : Nat) : Int) - 1 + (m : Int) * (-1)).toNat]?).toArray = xs.toList.reverse.toArray := by
  have e : (List.range xs.size).filterMap (fun (m : Nat) => xs[(((xs.size : Nat) : Int) - 1 + (m : Int) * (-1)).toNat]?) = ((List.range xs.size).map fun k => xs.size - 1 - k).filterMap (xs[·]?) := by
    rw [List.filterMap_map]
    refine fm_congr fun m hm => ?_
    have := List.mem_range.mp hm
    show xs[_]? = xs[xs.size - 1 - m]?
    congr 1
    omega
  rw [e, krv_range, List.filterMap_reverse, krv_all]
theorem getItem_tuple_back {t sl : Addr} {items : Array Value} {vs : Value} {Q : Value → Shared → Prop} (ht : IsTup s.heap t items) (hs : s.heap.IsSliceOf sl .none .none vs) (ps : IsPart vs (some (-1)))
    (h : Q (.ref s.heap.objs.size) { s with heap := s.heap.push { cls := .type "tuple", data := .seq items.toList.reverse.toArray } })
    (hsz : items.size ≤ sizeLine) : wpAny (model prog w) A (getItem (.ref t) (.ref sl)) Q E s := by
  have htake : sizeOk (.seq items.toList.reverse.toArray) := by
    show items.toList.reverse.toArray.size ≤ sizeLine
    rw [List.size_toArray, List.length_reverse, Array.length_toList]
    omega
  obtain ⟨os, hos, hcs, hds⟩ := id hs
  have hTs : s.TypeIs (.ref sl) "slice" := ⟨os, hos, hcs⟩
  unfold getItem
  try with_reducible refine wpAny_holding ?_
  first | refine wpAny_bind (wpAny_pure ?_) | skip
  refine wpAny_bind (wpAny_sequenceKey ht.typeIs (by decide) ?_)
  refine wpAny_bind (wpAny_callSpecial?_slot (name := Str.ofString "__getitem__") ht.typeIs PyProof.Rows.slot_tuple_getitem
    (wpAny_call_entry PyProof.Rows.slot_tuple_getitem ht.typeIs entry_tuple_getitem ?_ (args_tuple_getitem _ _)))
  show wpAny _ _ (Builtin.Tuple.tupleItemsOf (.ref t) >>= _) _ _ s
  refine wpAny_bind (tupleItemsOf_ ht ?_)
  refine wpAny_bind (wpAny_typeOf hTs ?_)
  rw [if_pos (by decide)]
  refine wpAny_bind (sliceApplied_back hs ps ?_)
  have hno : ¬ ((((items.size : Int) - 1) == 0 && (-1 : Int) == 1 && items.size == items.size) = true) := by
    intro q
    rw [Bool.and_eq_true, Bool.and_eq_true] at q
    exact absurd q.1.2 (by decide)
  show wpAny _ _ (if (((items.size : Int) - 1) == 0 && (-1 : Int) == 1 && items.size == items.size) = true then _ else _) _ _ s
  rw [if_neg hno, pick_back]
  first
    | exact wpAny_bind (m := Builtin.Tuple.tupleExact _) (wpAny_newObj_type (wpAny_pure ⟨_, rfl, wpAny_pure h⟩) htake)
    | exact wpAny_bind (m := Builtin.Tuple.tupleExact _) (wpAny_newObj_type (wpAny_bind (wpAny_pure (wpAny_pure ⟨_, rfl, wpAny_pure h⟩))) htake)
    | exact wpAny_bind (wpAny_bind (m := Builtin.Tuple.tupleExact _) (wpAny_newObj_type (wpAny_pure (wpAny_pure ⟨_, rfl, wpAny_pure h⟩)) htake))
    | exact wpAny_bind (wpAny_bind (m := Builtin.Tuple.tupleExact _) (wpAny_newObj_type (wpAny_pure ⟨_, rfl, wpAny_pure h⟩) htake))
end
end HT
namespace Fg
open PySem PySem.Spec PyProof.Rows L2
theorem Vals.rev : ∀ {xs : List V} {us : List Value}, Vals xs us → Vals xs.reverse us.reverse
  | _, _, .nil => .nil
  | x :: xs, u :: us, .cons a b => by
    rw [List.reverse_cons, List.reverse_cons]
    exact (Vals.rev b).append (.cons a .nil)
section
variable {X : Cx} (K : PySem.W.Frag) {e st : Expr} {te : TE} {p2 pos : PySem.Pos}
def tRev (K : PySem.W.Frag) (te : TE) : TE := fun σ H Q => te σ H fun x H1 => (∃ a xs, x = .ref a ∧ SqL K H1 a xs ∧ ∀ p, H1 p = none → Q (.ref p) (upd H1 p (.lst xs.reverse))) ∨ (∃ a xs, x = .ref a ∧ SqT K H1 a xs ∧ ∀ p, H1 p = none → Q (.ref p) (upd H1 p (.tup xs.reverse)))
theorem pe_rev (he : PE X e te) (hst : PO X (some st) (tPart (tUn (rU fun i => .int (-i)) (tC (.int 1))))) (hK : X.K = K := by rfl) : PE X (.Subscript e (.Slice none none (some st) p2) pos) (tRev K te) := by
  subst hK
  refine ⟨fun pins s σ H Q I h => ?_⟩
  refine Subscript_ (thn (he.run pins s σ H _ I h) fun v s1 ⟨x, H1, I1, r1, q1⟩ => ?_)
  refine wpAny_Slice ?_
  rw [evalPart_none]
  refine wpAny_pure ?_
  refine wpAny_pure ?_
  refine thn (hst.run pins s1 σ H1 (fun o H' => o = some (-1) ∧ H' = H1) I1 ⟨1, rfl, -1, rfl, rfl, rfl⟩) fun vs s2 ⟨o, H2, I2, ps, e1, e2⟩ => ?_
  subst e1 e2
  have I3 : Inv X pins σ H2 { s2 with heap := s2.heap.push { cls := .type "slice", data := .fields #[.none, .none, vs] } } := I2.kept (t' := s2.toks) fun b ob q => Heap.get?_push_of_some _ q
  have hs : ({ s2 with heap := s2.heap.push { cls := .type "slice", data := .fields #[.none, .none, vs] } } : Shared).heap.IsSliceOf s2.heap.objs.size .none .none vs := Heap.IsSliceOf.new ..
  generalize ({ s2 with heap := s2.heap.push { cls := .type "slice", data := .fields #[.none, .none, vs] } } : Shared) = s3 at *
  generalize s2.heap.objs.size = sl at *
  show wpAny (model X.prog X.w) X.A (subscriptTail e (.Slice none none (some st) p2) v (.ref sl)) (EP X pins σ Q) X.xe s3
  rcases q1 with ⟨a, xs, rfl, hx, q⟩ | ⟨a, xs, rfl, hx, q⟩
  · cases r1
    obtain ⟨its, r, ht, hz⟩ := I3.list hx
    refine tail_any (ops := [.ref a, .ref sl]) ht.isList.typeIs slot_list_getitem.lookup ?_ (by with_unfolding_all rfl)
    have hlen := r.length
    refine wpAny_getItem_list_slice ht.isList hs .none .none ps (by decide) ?_ (by rw [List.size_toArray]; omega)
    rw [PySem.W.krv_pick]
    refine ⟨.ref s3.heap.objs.size, _, I3.laid (t' := s3.toks) (o := .lst xs.reverse) (fun b ob q => Heap.get?_push_of_some _ q) (Nat.le_refl _) ?_, rfl, q _ (I3.hok.fresh (Nat.le_refl _))⟩
    exact ⟨by rw [List.length_reverse]; exact hz, _, 0, Vals.rev r, Heap.get?_push_size _ rfl⟩
  · cases r1
    obtain ⟨its, r, ht, hz⟩ := I3.tuple hx
    refine tail_any (ops := [.ref a, .ref sl]) ht.typeIs PyProof.Rows.slot_tuple_getitem.lookup ?_ (by with_unfolding_all rfl)
    have hlen := r.length
    refine HT.getItem_tuple_back ht hs ps ?_ (by rw [List.size_toArray]; omega)
    refine ⟨.ref s3.heap.objs.size, _, I3.laid (t' := s3.toks) (o := .tup xs.reverse) (fun b ob q => Heap.get?_push_of_some _ q) (Nat.le_refl _) ?_, rfl, q _ (I3.hok.fresh (Nat.le_refl _))⟩
    exact ⟨by rw [List.length_reverse]; exact hz, _, Vals.rev r, IsTup.new _ _⟩
end
section
variable {K : PySem.W.Frag} {σ : L2.St} {H : Hp} {Q : VK} {te : TE} {a : Addr} {xs : List V} {B : Prop}
theorem i_rev (q : te σ H fun x H1 => (∃ a xs, x = .ref a ∧ SqL K H1 a xs ∧ ∀ p, H1 p = none → Q (.ref p) (upd H1 p (.lst xs.reverse))) ∨ (∃ a xs, x = .ref a ∧ SqT K H1 a xs ∧ ∀ p, H1 p = none → Q (.ref p) (upd H1 p (.tup xs.reverse)))) : tRev K te σ H Q := q
theorem i_revL {P : List V → Prop} (h : SqL K H a xs) (q : P xs) : (∃ a' xs', V.ref a = .ref a' ∧ SqL K H a' xs' ∧ P xs') ∨ B := .inl ⟨a, xs, rfl, h, q⟩
theorem i_revT {P : List V → Prop} (h : SqT K H a xs) (q : P xs) : B ∨ (∃ a' xs', V.ref a = .ref a' ∧ SqT K H a' xs' ∧ P xs') := .inr ⟨a, xs, rfl, h, q⟩
end
end Fg
namespace Fg
open PySem PySem.Spec PyProof.Rows L2
/-! ### the words of a line -/
def wrds (x : Str) : List (List Nat) := (Txt.split x ⟨#[32]⟩).map fun y => y.cps.toList
theorem words_V (x : Str) : (Txt.split x ⟨#[32]⟩).map V.str = (wrds x).map S := by
  unfold wrds
  rw [List.map_map]
  exact List.map_congr_left fun y _ => rfl
theorem words_pos (x : Str) : 1 ≤ (wrds x).length := by
  unfold wrds
  rw [List.length_map]
  unfold Txt.split
  split
  · exact Nat.le_refl _
  · split
    · exact Nat.le_refl _
    · rw [len_partsBetween]; omega
theorem words_many (x : Str) : (wrds x).length ≤ x.length + 2 := by
  unfold wrds
  rw [List.length_map]
  exact split_le x _
theorem words_len {x : Str} {w : List Nat} (h : w ∈ wrds x) : w.length ≤ x.length := by
  unfold wrds at h
  obtain ⟨y, hy, rfl⟩ := List.mem_map.mp h
  have hyl : y.length ≤ x.length := by
    unfold Txt.split at hy
    split at hy
    · rw [List.mem_singleton.mp hy]; exact Nat.le_refl _
    · split at hy
      · rw [List.mem_singleton.mp hy]; exact Nat.le_refl _
      · unfold Builtin.Str.partsBetween at hy
        obtain ⟨p, hp, rfl⟩ := List.mem_map.mp hy
        exact le_strSub x _ _
  simpa [Str.length] using hyl
theorem joinL_eq (sep : List Nat) : ∀ ls : List (List Nat), ls ≠ [] → (TL.joinL sep ls).length + sep.length = (ls.map List.length).sum + ls.length * sep.length
  | [], h => absurd rfl h
  | [p], _ => by
    show p.length + sep.length = _
    simp
  | p :: q :: r, _ => by
    have ih := joinL_eq sep (q :: r) (by simp)
    show (p ++ (sep ++ TL.joinL sep (q :: r))).length + sep.length = _
    rw [List.length_append, List.length_append, List.map_cons, List.sum_cons, List.length_cons (a := p), Nat.add_mul, Nat.one_mul]
    omega
theorem words_join (x : Str) : TL.joinL [32] (wrds x) = x.cps.toList := by
  have h := TL.tl_join ⟨#[32]⟩ (Txt.split x ⟨#[32]⟩)
  rw [StrLaws.join_split] at h
  exact h.symm
theorem words_sum (l : List Nat) : ((wrds ⟨l.toArray⟩).map List.length).sum + (wrds ⟨l.toArray⟩).length = l.length + 1 := by
  have hp := words_pos ⟨l.toArray⟩
  have h := joinL_eq [32] (wrds ⟨l.toArray⟩) (fun z => by rw [z] at hp; exact absurd hp (by decide))
  rw [words_join] at h
  have e : (l.toArray.toList).length = l.length := by simp
  have e2 : (⟨l.toArray⟩ : Str).cps.toList.length = l.length := e
  rw [e2] at h
  have e3 : ([32] : List Nat).length = 1 := rfl
  rw [e3] at h
  omega
/-! ### words read by forms -/
section
variable {F : Type} (fm : F → List Nat → Option PyData)
/-- the words from place k on, by their forms: the data behind those there are, or the first place that cannot stand -/
def rdk (ws : List (List Nat)) : Nat → List PyData → List F → List PyData ⊕ Nat
  | k, dn, [] => if k < ws.length then .inr k else .inl dn
  | k, dn, f :: fs => if k < ws.length then (match fm f (ws.getD k []) with
      | some d => rdk ws (k + 1) (dn ++ [d]) fs
      | none => .inr k) else .inr ws.length
def readLn (forms : List Nat → Option (List F)) : PyData → List PyData ⊕ Nat
  | .str z => (match forms ((wrds z).getD 0 []) with
      | none => .inr 0
      | some fs => rdk fm (wrds z) 1 [dS ((wrds z).getD 0 [])] fs)
  | _ => .inr 0
def rdW (forms : List Nat → Option (List F)) (ws : List (List Nat)) : List PyData ⊕ Nat := match forms (ws.getD 0 []) with
  | none => .inr 0
  | some fs => rdk fm ws 1 [dS (ws.getD 0 [])] fs
theorem readLn_W (forms : List Nat → Option (List F)) (z : Str) : readLn fm forms (.str z) = rdW fm forms (wrds z) := rfl
theorem rdW_none {forms : List Nat → Option (List F)} {ws : List (List Nat)} (h : forms (ws.getD 0 []) = none) : rdW fm forms ws = .inr 0 := by
  unfold rdW; rw [h]
theorem rdW_some {forms : List Nat → Option (List F)} {ws : List (List Nat)} {fs : List F} (h : forms (ws.getD 0 []) = some fs) : rdW fm forms ws = rdk fm ws 1 [dS (ws.getD 0 [])] fs := by
  unfold rdW; rw [h]
theorem readLn_str (forms : List Nat → Option (List F)) (z : Str) : readLn fm forms (.str z) = (match forms ((wrds z).getD 0 []) with
      | none => .inr 0
      | some fs => rdk fm (wrds z) 1 [dS ((wrds z).getD 0 [])] fs) := rfl
variable {fm} {ws : List (List Nat)} {k : Nat} {dn : List PyData} {f : F} {fs : List F}
theorem rdk_end : rdk fm ws k dn [] = if k < ws.length then .inr k else .inl dn := rfl
theorem rdk_short (h : ¬ k < ws.length) : rdk fm ws k dn (f :: fs) = .inr ws.length := by
  unfold rdk; rw [if_neg h]
theorem rdk_bad (h : k < ws.length) (e : fm f (ws.getD k []) = none) : rdk fm ws k dn (f :: fs) = .inr k := by
  unfold rdk; rw [if_pos h, e]
theorem rdk_ok {d : PyData} (h : k < ws.length) (e : fm f (ws.getD k []) = some d) : rdk fm ws k dn (f :: fs) = rdk fm ws (k + 1) (dn ++ [d]) fs := by
  rw [show rdk fm ws k dn (f :: fs) = if k < ws.length then (match fm f (ws.getD k []) with
      | some d => rdk fm ws (k + 1) (dn ++ [d]) fs
      | none => .inr k) else .inr ws.length from rfl, if_pos h, e]
/-- what is read has the length of the forms, each thing by its form -/
theorem rdk_all {es : List PyData} {P : PyData → Prop} (hp : ∀ f w d, fm f w = some d → P d) : ∀ {fs : List F} {k : Nat} {dn : List PyData}, rdk fm ws k dn fs = .inl es → (∀ d ∈ dn, P d) → (∀ d ∈ es, P d) ∧ es.length = dn.length + fs.length ∧ ws.length ≤ k + fs.length
  | [], k, dn, h, hd => by
    rw [rdk_end] at h
    split at h
    · cases h
    · cases h
      exact ⟨hd, rfl, by rw [List.length_nil]; omega⟩
  | f :: fs, k, dn, h, hd => by
    by_cases hk : k < ws.length
    · cases e : fm f (ws.getD k []) with
      | none => rw [rdk_bad hk e] at h; cases h
      | some d =>
        rw [rdk_ok hk e] at h
        obtain ⟨a, b, c⟩ := rdk_all hp h fun x hx => by
          rcases List.mem_append.mp hx with hx | hx
          · exact hd x hx
          · rw [List.mem_singleton.mp hx]; exact hp f _ d e
        exact ⟨a, by rw [b]; simp only [List.length_append, List.length_cons, List.length_nil]; omega, by rw [List.length_cons]; omega⟩
    · rw [rdk_short hk] at h; cases h
end
section
variable {F : Type} {fm : F → List Nat → Option PyData} {ws : List (List Nat)}
inductive Frm (fm : F → List Nat → Option PyData) : List F → List PyData → Prop
  | nil : Frm fm [] []
  | cons {f : F} {fs : List F} {d : PyData} {ds : List PyData} (w : List Nat) (e : fm f w = some d) (h : Frm fm fs ds) : Frm fm (f :: fs) (d :: ds)
theorem rdk_inv {es : List PyData} : ∀ {fs : List F} {k : Nat} {dn : List PyData}, rdk fm ws k dn fs = .inl es → ∃ ds, es = dn ++ ds ∧ Frm fm fs ds
  | [], k, dn, h => by
    rw [rdk_end] at h
    split at h
    · cases h
    · cases h; exact ⟨[], (List.append_nil _).symm, .nil⟩
  | f :: fs, k, dn, h => by
    by_cases hk : k < ws.length
    · cases e : fm f (ws.getD k []) with
      | none => rw [rdk_bad hk e] at h; cases h
      | some d =>
        rw [rdk_ok hk e] at h
        obtain ⟨ds, h1, h2⟩ := rdk_inv h
        exact ⟨d :: ds, by rw [h1, List.append_assoc]; rfl, .cons _ e h2⟩
    · rw [rdk_short hk] at h; cases h
end
/-! ### all lines -/
def readAll (readLn : PyData → List PyData ⊕ Nat) : List PyData → Nat → List PyData ⊕ (Nat × Nat)
  | [], _ => .inl []
  | d :: r, n => match readLn d with
    | .inr e => .inr (n, e)
    | .inl es => match readAll readLn r (n + 1) with
      | .inl ws => .inl (.tuple es :: ws)
      | .inr p => .inr p
def comb (ws : List PyData) : List PyData ⊕ (Nat × Nat) → List PyData ⊕ (Nat × Nat)
  | .inl r => .inl (ws ++ r)
  | .inr p => .inr p
theorem readAll_turn {readLn : PyData → List PyData ⊕ Nat} {ds ws es : List PyData} {n : Nat} {d : PyData} (h : readAll readLn ds 0 = comb ws (readAll readLn (ds.drop n) n)) (hd : ds[n]? = some d) (e : readLn d = .inl es) : readAll readLn ds 0 = comb (ws ++ [.tuple es]) (readAll readLn (ds.drop (n + 1)) (n + 1)) := by
  obtain ⟨hn, e1⟩ := List.getElem?_eq_some_iff.mp hd
  rw [h, List.drop_eq_getElem_cons hn, e1]
  show comb ws (match readLn d with | .inr e => .inr (n, e) | .inl es => match readAll readLn (ds.drop (n + 1)) (n + 1) with | .inl ws => .inl (.tuple es :: ws) | .inr p => .inr p) = _
  rw [e]
  show comb ws (match readAll readLn (ds.drop (n + 1)) (n + 1) with | .inl ws => .inl (.tuple es :: ws) | .inr p => .inr p) = _
  cases readAll readLn (ds.drop (n + 1)) (n + 1) with
  | inl r => show Sum.inl _ = Sum.inl _; rw [List.append_assoc]; rfl
  | inr p => rfl
theorem readAll_bad {readLn : PyData → List PyData ⊕ Nat} {ds ws : List PyData} {n e : Nat} {d : PyData} (h : readAll readLn ds 0 = comb ws (readAll readLn (ds.drop n) n)) (hd : ds[n]? = some d) (e1 : readLn d = .inr e) : readAll readLn ds 0 = .inr (n, e) := by
  obtain ⟨hn, e2⟩ := List.getElem?_eq_some_iff.mp hd
  rw [h, List.drop_eq_getElem_cons hn, e2]
  show comb ws (match readLn d with | .inr e => .inr (n, e) | .inl es => match readAll readLn (ds.drop (n + 1)) (n + 1) with | .inl ws => .inl (.tuple es :: ws) | .inr p => .inr p) = _
  rw [e1]
  rfl
theorem depthAll_le {k : Nat} : ∀ {ws : List PyData}, (∀ w ∈ ws, w.depth ≤ k) → PyData.depthAll ws ≤ k
  | [], _ => Nat.zero_le _
  | w :: r, h => Nat.max_le.mpr ⟨h w (List.mem_cons_self ..), depthAll_le fun x hx => h x (List.mem_cons_of_mem _ hx)⟩
end Fg
/-! Lines of text of data: " ".join([str(part) for part in line]). -/
namespace Fg
open PySem PySem.Spec PyProof.Rows L2
/-- the text of a word -/
def txD : PyData → List Nat
  | .int i => dec i.toNat
  | .str x => x.cps.toList
  | _ => []
def okT : PyData → Prop
  | .int i => 0 ≤ i ∧ i < 100
  | .str x => x.cps.toList.length ≤ 100
  | _ => False
def lineD (ds : List PyData) : List Nat := TL.joinL [32] (ds.map txD)
theorem okT_len {d : PyData} (h : okT d) : (txD d).length ≤ 100 := by
  cases d with
  | int i => exact Nat.le_trans (dec_len _) (by decide)
  | str x => exact h
  | _ => exact h.elim
theorem strs_of {H : Hp} : ∀ {ts : List (List Nat)} {l : List V}, AtAll H l (ts.map dS) → l = ts.map S
  | [], _, h => by cases h; rfl
  | t :: r, _, h => by
    cases h with
    | cons h1 h2 =>
      rw [List.map_cons, ← strs_of h2, h1.strd]
      all_goals rfl
theorem joinL_bound (sep : List Nat) : ∀ ls : List (List Nat), (TL.joinL sep ls).length ≤ (ls.map List.length).sum + ls.length * sep.length
  | [] => Nat.zero_le _
  | [p] => by simp [TL.joinL]
  | p :: q :: r => by
    have := joinL_bound sep (q :: r)
    show (p ++ (sep ++ TL.joinL sep (q :: r))).length ≤ _
    rw [List.length_append, List.length_append, List.map_cons, List.sum_cons, List.length_cons, Nat.succ_mul]
    omega
theorem tx_sum : ∀ ds : List PyData, (∀ d ∈ ds, okT d) → ((ds.map txD).map List.length).sum ≤ 100 * ds.length
  | [], _ => Nat.le_refl _
  | d :: r, h => by
    have h1 := okT_len (h d (List.mem_cons_self ..))
    have h2 := tx_sum r fun e he => h e (List.mem_cons_of_mem _ he)
    rw [List.map_cons, List.map_cons, List.sum_cons, List.length_cons]
    omega
theorem i_strPt {v : V} {d : PyData} {H : Hp} {Q : VK} (ok : okT d) (hy : At H v d) (q : Q (S (txD d)) H) : rStrP [v] H Q := by
  cases d with
  | int i =>
    obtain rfl := hy.intd
    obtain ⟨n, rfl⟩ := Int.eq_ofNat_of_zero_le ok.1
    have hn : n < 100 := by have := ok.2; omega
    refine .inl ⟨(n : Int), rfl, ?_, ?_⟩
    · have h1 : (n : Int).natAbs = n := rfl
      rw [h1]
      rcases Nat.eq_zero_or_pos n with z | z
      · rw [z]; decide
      · have := Nat.log2_lt (by omega : n ≠ 0) |>.mpr (show n < 2 ^ 1920 from Nat.lt_of_lt_of_le hn (by
          have : (2:Nat) ^ 7 ≤ 2 ^ 1920 := Nat.pow_le_pow_right (by decide) (by decide)
          omega))
        exact this
    · have e : V.str (toString (n : Int)) = S (dec n) := by unfold S; rw [dec_str n hn]
      rw [e]
      exact q
  | str x =>
    obtain ⟨l, rfl, rfl, hl0⟩ := hy.strl
    exact .inr ⟨_, rfl, q⟩
  | _ => exact ok.elim
theorem line_len1 {ds : List PyData} (h : ∀ d ∈ ds, okT d) : (lineD ds).length ≤ 101 * ds.length := by
  have h1 := tx_sum ds h
  have h5 := joinL_bound [32] (ds.map txD)
  rw [List.length_map] at h5
  have h6 : ds.length * [32].length = ds.length := Nat.mul_one _
  unfold lineD
  omega
theorem wrds_join {ls : List (List Nat)} (h : ls ≠ []) (hs : ∀ l ∈ ls, 32 ∉ l) : wrds ⟨(TL.joinL [32] ls).toArray⟩ = ls := by
  unfold wrds
  rw [← join_sep]
  have e : Txt.split (Txt.join ⟨([32] : List Nat).toArray⟩ (ls.map fun l => (⟨l.toArray⟩ : Str))) ⟨#[32]⟩ = ls.map fun l => (⟨l.toArray⟩ : Str) := by
    refine TL.split_join (y := ⟨#[32]⟩) (s := 32) (S := []) rfl (by decide +kernel) (fun z => h (List.map_eq_nil_iff.mp z)) fun p hp => ?_
    obtain ⟨l, hl, rfl⟩ := List.mem_map.mp hp
    have := hs l hl
    simpa [TL.tl] using this
  rw [e, List.map_map]
  have : ls.map ((fun y : Str => y.cps.toList) ∘ fun l => (⟨l.toArray⟩ : Str)) = ls.map id := List.map_congr_left fun l _ => rfl
  rw [this, List.map_id]
theorem cutV_to' {ws : List (List Nat)} (p : Nat) : cutV (ws.map S) none (some (p : Int)) = (ws.take p).map S := by
  rw [cutV_to, List.map_take]
theorem cutV_fr {xs : List V} (k : Nat) : cutV xs (some (k : Int)) none = xs.drop k := by
  unfold cutV
  rw [HT.sIx_nat, HT.sIx_none]
  by_cases hk : k ≤ xs.length
  · rw [Nat.min_eq_left hk]
    exact List.take_of_length_le (by rw [List.length_drop]; omega)
  · rw [Nat.min_eq_right (by omega), Nat.sub_self, List.take_zero, List.drop_of_length_le (by omega)]
theorem cutV_fr' {ws : List (List Nat)} (p : Nat) : cutV (ws.map S) (some (p : Int)) none = (ws.drop p).map S := by
  rw [cutV_fr, List.map_drop]
theorem sum_cut (ws : List (List Nat)) (p q : Nat) (h : p ≤ q) : ((ws.take p).map List.length).sum + ((ws.drop q).map List.length).sum ≤ (ws.map List.length).sum := by
  have e : (ws.map List.length).sum = ((ws.take p).map List.length).sum + ((ws.drop p).map List.length).sum := by
    rw [← List.sum_append, ← List.map_append, List.take_append_drop]
  have e2 : ws.drop q = (ws.drop p).drop (q - p) := by rw [List.drop_drop]; congr 1; omega
  have e3 : ((ws.drop p).map List.length).sum = (((ws.drop p).take (q - p)).map List.length).sum + (((ws.drop p).drop (q - p)).map List.length).sum := by
    rw [← List.sum_append, ← List.map_append, List.take_append_drop]
  rw [e, e2, e3]
  omega
theorem i_yes' {c : Prop} [Decidable c] {A B : Prop} (h : c) (q : A) : if decide c = true then A else B := by rw [decide_eq_true h, if_pos rfl]; exact q
theorem i_no' {c : Prop} [Decidable c] {A B : Prop} (h : ¬ c) (q : B) : if decide c = true then A else B := by rw [decide_eq_false h, if_neg (by decide)]; exact q
end Fg
/-! A number in a list of numbers. -/
namespace Fg
open PySem PySem.Spec PyProof.Rows L2
theorem eqV_I (m l : Int) : eqV (.int m) (.int l) = decide (m = l) := by
  show (m == l) = _
  rw [Bool.beq_eq_decide_eq]
theorem inV_I (l : Int) : ∀ ms : List Int, inV (.int l) (ms.map V.int) = decide (l ∈ ms)
  | [] => by simp [inV]
  | m :: r => by
    have ih := inV_I l r
    unfold inV at ih ⊢
    rw [List.map_cons, List.any_cons, ih, eqV_I, Bool.eq_iff_iff, Bool.or_eq_true, decide_eq_true_eq, decide_eq_true_eq, decide_eq_true_eq, List.mem_cons]
    exact ⟨fun h => h.imp_left Eq.symm, fun h => h.imp_left Eq.symm⟩
theorem flat_I : ∀ ms : List Int, (ms.map V.int).all flatV = true
  | [] => rfl
  | m :: r => by rw [List.map_cons, List.all_cons, flat_I r]; rfl
section
variable {K : PySem.W.Frag} {H : Hp} {Q : VK} {p : Addr} {ms : List Int} {l : Int}
theorem i_inI (h : H p = some (.lst (ms.map V.int))) (q : Q (.bl (decide (l ∈ ms))) H) : inP K (.int l) (.ref p) H Q :=
  .inr ⟨p, _, rfl, .inl (.inl (.inl h)), rfl, flat_I ms, by rw [if_neg (by decide), inV_I]; exact q⟩
end
end Fg
/-! Look-outs in plain Lean: step by step (arr, led, prun), and line by line (spk); both tell the same. -/
namespace Fg
inductive Od where
  | wait (s : List Nat) (n : Nat)
  | count (s t : List Nat) (n : Nat)
  | pass (n : Nat)
  | more (n l : Nat)
  | last (s : List Nat) (l : Nat)
  | go (l : Nat)
  | name (w : List Nat)
  | skip
/-- (line, beats, inside, count, last), or the end with a word (none: nothing was said) -/
inductive Sit where
  | at (line beats inside cnt : Nat) (l : Option Nat)
  | over (w : Option (List Nat))
def jmp : Od → Nat → Option Nat → Option Nat
  | .more n l, c, _ => if n ≤ c then some l else none
  | .last s l, _, some x => if x ∈ s then some l else none
  | .go l, _, _ => some l
  | _, _, _ => none
def beatL : Od → Option Nat
  | .wait _ _ => some 0
  | .count _ _ _ => some 0
  | .pass n => some n
  | _ => none
def cnt0 : Od → Nat → Nat
  | .count _ _ _, _ => 0
  | _, c => c
def arr (os : List Od) : Nat → List Nat → Nat → Nat → Option Nat → Sit
  | 0, _, _, _, _ => .over none
  | f + 1, been, line, c, l => match os[line]? with
    | none => .over none
    | some o => if line ∈ been then .over none else match o with
      | .name w => .over (some w)
      | o => match beatL o with
        | some b => .at line b 0 (cnt0 o c) l
        | none => arr os f (line :: been) ((jmp o c l).getD (line + 1)) c l
/-- the signs that end a line, how many of them -/
def stop : Od → List Nat × Nat
  | .wait s n => (s, n)
  | .count _ t n => (t, n)
  | _ => ([], 0)
def led (os : List Od) : Sit → Nat → Sit
  | .over w, _ => .over w
  | .at line b i c _, x => match os[line]? with
    | none => .over none
    | some (.pass _) => if 1 < b then .at line (b - 1) 0 c (some x) else arr os (os.length + 1) [] (line + 1) c (some x)
    | some (.count s t n) =>
      let c' := if x ∈ s then (if i = 0 then min (c + 1) 9 else c) else c
      let i' := if x ∈ s then 1 else 0
      let b' := if x ∈ t then b + 1 else 0
      if b' = n then arr os (os.length + 1) [] (line + 1) c' (some x) else .at line b' i' c' (some x)
    | some (.wait t n) =>
      let b' := if x ∈ t then b + 1 else 0
      if b' = n then arr os (os.length + 1) [] (line + 1) c (some x) else .at line b' i c (some x)
    | some _ => .over none
def prun (os : List Od) : Sit → List Nat → Nat → Option (List Nat × Nat)
  | .over w, _, k => w.map fun w => (w, k)
  | .at _ _ _ _ _, [], _ => none
  | .at l b i c x, y :: r, k => prun os (led os (.at l b i c x) y) r (k + 1)
/-- how many of the last signs, in a row, are these -/
def strk (s row : List Nat) : Nat := (row.reverse.takeWhile (fun x => decide (x ∈ s))).length
theorem strk_app (s row : List Nat) (x : Nat) : strk s (row ++ [x]) = if x ∈ s then strk s row + 1 else 0 := by
  unfold strk
  rw [List.reverse_append, List.reverse_singleton, List.singleton_append, List.takeWhile_cons]
  by_cases h : x ∈ s
  · rw [if_pos h]; simp [h]
  · rw [if_neg h]; simp [h]
def doneO : Od → List Nat → Bool
  | .pass n, row => decide (row.length = n)
  | .wait s n, row => decide (n ≤ strk s row)
  | .count _ t n, row => decide (n ≤ strk t row)
  | _, _ => false
/-- the number of beats until a line is done -/
def bt (o : Od) : List Nat → List Nat → Option Nat
  | _, [] => none
  | pre, x :: r => if doneO o (pre ++ [x]) = true then some (pre.length + 1) else bt o (pre ++ [x]) r
/-- the beginnings of stretches, and whether one stands -/
def cnS (s : List Nat) : List Nat → Bool → Nat
  | [], _ => 0
  | x :: r, b => (if x ∈ s ∧ b = false then 1 else 0) + cnS s r (decide (x ∈ s))
def inS (s : List Nat) : List Nat → Bool → Bool
  | [], b => b
  | x :: r, _ => inS s r (decide (x ∈ s))
theorem inS_app (s row : List Nat) (x : Nat) (b : Bool) : inS s (row ++ [x]) b = decide (x ∈ s) := by
  induction row generalizing b with
  | nil => rfl
  | cons y r ih => exact ih _
theorem cnS_app (s row : List Nat) (x : Nat) (b : Bool) : cnS s (row ++ [x]) b = cnS s row b + (if x ∈ s ∧ inS s row b = false then 1 else 0) := by
  induction row generalizing b with
  | nil => show _ + 0 = 0 + _; rw [Nat.zero_add]; rfl
  | cons y r ih =>
    show _ + cnS s (r ++ [x]) _ = _ + cnS s r _ + _
    rw [ih, Nat.add_assoc]; rfl
def cntO : Od → Nat → List Nat → Nat
  | .count s _ _, _, row => min (cnS s row false) 9
  | _, c, _ => c
def lastAt (look : List Nat) (k : Nat) : Option Nat := if k = 0 then none else look[k - 1]?
def spk (os : List Od) (look : List Nat) : Nat → Nat → Nat → Nat → List Nat → Option (List Nat × Nat)
  | 0, _, _, _, _ => none
  | f + 1, p, c, k, been => match os[p]? with
    | none => none
    | some o => if p ∈ been then none else match o with
      | .name w => some (w, k)
      | o => match beatL o with
        | some _ => (match bt o [] (look.drop k) with
          | none => none
          | some m => spk os look f (p + 1) (cntO o c ((look.drop k).take m)) (k + m) [])
        | none => spk os look f ((jmp o c (lastAt look k)).getD (p + 1)) c k (p :: been)
/-- numbers of lines that wait are positive -/
def posO : Od → Prop
  | .wait _ n => 1 ≤ n
  | .count _ _ n => 1 ≤ n
  | .pass n => 1 ≤ n
  | _ => True
section
variable {os : List Od} {look : List Nat}
theorem bt_ge {o : Od} : ∀ {r pre : List Nat} {m : Nat}, bt o pre r = some m → pre.length + 1 ≤ m ∧ m ≤ pre.length + r.length
  | [], pre, m, h => by cases h
  | x :: r, pre, m, h => by
    unfold bt at h
    split at h
    · cases h; simp only [List.length_cons]; omega
    · have := bt_ge h
      rw [List.length_append, List.length_singleton] at this
      simp only [List.length_cons]
      omega
/-- the situation in which a line stands that has looked at these beats, and is not done -/
def sitO (o : Od) (line c : Nat) (l : Option Nat) (pre : List Nat) : Sit := match o with
  | .wait s n => .at line (strk s pre) 0 c (if pre = [] then l else pre.getLast?)
  | .count s t n => .at line (strk t pre) (if inS s pre false = true then 1 else 0) (min (cnS s pre false) 9) (if pre = [] then l else pre.getLast?)
  | .pass n => .at line (n - pre.length) 0 c (if pre = [] then l else pre.getLast?)
  | _ => .over none
theorem led_O {o : Od} {line c : Nat} {l : Option Nat} {pre : List Nat} (ho : os[line]? = some o) (hb : (beatL o).isSome = true) (hp : posO o) (hn : pre = [] ∨ doneO o pre = false) (hlt : ∀ n, o = .pass n → pre.length < n) (x : Nat) :
    led os (sitO o line c l pre) x = if doneO o (pre ++ [x]) = true then arr os (os.length + 1) [] (line + 1) (cntO o c (pre ++ [x])) (some x) else sitO o line c l (pre ++ [x]) := by
  have ne : ¬ (pre ++ [x] = []) := by simp
  have gl : (pre ++ [x]).getLast? = some x := by simp
  cases o with
  | wait s n =>
    have hp : 1 ≤ n := hp
    have lt : strk s pre < n := by
      rcases hn with rfl | hn
      · exact hp
      · have := of_decide_eq_false hn; omega
    simp only [sitO, led, ho, doneO, cntO, strk_app, if_neg ne, gl, decide_eq_true_eq]
    by_cases h : x ∈ s
    · simp only [if_pos h]
      by_cases e : strk s pre + 1 = n
      · rw [if_pos e, if_pos (by omega)]
      · rw [if_neg e, if_neg (by omega)]
    · simp only [if_neg h]
      rw [if_neg (by omega), if_neg (by omega)]
  | count s t n =>
    have hp : 1 ≤ n := hp
    have lt : strk t pre < n := by
      rcases hn with rfl | hn
      · exact hp
      · have := of_decide_eq_false hn; omega
    have ec : (if x ∈ s then (if (if inS s pre false = true then 1 else 0) = 0 then min (min (cnS s pre false) 9 + 1) 9 else min (cnS s pre false) 9) else min (cnS s pre false) 9) = min (cnS s (pre ++ [x]) false) 9 := by
      rw [cnS_app]
      by_cases h : x ∈ s
      · rw [if_pos h]
        cases e : inS s pre false with
        | true => simp
        | false => simp [h]; omega
      · rw [if_neg h, if_neg (fun z => h z.1)]; rfl
    have ei : (if x ∈ s then 1 else 0) = if inS s (pre ++ [x]) false = true then 1 else 0 := by
      rw [inS_app]
      by_cases h : x ∈ s <;> simp [h]
    simp only [sitO, led, ho, doneO, cntO, if_neg ne, gl, decide_eq_true_eq]
    rw [ec, ei, strk_app]
    generalize (if inS s (pre ++ [x]) false = true then 1 else 0) = ii
    by_cases h : x ∈ t
    · simp only [if_pos h]
      by_cases e : strk t pre + 1 = n
      · rw [if_pos e, if_pos (by omega)]
      · rw [if_neg e, if_neg (by omega)]
    · simp only [if_neg h]
      rw [if_neg (by omega), if_neg (by omega)]
  | pass n =>
    have lt := hlt n rfl
    have e1 : (pre ++ [x]).length = pre.length + 1 := by simp
    simp only [sitO, led, ho, doneO, cntO, if_neg ne, gl, decide_eq_true_eq, e1]
    by_cases e : 1 < n - pre.length
    · rw [if_pos e, if_neg (by omega)]
      congr 1
    · rw [if_neg e, if_pos (by omega)]
  | more n l => cases hb
  | last s l => cases hb
  | go l => cases hb
  | name w => cases hb
  | skip => cases hb
theorem done_lt {n : Nat} {pre : List Nat} (h : doneO (.pass n) pre = false) : pre.length ≠ n := of_decide_eq_false h
theorem prun_O {o : Od} {line c : Nat} {l : Option Nat} (ho : os[line]? = some o) (hb : (beatL o).isSome = true) (hp : posO o) : ∀ (r pre : List Nat) (k : Nat), (pre = [] ∨ doneO o pre = false) → (∀ n, o = .pass n → pre.length < n) →
    prun os (sitO o line c l pre) r k = (match bt o pre r with
      | none => none
      | some m => prun os (arr os (os.length + 1) [] (line + 1) (cntO o c (pre ++ r.take (m - pre.length))) (r[m - pre.length - 1]?)) (r.drop (m - pre.length)) (k + (m - pre.length)))
  | [], pre, k, _, _ => by
    cases o <;> first
      | rfl
      | cases hb
  | x :: r, pre, k, hn, hlt => by
    have e1 : prun os (sitO o line c l pre) (x :: r) k = prun os (led os (sitO o line c l pre) x) r (k + 1) := by
      cases o <;> first
        | rfl
        | cases hb
    rw [e1, led_O ho hb hp hn hlt x]
    unfold bt
    by_cases h : doneO o (pre ++ [x]) = true
    · rw [if_pos h, if_pos h]
      simp
    · rw [if_neg h, if_neg h]
      have h' : doneO o (pre ++ [x]) = false := by simpa using h
      rw [prun_O ho hb hp r (pre ++ [x]) (k + 1) (.inr h') (fun n e => by
        subst e
        have := done_lt h'
        have := hlt n rfl
        rw [List.length_append, List.length_singleton] at *
        omega)]
      cases eb : bt o (pre ++ [x]) r with
      | none => rfl
      | some m =>
        have := bt_ge eb
        rw [List.length_append, List.length_singleton] at this
        obtain ⟨j, rfl⟩ : ∃ j, m = pre.length + 2 + j := ⟨m - pre.length - 2, by omega⟩
        simp only [List.length_append, List.length_singleton]
        rw [show pre.length + 2 + j - (pre.length + 1) = j + 1 by omega, show pre.length + 2 + j - pre.length = j + 2 by omega]
        simp only [List.take_succ_cons, List.drop_succ_cons, List.append_assoc, List.singleton_append]
        rw [show j + 1 - 1 = j by omega, show j + 2 - 1 = j + 1 by omega, List.getElem?_cons_succ, show k + 1 + (j + 1) = k + (j + 2) by omega]
theorem nodup_le : ∀ {n : Nat} {l : List Nat}, l.Nodup → (∀ b ∈ l, b < n) → l.length ≤ n
  | 0, [], _, _ => Nat.le_refl _
  | 0, b :: l, _, h => absurd (h b (List.mem_cons_self ..)) (Nat.not_lt_zero _)
  | n + 1, l, nd, h => by
    have h1 : (l.erase n).length ≤ n := nodup_le (nd.erase n) fun b hb => by
      have hb' := (List.Nodup.mem_erase_iff nd).mp hb
      have := h b hb'.2
      have := hb'.1
      omega
    rw [List.length_erase] at h1
    split at h1 <;> omega
theorem prun_over (w : Option (List Nat)) (r : List Nat) (k : Nat) : prun os (.over w) r k = w.map fun w => (w, k) := by
  cases r <;> rfl
theorem last_drop {k m : Nat} (h : 1 ≤ m) : (look.drop k)[m - 1]? = lastAt look (k + m) := by
  unfold lastAt
  rw [if_neg (by omega), List.getElem?_drop]
  congr 1
  omega
/-- both ways tell the same -/
theorem spk_prun (hpos : ∀ o ∈ os, posO o) (h20 : os.length ≤ 20) : ∀ (F p c k : Nat) (been : List Nat), k ≤ look.length → been.Nodup → (∀ b ∈ been, b < os.length) →
    21 * (look.length - k) + (os.length + 1 - been.length) ≤ F → spk os look F p c k been = prun os (arr os (os.length + 1 - been.length) been p c (lastAt look k)) (look.drop k) k
  | 0, p, c, k, been, hk, nd, hb, hF => by
    have : been.length ≤ os.length := by
      exact nodup_le nd hb
    omega
  | F + 1, p, c, k, been, hk, nd, hb, hF => by
    have bl : been.length ≤ os.length := by
      exact nodup_le nd hb
    obtain ⟨g, hg⟩ : ∃ g, os.length + 1 - been.length = g + 1 := ⟨os.length - been.length, by omega⟩
    rw [hg]
    unfold spk arr
    cases ho : os[p]? with
    | none => exact (prun_over none _ _).symm
    | some o =>
    have plt : p < os.length := (List.getElem?_eq_some_iff.mp ho).1
    have om : o ∈ os := List.mem_of_getElem? ho
    show (if p ∈ been then none else _) = prun os (if p ∈ been then .over none else _) _ _
    by_cases hm : p ∈ been
    · rw [if_pos hm, if_pos hm]; exact (prun_over none _ _).symm
    rw [if_neg hm, if_neg hm]
    have jump : ∀ q, spk os look F q c k (p :: been) = prun os (arr os g (p :: been) q c (lastAt look k)) (look.drop k) k := fun q => by
      have nd' : (p :: been).Nodup := List.nodup_cons.mpr ⟨hm, nd⟩
      have hb' : ∀ b ∈ p :: been, b < os.length := fun b h => by
        rcases List.mem_cons.mp h with rfl | h
        · exact plt
        · exact hb b h
      have e : os.length + 1 - (p :: been).length = g := by rw [List.length_cons]; omega
      have := spk_prun hpos h20 F q c k (p :: been) hk nd' hb' (by rw [e]; omega)
      rwa [e] at this
    have beat : ∀ (b : Nat), (beatL o).isSome = true → sitO o p c (lastAt look k) [] = .at p b 0 (cnt0 o c) (lastAt look k) → (match bt o [] (look.drop k) with
          | none => none
          | some m => spk os look F (p + 1) (cntO o c ((look.drop k).take m)) (k + m) []) = prun os (.at p b 0 (cnt0 o c) (lastAt look k)) (look.drop k) k := fun b hbt es => by
      rw [← es, prun_O ho hbt (hpos o om) (look.drop k) [] k (.inl rfl) (fun n e => by
        subst e
        exact hpos _ om)]
      cases eb : bt o [] (look.drop k) with
      | none => rfl
      | some m =>
        have hm2 := bt_ge eb
        rw [List.length_nil, List.length_drop] at hm2
        show spk os look F (p + 1) (cntO o c ((look.drop k).take m)) (k + m) [] = prun os (arr os (os.length + 1) [] (p + 1) (cntO o c ([] ++ (look.drop k).take (m - 0))) ((look.drop k)[m - 0 - 1]?)) ((look.drop k).drop (m - 0)) (k + (m - 0))
        rw [Nat.sub_zero, last_drop (by omega), List.drop_drop, List.nil_append]
        exact spk_prun hpos h20 F (p + 1) _ (k + m) [] (by omega) List.nodup_nil (fun _ h => by cases h) (by
          show 21 * (look.length - (k + m)) + (os.length + 1 - 0) ≤ F
          omega)
    cases o with
    | name w => exact (prun_over (some w) _ _).symm
    | wait s n => exact beat 0 rfl rfl
    | count s t n => exact beat 0 rfl rfl
    | pass n => exact beat n rfl rfl
    | more n l => exact jump _
    | last s l => exact jump _
    | go l => exact jump _
    | skip => exact jump _
end
end Fg
namespace K43
open PySem PySem.Spec PyProof.Rows L2 Fg
def topS (i : Nat) : Stmt := PySem.Challenge.pw_falseglim_k43_order_lines.main.body.getD i (.Pass ⟨0, 0, 0, 0⟩)
abbrev s_is_integer : Stmt := topS 10
theorem sc_is_integer : FnScope ["thing", "low", "high"] ["thing", "low", "high"] (defScope s_is_integer) := ⟨rfl, rfl, rfl, by decide +kernel, rfl, by decide +kernel, by decide +kernel⟩
abbrev s_deep : Stmt := topS 11
theorem sc_deep : FnScope ["thing", "level", "part"] ["thing", "level"] (defScope s_deep) := ⟨rfl, rfl, rfl, by decide +kernel, rfl, by decide +kernel, by decide +kernel⟩
abbrev s_is_mark : Stmt := topS 12
theorem sc_is_mark : FnScope ["thing", "sign"] ["thing"] (defScope s_is_mark) := ⟨rfl, rfl, rfl, by decide +kernel, rfl, by decide +kernel, by decide +kernel⟩
abbrev s_is_name : Stmt := topS 13
theorem sc_is_name : FnScope ["thing"] ["thing"] (defScope s_is_name) := ⟨rfl, rfl, rfl, by decide +kernel, rfl, by decide +kernel, by decide +kernel⟩
abbrev s_is_number : Stmt := topS 16
theorem sc_is_number : FnScope ["text", "sign"] ["text"] (defScope s_is_number) := ⟨rfl, rfl, rfl, by decide +kernel, rfl, by decide +kernel, by decide +kernel⟩
abbrev s_Lines___init__ : Stmt := inClass (topS 17) 0
theorem sc_Lines___init__ : FnScope ["self", "texts", "at"] ["self", "texts", "at"] (defScope s_Lines___init__) := ⟨rfl, rfl, rfl, by decide +kernel, rfl, by decide +kernel, by decide +kernel⟩
abbrev s_Lines_is_over : Stmt := inClass (topS 17) 1
theorem sc_Lines_is_over : FnScope ["self"] ["self"] (defScope s_Lines_is_over) := ⟨rfl, rfl, rfl, by decide +kernel, rfl, by decide +kernel, by decide +kernel⟩
abbrev s_Lines_words : Stmt := inClass (topS 17) 3
theorem sc_Lines_words : FnScope ["self"] ["self"] (defScope s_Lines_words) := ⟨rfl, rfl, rfl, by decide +kernel, rfl, by decide +kernel, by decide +kernel⟩
abbrev s_Lines_first_word : Stmt := inClass (topS 17) 4
theorem sc_Lines_first_word : FnScope ["self"] ["self"] (defScope s_Lines_first_word) := ⟨rfl, rfl, rfl, by decide +kernel, rfl, by decide +kernel, by decide +kernel⟩
abbrev s_Lines_fail_at : Stmt := inClass (topS 17) 6
theorem sc_Lines_fail_at : FnScope ["self", "number"] ["self", "number"] (defScope s_Lines_fail_at) := ⟨rfl, rfl, rfl, by decide +kernel, rfl, by decide +kernel, by decide +kernel⟩
abbrev s_Lines_word_at : Stmt := inClass (topS 17) 7
theorem sc_Lines_word_at : FnScope ["self", "number", "words"] ["self", "number"] (defScope s_Lines_word_at) := ⟨rfl, rfl, rfl, by decide +kernel, rfl, by decide +kernel, by decide +kernel⟩
abbrev s_Lines_number_at : Stmt := inClass (topS 17) 8
theorem sc_Lines_number_at : FnScope ["self", "number", "low", "high", "word"] ["self", "number", "low", "high"] (defScope s_Lines_number_at) := ⟨rfl, rfl, rfl, by decide +kernel, rfl, by decide +kernel, by decide +kernel⟩
abbrev s_Lines_name_at : Stmt := inClass (topS 17) 11
theorem sc_Lines_name_at : FnScope ["self", "number", "word"] ["self", "number"] (defScope s_Lines_name_at) := ⟨rfl, rfl, rfl, by decide +kernel, rfl, by decide +kernel, by decide +kernel⟩
abbrev s_Lines_close_at : Stmt := inClass (topS 17) 16
theorem sc_Lines_close_at : FnScope ["self", "number"] ["self", "number"] (defScope s_Lines_close_at) := ⟨rfl, rfl, rfl, by decide +kernel, rfl, by decide +kernel, by decide +kernel⟩
abbrev s_is_signs : Stmt := topS 21
theorem sc_is_signs : FnScope ["thing", "sign"] ["thing"] (defScope s_is_signs) := ⟨rfl, rfl, rfl, by decide +kernel, rfl, by decide +kernel, by decide +kernel⟩
abbrev s_is_order : Stmt := topS 22
theorem sc_is_order : FnScope ["thing", "many", "word"] ["thing", "many"] (defScope s_is_order) := ⟨rfl, rfl, rfl, by decide +kernel, rfl, by decide +kernel, by decide +kernel⟩
abbrev s_Orders___init__ : Stmt := inClass (topS 23) 0
theorem sc_Orders___init__ : FnScope ["self", "lines", "told", "number", "order"] ["self", "lines"] (defScope s_Orders___init__) := ⟨rfl, rfl, rfl, by decide +kernel, rfl, by decide +kernel, by decide +kernel⟩
abbrev s_Orders___len__ : Stmt := inClass (topS 23) 1
theorem sc_Orders___len__ : FnScope ["self"] ["self"] (defScope s_Orders___len__) := ⟨rfl, rfl, rfl, by decide +kernel, rfl, by decide +kernel, by decide +kernel⟩
abbrev s_Orders___iter__ : Stmt := inClass (topS 23) 2
theorem sc_Orders___iter__ : FnScope ["self"] ["self"] (defScope s_Orders___iter__) := ⟨rfl, rfl, rfl, by decide +kernel, rfl, by decide +kernel, by decide +kernel⟩
abbrev s_Orders___getitem__ : Stmt := inClass (topS 23) 3
theorem sc_Orders___getitem__ : FnScope ["self", "number"] ["self", "number"] (defScope s_Orders___getitem__) := ⟨rfl, rfl, rfl, by decide +kernel, rfl, by decide +kernel, by decide +kernel⟩
abbrev s_Orders___eq__ : Stmt := inClass (topS 23) 4
theorem sc_Orders___eq__ : FnScope ["self", "other"] ["self", "other"] (defScope s_Orders___eq__) := ⟨rfl, rfl, rfl, by decide +kernel, rfl, by decide +kernel, by decide +kernel⟩
abbrev s_signs_at : Stmt := topS 24
theorem sc_signs_at : FnScope ["reader", "number", "word"] ["reader", "number"] (defScope s_signs_at) := ⟨rfl, rfl, rfl, by decide +kernel, rfl, by decide +kernel, by decide +kernel⟩
abbrev s_order_at : Stmt := topS 25
theorem sc_order_at : FnScope ["reader", "word", "order"] ["reader"] (defScope s_order_at) := ⟨rfl, rfl, rfl, by decide +kernel, rfl, by decide +kernel, by decide +kernel⟩
abbrev s_order_line : Stmt := topS 26
theorem sc_order_line : FnScope ["order", "part"] ["order"] (defScope s_order_line) := ⟨rfl, rfl, rfl, by decide +kernel, rfl, by decide +kernel, by decide +kernel⟩
abbrev s_write_orders : Stmt := topS 27
theorem sc_write_orders : FnScope ["orders", "order"] ["orders"] (defScope s_write_orders) := ⟨rfl, rfl, rfl, by decide +kernel, rfl, by decide +kernel, by decide +kernel⟩
abbrev s_read_orders : Stmt := topS 28
theorem sc_read_orders : FnScope ["lines", "reader", "told"] ["lines"] (defScope s_read_orders) := ⟨rfl, rfl, rfl, by decide +kernel, rfl, by decide +kernel, by decide +kernel⟩
abbrev s_L_draw : Stmt := topS 30
theorem sc_L_draw : FnScope ["_law_script", "_law_cells", "_law_cell"] ["_law_script"] (defScope s_L_draw) := ⟨rfl, rfl, rfl, by decide +kernel, rfl, by decide +kernel, by decide +kernel⟩
abbrev s_L_mix : Stmt := topS 31
theorem sc_L_mix : FnScope ["_law_cell", "_law_turn", "_law_one", "_law_two"] ["_law_cell", "_law_turn"] (defScope s_L_mix) := ⟨rfl, rfl, rfl, by decide +kernel, rfl, by decide +kernel, by decide +kernel⟩
abbrev s_L_pick : Stmt := topS 32
theorem sc_L_pick : FnScope ["_law_draw_here", "_law_many", "_law_cell", "_law_digit", "_law_found"] ["_law_draw_here", "_law_many"] (defScope s_L_pick) := ⟨rfl, rfl, rfl, by decide +kernel, rfl, by decide +kernel, by decide +kernel⟩
abbrev s_L_name : Stmt := topS 33
theorem sc_L_name : FnScope ["_law_draw_here", "_law_used", "_law_pool", "_law_one", "_law_two"] ["_law_draw_here", "_law_used"] (defScope s_L_name) := ⟨rfl, rfl, rfl, by decide +kernel, rfl, by decide +kernel, by decide +kernel⟩
abbrev s_L_names : Stmt := topS 34
theorem sc_L_names : FnScope ["_law_draw_here", "_law_many", "_law_names_here", "_law_turn"] ["_law_draw_here", "_law_many"] (defScope s_L_names) := ⟨rfl, rfl, rfl, by decide +kernel, rfl, by decide +kernel, by decide +kernel⟩
abbrev s_L_signs : Stmt := topS 35
theorem sc_L_signs : FnScope ["_law_draw_here", "_law_kind", "_law_number_here", "_law_place"] ["_law_draw_here"] (defScope s_L_signs) := ⟨rfl, rfl, rfl, by decide +kernel, rfl, by decide +kernel, by decide +kernel⟩
abbrev s_L_order : Stmt := topS 36
theorem sc_L_order : FnScope ["_law_draw_here", "_law_many", "_law_names_here", "_law_top", "_law_kind"] ["_law_draw_here", "_law_many", "_law_names_here", "_law_top"] (defScope s_L_order) := ⟨rfl, rfl, rfl, by decide +kernel, rfl, by decide +kernel, by decide +kernel⟩
abbrev s_L_form : Stmt := topS 37
theorem sc_L_form : FnScope ["_law_word", "_law_forms"] ["_law_word"] (defScope s_L_form) := ⟨rfl, rfl, rfl, by decide +kernel, rfl, by decide +kernel, by decide +kernel⟩
abbrev s_L_is_name : Stmt := topS 38
theorem sc_L_is_name : FnScope ["_law_thing", "_law_sign"] ["_law_thing"] (defScope s_L_is_name) := ⟨rfl, rfl, rfl, by decide +kernel, rfl, by decide +kernel, by decide +kernel⟩
abbrev s_L_is_signs : Stmt := topS 39
theorem sc_L_is_signs : FnScope ["_law_thing", "_law_sign"] ["_law_thing"] (defScope s_L_is_signs) := ⟨rfl, rfl, rfl, by decide +kernel, rfl, by decide +kernel, by decide +kernel⟩
abbrev s_L_number : Stmt := topS 40
theorem sc_L_number : FnScope ["_law_word", "_law_low", "_law_high", "_law_sign"] ["_law_word", "_law_low", "_law_high"] (defScope s_L_number) := ⟨rfl, rfl, rfl, by decide +kernel, rfl, by decide +kernel, by decide +kernel⟩
abbrev s_L_is_word : Stmt := topS 41
theorem sc_L_is_word : FnScope ["_law_word", "_law_part"] ["_law_word", "_law_part"] (defScope s_L_is_word) := ⟨rfl, rfl, rfl, by decide +kernel, rfl, by decide +kernel, by decide +kernel⟩
abbrev s_L_bad_word : Stmt := topS 42
theorem sc_L_bad_word : FnScope ["_law_words", "_law_form_here", "_law_place"] ["_law_words"] (defScope s_L_bad_word) := ⟨rfl, rfl, rfl, by decide +kernel, rfl, by decide +kernel, by decide +kernel⟩
abbrev s_L_line : Stmt := topS 43
theorem sc_L_line : FnScope ["_law_words", "_law_form_here", "_law_line_here", "_law_place"] ["_law_words"] (defScope s_L_line) := ⟨rfl, rfl, rfl, by decide +kernel, rfl, by decide +kernel, by decide +kernel⟩
abbrev s_L_read : Stmt := topS 44
theorem sc_L_read : FnScope ["_law_texts", "_law_lines", "_law_number_here", "_law_words", "_law_bad"] ["_law_texts"] (defScope s_L_read) := ⟨rfl, rfl, rfl, by decide +kernel, rfl, by decide +kernel, by decide +kernel⟩
abbrev s_L_told : Stmt := topS 45
theorem sc_L_told : FnScope ["_law_texts", "_law_orders", "raised"] ["_law_texts"] (defScope s_L_told) := ⟨rfl, rfl, rfl, by decide +kernel, rfl, by decide +kernel, by decide +kernel⟩
abbrev s_L_spoilt_text : Stmt := topS 46
theorem sc_L_spoilt_text : FnScope ["_law_draw_here", "_law_text", "_law_words", "_law_place", "_law_kind", "_law_menu", "_law_odd", "_law_spot", "_law_sign"] ["_law_draw_here", "_law_text"] (defScope s_L_spoilt_text) := ⟨rfl, rfl, rfl, by decide +kernel, rfl, by decide +kernel, by decide +kernel⟩
abbrev s_L_spoilt : Stmt := topS 47
theorem sc_L_spoilt : FnScope ["_law_draw_here", "_law_texts", "_law_kind", "_law_place"] ["_law_draw_here", "_law_texts"] (defScope s_L_spoilt) := ⟨rfl, rfl, rfl, by decide +kernel, rfl, by decide +kernel, by decide +kernel⟩
abbrev s_law : Stmt := topS 48
theorem sc_law : FnScope ["_law_script", "_law_draw_here", "_law_names_here", "_law_many", "_law_lines", "_law_texts", "_law_orders", "_law_told_here", "_law_back", "_law_handed", "_law_turn", "_law_before", "_law_odd", "_law_again", "_law_line_here", "_law_part", "_law_text"] ["_law_script"] (defScope s_law) := ⟨rfl, rfl, rfl, by decide +kernel, rfl, by decide +kernel, by decide +kernel⟩
abbrev s_BadLine : Stmt := inClass (topS 3) 0
theorem sc_BadLine : FnScope ["self", "line", "word"] ["self", "line", "word"] (defScope s_BadLine) := ⟨rfl, rfl, rfl, by decide +kernel, rfl, by decide +kernel, by decide +kernel⟩
abbrev s_BadOrder : Stmt := inClass (topS 4) 0
theorem sc_BadOrder : FnScope ["self", "number"] ["self", "number"] (defScope s_BadOrder) := ⟨rfl, rfl, rfl, by decide +kernel, rfl, by decide +kernel, by decide +kernel⟩
abbrev s_NoLine : Stmt := inClass (topS 5) 0
theorem sc_NoLine : FnScope ["self", "number"] ["self", "number"] (defScope s_NoLine) := ⟨rfl, rfl, rfl, by decide +kernel, rfl, by decide +kernel, by decide +kernel⟩
/-- what the top has written -/
structure Txt (K : PySem.W.Frag) (mg : Str → Option Value) (C_GlimError : Addr) (C_BadLine : Addr) (C_BadOrder : Addr) (C_NoLine : Addr) (C_Lines : Addr) (C_Orders : Addr) (C_WORDS : Addr) : Prop where
  d_is_integer : DefIn K mg "is_integer" s_is_integer ["thing", "low", "high"]
  d_deep : DefD K mg "deep" s_deep ["thing", "level"] [.int (0)]
  d_is_mark : DefIn K mg "is_mark" s_is_mark ["thing"]
  d_is_name : DefIn K mg "is_name" s_is_name ["thing"]
  d_is_number : DefIn K mg "is_number" s_is_number ["text"]
  m_Lines___init__ : MkIn K mg "Lines" "Lines.__init__" C_Lines s_Lines___init__ ["self", "texts", "at"] [.int (0)]
  m_Lines_is_over : MetIn K C_Lines "is_over" "Lines.is_over" s_Lines_is_over ["self"] []
  m_Lines_words : MetIn K C_Lines "words" "Lines.words" s_Lines_words ["self"] []
  m_Lines_first_word : MetIn K C_Lines "first_word" "Lines.first_word" s_Lines_first_word ["self"] []
  m_Lines_fail_at : MetIn K C_Lines "fail_at" "Lines.fail_at" s_Lines_fail_at ["self", "number"] []
  m_Lines_word_at : MetIn K C_Lines "word_at" "Lines.word_at" s_Lines_word_at ["self", "number"] []
  m_Lines_number_at : MetIn K C_Lines "number_at" "Lines.number_at" s_Lines_number_at ["self", "number", "low", "high"] []
  m_Lines_name_at : MetIn K C_Lines "name_at" "Lines.name_at" s_Lines_name_at ["self", "number"] []
  m_Lines_close_at : MetIn K C_Lines "close_at" "Lines.close_at" s_Lines_close_at ["self", "number"] []
  d_is_signs : DefIn K mg "is_signs" s_is_signs ["thing"]
  d_is_order : DefIn K mg "is_order" s_is_order ["thing", "many"]
  m_Orders___init__ : MkIn K mg "Orders" "Orders.__init__" C_Orders s_Orders___init__ ["self", "lines"] []
  m_Orders___len__ : MetIn K C_Orders "__len__" "Orders.__len__" s_Orders___len__ ["self"] []
  m_Orders___iter__ : MetIn K C_Orders "__iter__" "Orders.__iter__" s_Orders___iter__ ["self"] []
  m_Orders___getitem__ : MetIn K C_Orders "__getitem__" "Orders.__getitem__" s_Orders___getitem__ ["self", "number"] []
  m_Orders___eq__ : MetIn K C_Orders "__eq__" "Orders.__eq__" s_Orders___eq__ ["self", "other"] []
  d_signs_at : DefIn K mg "signs_at" s_signs_at ["reader", "number"]
  d_order_at : DefIn K mg "order_at" s_order_at ["reader"]
  d_order_line : DefIn K mg "order_line" s_order_line ["order"]
  d_write_orders : DefIn K mg "write_orders" s_write_orders ["orders"]
  d_read_orders : DefIn K mg "read_orders" s_read_orders ["lines"]
  d_L_draw : DefIn K mg "_law_draw" s_L_draw ["_law_script"]
  d_L_mix : DefIn K mg "_law_mix" s_L_mix ["_law_cell", "_law_turn"]
  d_L_pick : DefIn K mg "_law_pick" s_L_pick ["_law_draw_here", "_law_many"]
  d_L_name : DefIn K mg "_law_name" s_L_name ["_law_draw_here", "_law_used"]
  d_L_names : DefIn K mg "_law_names" s_L_names ["_law_draw_here", "_law_many"]
  d_L_signs : DefIn K mg "_law_signs" s_L_signs ["_law_draw_here"]
  d_L_order : DefIn K mg "_law_order" s_L_order ["_law_draw_here", "_law_many", "_law_names_here", "_law_top"]
  d_L_form : DefIn K mg "_law_form" s_L_form ["_law_word"]
  d_L_is_name : DefIn K mg "_law_is_name" s_L_is_name ["_law_thing"]
  d_L_is_signs : DefIn K mg "_law_is_signs" s_L_is_signs ["_law_thing"]
  d_L_number : DefIn K mg "_law_number" s_L_number ["_law_word", "_law_low", "_law_high"]
  d_L_is_word : DefIn K mg "_law_is_word" s_L_is_word ["_law_word", "_law_part"]
  d_L_bad_word : DefIn K mg "_law_bad_word" s_L_bad_word ["_law_words"]
  d_L_line : DefIn K mg "_law_line" s_L_line ["_law_words"]
  d_L_read : DefIn K mg "_law_read" s_L_read ["_law_texts"]
  d_L_told : DefIn K mg "_law_told" s_L_told ["_law_texts"]
  d_L_spoilt_text : DefIn K mg "_law_spoilt_text" s_L_spoilt_text ["_law_draw_here", "_law_text"]
  d_L_spoilt : DefIn K mg "_law_spoilt" s_L_spoilt ["_law_draw_here", "_law_texts"]
  d_law : DefIn K mg "law" s_law ["_law_script"]
  b_abs : mg "abs" = none
  b_bool : mg "bool" = none
  b_enumerate : mg "enumerate" = none
  b_int : mg "int" = none
  b_isinstance : mg "isinstance" = none
  b_iter : mg "iter" = none
  b_len : mg "len" = none
  b_list : mg "list" = none
  b_range : mg "range" = none
  b_repr : mg "repr" = none
  b_str : mg "str" = none
  b_sum : mg "sum" = none
  b_tuple : mg "tuple" = none
  g_SIGNS : ∃ t, mg "SIGNS" = some (.str ⟨([46, 103, 114, 119] : List Nat).toArray⟩ t)
  g_MARK_SIGNS : ∃ t, mg "MARK_SIGNS" = some (.str ⟨([97, 98, 99, 100, 101, 102, 103, 104, 105, 106, 107, 108, 109, 110, 111, 112, 113, 114, 115, 116, 117, 118, 119, 120, 121, 122, 48, 49, 50, 51, 52, 53, 54, 55, 56, 57] : List Nat).toArray⟩ t)
  g_MOST_LEVELS : ∃ t, mg "MOST_LEVELS" = some (.int (70) t)
  g_DIGITS : ∃ t, mg "DIGITS" = some (.str ⟨([48, 49, 50, 51, 52, 53, 54, 55, 56, 57] : List Nat).toArray⟩ t)
  g_MOST_LINES : ∃ t, mg "MOST_LINES" = some (.int (20) t)
  c_GlimError : mg "GlimError" = some (.ref C_GlimError)
  c_BadLine : mg "BadLine" = some (.ref C_BadLine)
  c_BadOrder : mg "BadOrder" = some (.ref C_BadOrder)
  c_NoLine : mg "NoLine" = some (.ref C_NoLine)
  c_Lines : mg "Lines" = some (.ref C_Lines)
  c_Orders : mg "Orders" = some (.ref C_Orders)
  c_WORDS : mg "WORDS" = some (.ref C_WORDS)
  q_WORDS : ∀ H : Hp, SqT K H C_WORDS [S [119, 97, 105, 116], S [99, 111, 117, 110, 116], S [112, 97, 115, 115], S [109, 111, 114, 101], S [108, 97, 115, 116], S [103, 111], S [110, 97, 109, 101], S [115, 107, 105, 112]]
  cl_Lines : Cls K C_Lines
  ic_Lines : InsC K C_Lines
  nt_Lines : PySem.W.notFirst K C_Lines (.type "tuple") = true
  st_Lines : PySem.W.subIn K (.ref C_Lines) (.type "tuple") = some false
  na_Lines_texts : NoAttr K C_Lines "texts"
  na_Lines_now : NoAttr K C_Lines "now"
  cl_Orders : Cls K C_Orders
  ic_Orders : InsC K C_Orders
  nt_Orders : PySem.W.notFirst K C_Orders (.type "tuple") = true
  st_Orders : PySem.W.subIn K (.ref C_Orders) (.type "tuple") = some false
  na_Orders_lines : NoAttr K C_Orders "lines"
  o_BadLine : OexC K C_BadLine
  nf_BadLine_line : PySem.W.findIn K (.ref C_BadLine) "line" = some none
  nf_BadLine_word : PySem.W.findIn K (.ref C_BadLine) "word" = some none
  i_BadLine : ∃ fI fd, PySem.W.findIn K (.ref C_BadLine) "__init__" = some (some (.ref fI)) ∧ PySem.W.typeIn K (.ref fI) = some (.type "function") ∧ Fun K "__init__" "BadLine.__init__" s_BadLine fI fd ∧ Binds K fd ["self", "line", "word"] []
  e_BadLine : ExcD K C_BadLine
  o_BadOrder : OexC K C_BadOrder
  nf_BadOrder_number : PySem.W.findIn K (.ref C_BadOrder) "number" = some none
  i_BadOrder : ∃ fI fd, PySem.W.findIn K (.ref C_BadOrder) "__init__" = some (some (.ref fI)) ∧ PySem.W.typeIn K (.ref fI) = some (.type "function") ∧ Fun K "__init__" "BadOrder.__init__" s_BadOrder fI fd ∧ Binds K fd ["self", "number"] []
  e_BadOrder : ExcD K C_BadOrder
  o_NoLine : OexC K C_NoLine
  nf_NoLine_number : PySem.W.findIn K (.ref C_NoLine) "number" = some none
  i_NoLine : ∃ fI fd, PySem.W.findIn K (.ref C_NoLine) "__init__" = some (some (.ref fI)) ∧ PySem.W.typeIn K (.ref fI) = some (.type "function") ∧ Fun K "__init__" "NoLine.__init__" s_NoLine fI fd ∧ Binds K fd ["self", "number"] []
  e_NoLine : ExcD K C_NoLine
  k_BadLine_BadLine : PySem.W.kitOne K (.ref C_BadLine) (.ref C_BadLine) = some true
  k_BadLine_BadOrder : PySem.W.kitOne K (.ref C_BadLine) (.ref C_BadOrder) = some false
  k_BadOrder_BadLine : PySem.W.kitOne K (.ref C_BadOrder) (.ref C_BadLine) = some false
  k_BadOrder_BadOrder : PySem.W.kitOne K (.ref C_BadOrder) (.ref C_BadOrder) = some true
  k_Orders_Orders : PySem.W.kitOne K (.ref C_Orders) (.ref C_Orders) = some true
  k_tuple_Orders : PySem.W.kitOne K (.type "tuple") (.ref C_Orders) = some false
  m_BadLine_GlimError : PySem.W.exmOne K (.ref C_BadLine) (.ref C_GlimError) = some true
  m_BadOrder_GlimError : PySem.W.exmOne K (.ref C_BadOrder) (.ref C_GlimError) = some true
section
variable {P : Program} {w : World} {K : PySem.W.Frag} {mg : Str → Option Value} {base : Heap} {C_GlimError C_BadLine C_BadOrder C_NoLine C_Lines C_Orders C_WORDS : Addr}
theorem okx_BadLine (T : Txt K mg C_GlimError C_BadLine C_BadOrder C_NoLine C_Lines C_Orders C_WORDS) : OKx2 P w K mg base "BadLine" "line" "word" C_BadLine := by
  obtain ⟨fI, fd, h1, h2, F, hb⟩ := T.i_BadLine
  exact ⟨T.c_BadLine, T.o_BadLine, fI, fd, h1, h2, ini_ok2 F sc_BadLine T.o_BadLine T.nf_BadLine_line T.nf_BadLine_word (fun cdv A outer s H E => (pss_cons (ps_ost (pv 0) (pv 1)) (pss_one (ps_ost (pv 0) (pv 2))))), hb⟩
theorem okx_BadOrder (T : Txt K mg C_GlimError C_BadLine C_BadOrder C_NoLine C_Lines C_Orders C_WORDS) : OKx P w K mg base "BadOrder" "number" C_BadOrder := by
  obtain ⟨fI, fd, h1, h2, F, hb⟩ := T.i_BadOrder
  exact ⟨T.c_BadOrder, T.o_BadOrder, T.nf_BadOrder_number, fI, fd, h1, h2, ini_ok F sc_BadOrder T.o_BadOrder T.nf_BadOrder_number (fun cdv A outer s H E => (pss_one (ps_ost (pv 0) (pv 1)))), hb⟩
theorem okx_NoLine (T : Txt K mg C_GlimError C_BadLine C_BadOrder C_NoLine C_Lines C_Orders C_WORDS) : OKx P w K mg base "NoLine" "number" C_NoLine := by
  obtain ⟨fI, fd, h1, h2, F, hb⟩ := T.i_NoLine
  exact ⟨T.c_NoLine, T.o_NoLine, T.nf_NoLine_number, fI, fd, h1, h2, ini_ok F sc_NoLine T.o_NoLine T.nf_NoLine_number (fun cdv A outer s H E => (pss_one (ps_ost (pv 0) (pv 1)))), hb⟩
end
end K43
namespace K43
open PySem PySem.Spec PyProof.Rows L2 Fg
local macro_rules | `(tactic| walk_at "sq") => `(tactic| first
  | assumption
  | exact .inl (.inl (by assumption))
  | exact .inl (.inl upd_same))
local macro_rules | `(tactic| walk_at "st") => `(tactic| first
  | assumption
  | exact .inl (.inl (by assumption))
  | exact .inl (.inl upd_same))
local macro_rules | `(tactic| walk_at "o") => `(tactic| first
  | omega
  | assumption
  | (simp only [List.length_append, List.length_take, List.length_drop, List.length_cons, List.length_nil, List.length_singleton, List.length_map, List.length_range, Int.toNat_natCast] ; omega))
local macro_rules | `(tactic| walk_at "s") => `(tactic| first
  | (with_reducible refine i_seq ?_)
  | (with_reducible refine i_asg ?_)
  | ((with_reducible refine' i_var ?h1 ?_); (case h1 => rfl))
  | (with_reducible refine i_c ?_)
  | ((with_reducible refine' i_gname' ?h1 ?_); (case h1 => (simp only [List.set_cons_zero, List.set_cons_succ]; rfl)))
  | (with_reducible refine i_op ?_)
  | (with_reducible refine i_ifS ?_)
  | (with_reducible refine i_for ?_)
  | (with_reducible refine i_test ?_)
  | (with_reducible refine i_B ?_)
  | (with_reducible refine i_exbl ?_)
  | (with_reducible refine i_exint ?_)
  | (with_reducible refine i_cb ?_)
  | (with_reducible refine i_nil ?_)
  | (with_reducible refine i_cons ?_)
  | (with_reducible refine i_ret ?_)
  | (with_reducible refine i_sl ?_)
  | (with_reducible refine i_nopart ?_)
  | (with_reducible refine i_part ?_)
  | (with_reducible refine i_add_int ?_)
  | (with_reducible refine i_sub ?_)
  | (with_reducible refine i_lt ?_)
  | ((with_reducible refine' i_mod ?h1 ?_); (case h1 => walk_at "o"))
  | ((with_reducible refine' i_fdiv ?h1 ?_); (case h1 => (refine cdiv_small ?_ ?_ <;> walk_at "o")))
  | ((with_reducible refine' i_sl_to ?h1 ?h2 ?_); (case h1 => walk_at "o"); (case h2 => walk_at "o"))
  | ((with_reducible refine' i_sl_from ?h1 ?h2 ?_); (case h1 => walk_at "o"); (case h2 => walk_at "o"))
  | ((with_reducible refine' i_add_str ?h1 ?_); (case h1 => walk_at "o"))
  | ((with_reducible refine' i_mul_int ?h1 ?_); (case h1 => first | (refine mul_small ?_ ?_ <;> walk_at "o") | (refine mul_smallR ?_ ?_ <;> walk_at "o")))
  | (with_reducible refine i_le ?_)
  | (with_reducible refine i_gt ?_)
  | (with_reducible refine i_ge ?_)
  | (with_reducible refine i_eq_int ?_)
  | (with_reducible refine i_eq_str ?_)
  | (with_reducible refine i_ne_int ?_)
  | (with_reducible refine i_ne_str ?_)
  | (with_reducible refine i_eq_bl ?_)
  | (with_reducible refine i_ne_bl ?_)
  | (with_reducible refine i_in_sg ?_)
  | (with_reducible refine i_notIn_sg ?_)
  | (with_reducible refine i_call ?_)
  | (with_reducible refine i_callS ?_)
  | (with_reducible refine i_sp1 ?_)
  | (with_reducible refine i_sp2 ?_)
  | (with_reducible refine i_sp3 ?_)
  | (with_reducible refine i_sp4 ?_)
  | (with_reducible refine i_sp1' ?_)
  | (with_reducible refine i_sp2' ?_)
  | (with_reducible refine i_sp3' ?_)
  | ((with_reducible refine' i_ix_lst ?h1 ?h2 ?_); (case h1 => walk_at "sq"); (case h2 => first | exact atI_nat rfl | rfl))
  | ((with_reducible refine' i_ix_tup ?h1 ?h2 ?_); (case h1 => walk_at "st"); (case h2 => first | exact atI_nat rfl | rfl))
  | (with_reducible refine i_gsub ?_)
  | (with_reducible refine i_par ?_)
  | (with_reducible refine i_lstRg1 ?_)
  | (with_reducible refine i_app ?_)
  | (with_reducible refine i_par2 ?_)
  | ((with_reducible refine' i_aug ?h1 ?_); (case h1 => rfl))
  | (with_reducible refine i_ipI ?_)
  | ((with_reducible refine' i_gtup2 ?h1 ?_); (case h1 => walk_at "st"))
  | (with_reducible refine i_int_bl ?_)
  | (with_reducible refine i_raise ?_)
  | (with_reducible refine i_mkE ?_)
  | (with_reducible refine i_ex1 ?_)
  | (with_reducible refine i_and ?_)
  | (with_reducible refine i_or ?_)
  | (with_reducible refine i_not ?_)
  | (with_reducible refine i_tt ?_)
  | (with_reducible refine i_ff ?_)
  | (with_reducible refine i_nott ?_)
  | (with_reducible refine i_notf ?_)
  | (with_reducible refine i_andV ?_)
  | (with_reducible refine i_orV ?_)
  | (with_reducible refine i_notV ?_)
  | (with_reducible refine i_ifE ?_)
  | (with_reducible refine i_tup ?_)
  | (with_reducible refine i_lst ?_)
  | (with_reducible refine i_un ?_)
  | (with_reducible refine i_neg ?_)
  | (with_reducible refine i_chain ?_)
  | (with_reducible refine i_next ?_)
  | (with_reducible refine i_retN ?_)
  | (with_reducible refine i_drop ?_)
  | (with_reducible refine i_int_int ?_)
  | (with_reducible refine i_abs ?_)
  | (with_reducible refine i_m1c ?_)
  | (with_reducible refine i_is_non ?_)
  | (with_reducible refine i_is_int ?_)
  | (with_reducible refine i_is_bl ?_)
  | (with_reducible refine i_isn_bl ?_)
  | (with_reducible refine i_is_str ?_)
  | (with_reducible refine i_is_ref ?_)
  | (with_reducible refine i_isn_non ?_)
  | (with_reducible refine i_isn_int ?_)
  | (with_reducible refine i_isn_str ?_)
  | (with_reducible refine i_isn_ref ?_)
  | (with_reducible refine i_len_str ?h1 ?_; (case h1 => walk_at "o"))
  | (with_reducible refine i_callD ?_)
  | (with_reducible refine i_spD2 ?_)
  | (with_reducible refine i_spM1 ?_)
  | (with_reducible refine i_spM2 ?_)
  | (with_reducible refine i_spM3 ?_)
  | (with_reducible refine i_spM4 ?_)
  | (with_reducible refine i_spM3d ?_)
  | (with_reducible refine i_tfld ?_)
  | (with_reducible refine i_sfld ?_)
  | (with_reducible refine i_meth ?_)
  | (with_reducible refine i_make ?_)
  | (with_reducible refine i_spl ?_)
  | (with_reducible refine i_mkE2 ?_)
  | (with_reducible refine i_ex2 ?_)
  | (with_reducible refine i_dget ?_)
  | (with_reducible refine i_tru ?_)
  | (with_reducible refine i_dput ?_)
  | (with_reducible refine i_dnotin ?_)
  | (with_reducible refine i_din ?_)
  | (with_reducible refine i_rev ?_)
  | (with_reducible refine i_isi_int_int ?_) | (with_reducible refine i_isi_int_bool ?_) | (with_reducible refine i_isi_int_str ?_) | (with_reducible refine i_isi_int_tuple ?_) | (with_reducible refine i_isi_int_list ?_)
  | (with_reducible refine i_isi_bl_int ?_) | (with_reducible refine i_isi_bl_bool ?_) | (with_reducible refine i_isi_bl_str ?_) | (with_reducible refine i_isi_bl_tuple ?_) | (with_reducible refine i_isi_bl_list ?_)
  | (with_reducible refine i_isi_str_int ?_) | (with_reducible refine i_isi_str_bool ?_) | (with_reducible refine i_isi_str_str ?_) | (with_reducible refine i_isi_str_tuple ?_) | (with_reducible refine i_isi_str_list ?_)
  | (with_reducible refine i_isi_non_int ?_) | (with_reducible refine i_isi_non_bool ?_) | (with_reducible refine i_isi_non_str ?_) | (with_reducible refine i_isi_non_tuple ?_) | (with_reducible refine i_isi_non_list ?_))
local macro_rules | `(tactic| walk_at "go") => `(tactic| (repeat' (walk_at "s")))
local macro_rules | `(tactic| walk_at "n") => `(tactic| simp only [wipe, List.map_cons, List.map_nil, List.set_cons_zero, List.set_cons_succ])
/-! ### draws: the list at a holds a place in the script's cells (at c) and what is left of a great one -/
structure Dd where
  a : Addr
  c : Addr
  ns : List Int
/-- H0: what is known besides -/
def Dr (K : PySem.W.Frag) (d : Dd) (H0 H : Hp) : Prop := Same H0 H ∧ H0 d.a = none ∧ SqL K H0 d.c (d.ns.map V.int) ∧ d.ns.length ≤ 100 ∧ ∃ p b u x s : Int, H d.a = some (.lst [.ref d.c, .int p, .int b, .int u, .int x, .int s]) ∧ 0 ≤ p
section
variable {K : PySem.W.Frag} {d : Dd} {H0 H H' H1 : Hp} {q : Addr} {o o' : HO}
theorem Dr.same (h : Dr K d H0 H) (s : Same H H') : Dr K d H0 H' := by
  obtain ⟨s0, n0, hc, hl, p, b, u, x, sd, ha, hp⟩ := h
  exact ⟨s0.trans s, n0, hc, hl, p, b, u, x, sd, s _ _ ha, hp⟩
theorem Dr.new (h : Dr K d H0 H) (n : H q = none) : Dr K d (upd H0 q o) (upd H q o) := by
  obtain ⟨s0, n0, hc, hl, p, b, u, x, sd, ha, hp⟩ := h
  have nq : d.a ≠ q := ne_of_none ha n
  have s1 : Same H0 (upd H0 q o) := same_upd (s0.free n)
  refine ⟨fun b' o' e => ?_, by rw [upd_ne nq]; exact n0, s1.seq hc, hl, p, b, u, x, sd, by rw [upd_ne nq]; exact ha, hp⟩
  by_cases hb : b' = q
  · rw [hb, upd_same] at e
    rw [hb, upd_same]; exact e
  · rw [upd_ne hb] at e
    rw [upd_ne hb]; exact s0 _ _ e
/-- an object that is known changes -/
theorem Dr.put (h : Dr K d (upd H0 q o) H) (hc : SqL K H0 d.c (d.ns.map V.int)) (n : H0 q = none) : Dr K d (upd H0 q o') (upd H q o') := by
  obtain ⟨s0, n0, _, hl, p, b, u, x, sd, ha, hp⟩ := h
  have nq : d.a ≠ q := fun z => by rw [z, upd_same] at n0; cases n0
  have s1 : Same H0 (upd H0 q o') := same_upd n
  rw [upd_ne nq] at n0
  refine ⟨fun b' o' e => ?_, by rw [upd_ne nq]; exact n0, s1.seq hc, hl, p, b, u, x, sd, by rw [upd_ne nq]; exact ha, hp⟩
  by_cases hb : b' = q
  · rw [hb, upd_same] at e
    rw [hb, upd_same]; exact e
  · rw [upd_ne hb] at e
    rw [upd_ne hb]; exact s0 _ _ (by rw [upd_ne hb]; exact e)
/-- more, or less, is known -/
theorem Dr.know (h : Dr K d H0 H) (s0 : Same H0 H1) (s1 : Same H1 H) (n : H1 d.a = none) : Dr K d H1 H := by
  obtain ⟨_, n0, hc, hl, p, b, u, x, sd, ha, hp⟩ := h
  exact ⟨s1, n, s0.seq hc, hl, p, b, u, x, sd, ha, hp⟩
theorem Dr.less (h : Dr K d (upd H0 q o) H) (hc : SqL K H0 d.c (d.ns.map V.int)) (n : H0 q = none) : Dr K d H0 H := by
  obtain ⟨s0, n0, _, hl, p, b, u, x, sd, ha, hp⟩ := h
  have nq : d.a ≠ q := fun z => by rw [z, upd_same] at n0; cases n0
  rw [upd_ne nq] at n0
  exact ⟨(same_upd n).trans s0, n0, hc, hl, p, b, u, x, sd, ha, hp⟩
theorem Dr.old (h : Dr K d H0 H) (e : H0 q = some o) : H q = some o := h.1 _ _ e
theorem Dr.cells (h : Dr K d H0 H) : SqL K H0 d.c (d.ns.map V.int) := h.2.2.1
theorem Dr.free (h : Dr K d H0 H) (n : H q = none) : H0 q = none := h.1.free n
/-- what a call that leaves all as it was hands back new -/
theorem Dr.got (h : Dr K d H0 H) (n : H q = none) (s : Same H H') (e : H' q = some o) : Dr K d (upd H0 q o) H' := by
  obtain ⟨s0, n0, hc, hl, p, b, u, x, sd, ha, hp⟩ := h
  have nq : d.a ≠ q := ne_of_none ha n
  have s1 : Same H0 (upd H0 q o) := same_upd (s0.free n)
  refine ⟨fun b' o' e' => ?_, by rw [upd_ne nq]; exact n0, s1.seq hc, hl, p, b, u, x, sd, s _ _ ha, hp⟩
  by_cases hb : b' = q
  · rw [hb, upd_same] at e'
    rw [hb, e]; exact e'
  · rw [upd_ne hb] at e'
    exact s _ _ (s0 _ _ e')
end
theorem range_getD (xs : List V) : (List.range xs.length).map (fun i => xs.getD i .non) = xs := by
  refine List.ext_getElem? fun i => ?_
  rw [List.getElem?_map]
  by_cases h : i < xs.length
  · rw [List.getElem?_range h, Option.map_some, List.getD_eq_getElem?_getD, List.getElem?_eq_getElem h]
    rfl
  · rw [List.getElem?_eq_none (by simpa using h), List.getElem?_eq_none (by omega)]
    rfl
def Btw (n many : Int) : Prop := 0 ≤ n ∧ (2 ≤ many → n < many) ∧ (many < 2 → n = 0)
section
variable {P : Program} {w : World} {K : PySem.W.Frag} {mg : Str → Option Value} {base : Heap} {C_GlimError C_BadLine C_BadOrder C_NoLine C_Lines C_Orders C_WORDS : Addr}
def p_L_draw (K : PySem.W.Frag) : P1 := fun v H Q _ => ∃ (a0 : Addr) (ns : List Int), v = .ref a0 ∧ SqL K H a0 (ns.map V.int) ∧ ns.length ≤ 100 ∧ ∀ H0 d H', Same H H0 → Dr K d H0 H' → Q (.ref d.a) H'
theorem ok_L_draw (T : Txt K mg C_GlimError C_BadLine C_BadOrder C_NoLine C_Lines C_Orders C_WORDS) : OK P w K mg base CX0 1 "_law_draw" ["_law_script"] (sp1  (p_L_draw K)) := by
  refine OK.mk (k := 0) T.d_L_draw sc_L_draw len1 fun f cdv A outer s H vs Q E hr h => ?_
  obtain ⟨x, rfl, h⟩ := h
  refine ⟨_, (pss_cons (ps_setLc (i := 1) (own := [("_law_cell", 2)]) (g := gName 2) (tt := tYes) (by rfl) sc_L_draw.nd rfl rfl (sw_true rfl rfl rfl (by decide +kernel)) (piAny K (pv 0)) (blkOk_by (own := [("_law_cell", 2)]) (N := ["_law_script", "_law_cells", "_law_cell"]) (sc := (defScope s_L_draw)) (by decide +kernel)) (fun _ _ _ _ _ => (pg_name (i := 2) sc_L_draw.nd rfl (Or.inl rfl))) (fun _ _ _ _ _ => pts_nil) (fun _ _ _ _ _ => (pv 2))) (pss_one (ps_ret (pe_lst (pa_cons (pv 1) (pa_cons pe_int (pa_cons pe_int (pa_cons pe_int (pa_cons pe_int (pa_cons (pe_op (opAdd K) (pe_op op_modP (pe_callTy call_intP (by rfl) T.b_int (by decide +kernel) (pa_cons (pe_callB (cSum K rfl) (by rfl) T.b_sum (by decide +kernel) (pa_cons (pv 1) pa_nil)) pa_nil)) pe_int) (pe_op op_mulP pe_int (pe_callB (cLen K) (by rfl) T.b_len (by decide +kernel) (pa_cons (pv 1) pa_nil)))) pa_nil)))))))))), ?_⟩
  show (_ : TS) { nx := fun _ H' => Q .non H', rt := Q } [some x, none, none] H
  obtain ⟨a0, ns, rfl, hS, hl, q⟩ := h
  walk_at "go"
  refine c_lst (xs := ns.map V.int) (fun R k => by walk_at "go"; exact k) hS (by rw [List.length_map]; omega) (fun _ => true) (fun i => (ns.map V.int).getD i .non) (fun _ => rfl) (fun i v H2 hi s2 QB k => k H2 (Same.refl H2)) (fun i v H2 hi s2 _ QV k => ?_) (fun Dl H2 n2 s2 d2 => ?_)
  · show (_ : TE) [some (.ref a0), none, some v] H2 QV
    walk_at "go"
    have e : v = (ns.map V.int).getD i .non := by rw [List.getD_eq_getElem?_getD, hi]; rfl
    rw [e]
    exact k H2 (Same.refl H2)
  · rw [kept_all, range_getD] at d2
    walk_at "go"
    refine i_sum (ns := ns) (.inl (.inl d2)) ?_
    walk_at "go"
    refine i_len_lst (.inl (.inl d2)) ?_
    walk_at "go"
    refine i_new (by show 6 ≤ 100000; omega) fun a na => ?_
    walk_at "go"
    exact q H2 ⟨a, Dl, ns⟩ _ s2 ⟨same_upd na, na, .inl (.inl d2), hl, _, _, _, _, _, upd_same, Int.le_refl _⟩
def p_L_mix : P2 := fun x y H Q _ => ∃ a b : Int, x = .int a ∧ y = .int b ∧ ∀ r : Int, Q (.int r) H
theorem ok_L_mix (T : Txt K mg C_GlimError C_BadLine C_BadOrder C_NoLine C_Lines C_Orders C_WORDS) : OK P w K mg base CX0 1 "_law_mix" ["_law_cell", "_law_turn"] (sp2  p_L_mix) := by
  refine OK.mk (k := 0) T.d_L_mix sc_L_mix len2 fun f cdv A outer s H vs Q E hr h => ?_
  obtain ⟨x, y, rfl, h⟩ := h
  refine ⟨_, (pss_cons (ps_set (i := 2) sc_L_mix.nd rfl (Or.inl rfl) (pe_op op_modP (pe_callTy call_intP (by rfl) T.b_int (by decide +kernel) (pa_cons (pe_op (opAdd K) (pe_op (opAdd K) (pe_op op_mulP (pv 0) pe_int) (pe_op op_mulP (pv 1) pe_int)) pe_int) pa_nil)) pe_int)) (pss_cons (ps_set (i := 3) sc_L_mix.nd rfl (Or.inl rfl) (pe_op op_modP (pe_callTy call_intP (by rfl) T.b_int (by decide +kernel) (pa_cons (pe_op (opAdd K) (pe_op (opAdd K) (pe_op op_mulP (pv 2) (pv 2)) (pe_op op_mulP (pv 1) pe_int)) (pv 0)) pa_nil)) pe_int)) (pss_cons (ps_set (i := 3) sc_L_mix.nd rfl (Or.inl rfl) (pe_op op_modP (pe_callTy call_intP (by rfl) T.b_int (by decide +kernel) (pa_cons (pe_op (opAdd K) (pe_op op_mulP (pv 3) (pv 3)) (pv 2)) pa_nil)) pe_int)) (pss_one (ps_ret (pe_op op_fdivP (pv 3) pe_int)))))), ?_⟩
  show (_ : TS) { nx := fun _ H' => Q .non H', rt := Q } [some x, some y, none, none] H
  obtain ⟨c, t, rfl, rfl, q⟩ := h
  walk_at "go"
  have h1 : 0 ≤ (c * 48271 + t * 69621 + 12345) % 2147483647 := Int.emod_nonneg _ (by decide)
  have h2 : (c * 48271 + t * 69621 + 12345) % 2147483647 < 2147483647 := Int.emod_lt_of_pos _ (by decide)
  generalize (c * 48271 + t * 69621 + 12345) % 2147483647 = o at *
  walk_at "go"
  have h3 : 0 ≤ (o * o + t * 7919 + c) % 998244353 := Int.emod_nonneg _ (by decide)
  have h4 : (o * o + t * 7919 + c) % 998244353 < 998244353 := Int.emod_lt_of_pos _ (by decide)
  generalize (o * o + t * 7919 + c) % 998244353 = o2 at *
  walk_at "go"
  exact q _
/-- a number from 0 to less than so many; the draws go on -/
def p_L_pick (K : PySem.W.Frag) : P2 := fun x y H Q _ => ∃ (H0 : Hp) (d : Dd) (many : Int), x = .ref d.a ∧ y = .int many ∧ Dr K d H0 H ∧ many ≤ 10000000000000000000000000000000000000000 ∧ ∀ (n : Int) H', Dr K d H0 H' → Btw n many → Q (.int n) H'
theorem wide_many {b many : Int} (h : 0 < many) (h2 : many ≤ 10000000000000000000000000000000000000000) : CDivW b many := by
  refine wide_div (b := 140) h ?_ (by decide) (by decide)
  have e : (2 : Nat) ^ 140 = 1393796574908163946345982392040522594123776 := by decide +kernel
  rw [e]
  omega
theorem ok_L_pick (T : Txt K mg C_GlimError C_BadLine C_BadOrder C_NoLine C_Lines C_Orders C_WORDS) : OK P w K mg base CX0 2 "_law_pick" ["_law_draw_here", "_law_many"] (sp2  (p_L_pick K)) := by
  refine OK.mk (k := 1) T.d_L_pick sc_L_pick len2 fun f cdv A outer s H vs Q E hr h => ?_
  obtain ⟨x, y, rfl, h⟩ := h
  refine ⟨_, (pss_cons (ps_if (pt_cmpR op_ltP (pv 1) pe_int (nomark _)) (pss_one (ps_ret pe_int)) pss_nil) (Evl.pss_cut (ps_if (pw_and (pt_cmpR (opEq K hr.units) (pe_ix (ixK K) (pv 0) pe_int (fun _ _ => rfl)) pe_int (nomark _)) (pw_and (pt_cmpR op_ltP (pe_ix (ixK K) (pv 0) pe_int (fun _ _ => rfl)) (pe_callB (cLen K) (by rfl) T.b_len (by decide +kernel) (pa_cons (pe_ix (ixK K) (pv 0) pe_int (fun _ _ => rfl)) pa_nil)) (nomark _)) (pw_and1 (pt_cmpR (opEq K hr.units) (pe_ix (ixK K) (pv 0) pe_int (fun _ _ => rfl)) pe_int (nomark _))))).pt (pss_cons (ps_set (i := 2) sc_L_pick.nd rfl (Or.inl rfl) (pe_ix (ixK K) (pe_ix (ixK K) (pv 0) pe_int (fun _ _ => rfl)) (pe_ix (ixK K) (pv 0) pe_int (fun _ _ => rfl)) (fun _ _ => rfl))) (pss_one (ps_if (pw_or (pt_cmpR op_geP (pv 2) (pe_op op_powP pe_int pe_int) (nomark _)) (pw_or1 (pt_cmpR op_leP (pv 2) (pe_un un_neg (pe_op op_powP pe_int pe_int)) (nomark _)))).pt (pss_cons (ps_asg (pe_op op_modP (pe_callTy call_intP (by rfl) T.b_int (by decide +kernel) (pa_cons (pe_callB call_absP (by rfl) T.b_abs (by decide +kernel) (pa_cons (pv 2) pa_nil)) pa_nil)) (pe_op op_powP (pe_op op_powP pe_int pe_int) pe_int)) (pg_sub (pv 0) pe_int set_list)) (pss_one (ps_asg (pe_op (opAdd K) (pe_ix (ixK K) (pv 0) pe_int (fun _ _ => rfl)) pe_int) (pg_sub (pv 0) pe_int set_list)))) pss_nil))) pss_nil) (pss_cons (ps_if (pt_cmpR op_gtP (pe_ix (ixK K) (pv 0) pe_int (fun _ _ => rfl)) pe_int (nomark _)) (pss_cons (ps_set (i := 3) sc_L_pick.nd rfl (Or.inl rfl) (pe_op op_modP (pe_callTy call_intP (by rfl) T.b_int (by decide +kernel) (pa_cons (pe_ix (ixK K) (pv 0) pe_int (fun _ _ => rfl)) pa_nil)) (pv 1))) (pss_cons (ps_asg (pe_op op_fdivP (pe_ix (ixK K) (pv 0) pe_int (fun _ _ => rfl)) (pv 1)) (pg_sub (pv 0) pe_int set_list)) (pss_one (ps_ret (pv 3))))) pss_nil) (pss_cons (ps_if (pt_cmpR op_ltP (pe_ix (ixK K) (pv 0) pe_int (fun _ _ => rfl)) (pe_callB (cLen K) (by rfl) T.b_len (by decide +kernel) (pa_cons (pe_ix (ixK K) (pv 0) pe_int (fun _ _ => rfl)) pa_nil)) (nomark _)) (pss_cons (ps_set (i := 2) sc_L_pick.nd rfl (Or.inl rfl) (pe_ix (ixK K) (pe_ix (ixK K) (pv 0) pe_int (fun _ _ => rfl)) (pe_ix (ixK K) (pv 0) pe_int (fun _ _ => rfl)) (fun _ _ => rfl))) (pss_cons (ps_asg (pe_op (opAdd K) (pe_ix (ixK K) (pv 0) pe_int (fun _ _ => rfl)) pe_int) (pg_sub (pv 0) pe_int set_list)) (pss_cons (ps_set (i := 4) sc_L_pick.nd rfl (Or.inl rfl) (pe_op op_modP (pe_callTy call_intP (by rfl) T.b_int (by decide +kernel) (pa_cons (pe_f (ok_L_mix (K := K) T) (hr.mono (by decide)) pass0 (pa_cons (pe_op (opAdd K) (pv 2) (pe_op op_mulP pe_int (pe_ix (ixK K) (pv 0) pe_int (fun _ _ => rfl)))) (pa_cons (pe_ix (ixK K) (pv 0) pe_int (fun _ _ => rfl)) pa_nil))) pa_nil)) (pv 1))) (Evl.pss_cut (ps_if (pt_cmpR (opEq K hr.units) (pe_ix (ixK K) (pv 0) pe_int (fun _ _ => rfl)) pe_int (nomark _)) (pss_cons (ps_asg pe_int (pg_sub (pv 0) pe_int set_list)) (pss_one (ps_asg (pe_op (opAdd K) (pe_ix (ixK K) (pv 0) pe_int (fun _ _ => rfl)) pe_int) (pg_sub (pv 0) pe_int set_list)))) pss_nil) (pss_one (ps_ret (pv 4))))))) pss_nil) (pss_cons (ps_asg (pe_op (opAdd K) (pe_ix (ixK K) (pv 0) pe_int (fun _ _ => rfl)) pe_int) (pg_sub (pv 0) pe_int set_list)) (pss_one (ps_ret (pe_op op_modP (pe_callTy call_intP (by rfl) T.b_int (by decide +kernel) (pa_cons (pe_f (ok_L_mix (K := K) T) (hr.mono (by decide)) pass0 (pa_cons (pe_ix (ixK K) (pv 0) pe_int (fun _ _ => rfl)) (pa_cons (pe_op (opAdd K) (pe_ix (ixK K) (pv 0) pe_int (fun _ _ => rfl)) pe_int) pa_nil))) pa_nil)) (pv 1))))))))), ?_⟩
  show (_ : TS) { nx := fun _ H' => Q .non H', rt := Q } [some x, some y, none, none, none] H
  obtain ⟨H0, d, many, rfl, rfl, dr, hmax, q⟩ := h
  walk_at "go"
  refine i_dec (fun e => ?_) (fun e => ?_)
  · walk_at "go"
    exact q 0 H dr ⟨Int.le_refl _, fun z => by omega, fun _ => rfl⟩
  walk_at "go"
  have hpos : 0 < many := by omega
  -- a great cell is taken up
  refine i_cut (fun σ H' => ∃ v2 v3 v4, σ = [some (.ref d.a), some (.int many), v2, v3, v4] ∧ Dr K d H0 H') ?_ ?_
  · obtain ⟨a, c, ns⟩ := d
    obtain ⟨s0, n0, hC, hl, p, b, u, x, sd, hA, hp⟩ := id dr
    dsimp only at *
    have hC' : SqL K H c (ns.map V.int) := s0.seq hC
    have skip : ∃ v2 v3 v4, ([some (.ref a), some (.int many), none, none, none] : L2.St) = [some (.ref a), some (.int many), v2, v3, v4] ∧ Dr K ⟨a, c, ns⟩ H0 H := ⟨_, _, _, rfl, dr⟩
    walk_at "go"
    refine i_dec (fun e1 => ?_) (fun e1 => skip)
    walk_at "go"
    refine i_len_lst hC' ?_
    walk_at "go"
    refine i_dec (fun e2 => ?_) (fun e2 => skip)
    walk_at "go"
    refine i_dec (fun e3 => ?_) (fun e3 => skip)
    walk_at "go"
    rw [List.length_map] at e2
    have hpl : p.toNat < ns.length := by omega
    refine i_ix_lst (v := .int ns[p.toNat]) hC' (atI_int hp (by rw [List.getElem?_map, List.getElem?_eq_getElem hpl]; rfl)) ?_
    walk_at "go"
    refine i_pow (by decide +kernel) ?_
    walk_at "go"
    have fin : ∃ v2 v3 v4, ([some (.ref a), some (.int many), some (.int ns[p.toNat]), none, none] : L2.St) = [some (.ref a), some (.int many), v2, v3, v4] ∧ Dr K ⟨a, c, ns⟩ H0 H := ⟨_, _, _, rfl, dr⟩
    refine i_dec (fun e4 => ?_) (fun e4 => ?_)
    case' refine_2 =>
      walk_at "go"
      refine i_pow (by decide +kernel) ?_
      walk_at "go"
      refine i_dec (fun e5 => ?_) (fun e5 => fin)
    all_goals
      walk_at "go"
      refine i_pow (by decide +kernel) ?_
      walk_at "go"
      refine i_pow (by decide +kernel) ?_
      walk_at "go"
      refine i_mod (by decide +kernel) ?_
      walk_at "go"
      refine i_setL 2 hA rfl rfl ?_
      walk_at "go"
      refine i_setL 1 upd_same rfl rfl ?_
      walk_at "go"
      rw [upd_upd]
      exact ⟨_, _, _, rfl, Same.upd s0 n0, n0, hC, hl, _, _, _, _, _, upd_same, by omega⟩
  · rintro σ H1 ⟨v2, v3, v4, rfl, d1⟩
    obtain ⟨a, c, ns⟩ := d
    obtain ⟨s0, n0, hC, hl, p, b, u, x, sd, hA, hp⟩ := id d1
    dsimp only at *
    have hC' : SqL K H1 c (ns.map V.int) := s0.seq hC
    have put : ∀ {p' b' u' x' s' : Int}, 0 ≤ p' → Dr K ⟨a, c, ns⟩ H0 (upd H1 a (.lst [.ref c, .int p', .int b', .int u', .int x', .int s'])) := fun h => ⟨Same.upd s0 n0, n0, hC, hl, _, _, _, _, _, upd_same, h⟩
    have btw : ∀ r : Int, Btw (r % many) many := fun r => ⟨Int.emod_nonneg _ (by omega), fun _ => Int.emod_lt_of_pos _ hpos, fun z => by omega⟩
    walk_at "go"
    refine i_dec (fun e1 => ?_) (fun e1 => ?_)
    · -- a digit of the great one
      walk_at "go"
      refine i_fdiv (wide_many hpos hmax) ?_
      walk_at "go"
      refine i_setL 2 hA rfl rfl ?_
      walk_at "go"
      exact q _ _ (put hp) (btw _)
    walk_at "go"
    refine i_len_lst hC' ?_
    walk_at "go"
    rw [List.length_map]
    refine i_dec (fun e2 => ?_) (fun e2 => ?_)
    · have hpl : p.toNat < ns.length := by omega
      walk_at "go"
      refine i_ix_lst (v := .int ns[p.toNat]) hC' (atI_int hp (by rw [List.getElem?_map, List.getElem?_eq_getElem hpl]; rfl)) ?_
      walk_at "go"
      refine i_setL 3 hA rfl rfl ?_
      walk_at "go"
      refine ⟨_, _, rfl, rfl, fun r => ?_⟩
      walk_at "go"
      refine i_cut (fun σ H' => ∃ v3, σ = [some (.ref a), some (.int many), some (.int ns[p.toNat]), v3, some (.int (r % many))] ∧ Dr K ⟨a, c, ns⟩ H0 H') ?_ ?_
      · walk_at "go"
        refine i_dec (fun e3 => ?_) (fun e3 => ⟨_, rfl, put hp⟩)
        walk_at "go"
        refine i_setL 3 upd_same rfl rfl ?_
        walk_at "go"
        refine i_setL 1 upd_same rfl rfl ?_
        walk_at "go"
        rw [upd_upd, upd_upd]
        exact ⟨_, rfl, put (by omega)⟩
      · rintro σ H2 ⟨v3, rfl, d2⟩
        walk_at "go"
        exact q _ _ d2 (btw _)
    · walk_at "go"
      refine i_setL 4 hA rfl rfl ?_
      walk_at "go"
      refine ⟨_, _, rfl, rfl, fun r => ?_⟩
      walk_at "go"
      exact q _ _ (put hp) (btw _)
end
end K43
namespace K43
open PySem PySem.Spec PyProof.Rows L2 Fg
local macro_rules | `(tactic| walk_at "sq") => `(tactic| first
  | assumption
  | exact .inl (.inl (by assumption))
  | exact .inl (.inl upd_same))
local macro_rules | `(tactic| walk_at "st") => `(tactic| first
  | assumption
  | exact .inl (.inl (by assumption))
  | exact .inl (.inl upd_same))
local macro_rules | `(tactic| walk_at "o") => `(tactic| first
  | omega
  | assumption
  | (simp only [List.length_append, List.length_take, List.length_drop, List.length_cons, List.length_nil, List.length_singleton, List.length_map, List.length_range, Int.toNat_natCast] ; omega))
local macro_rules | `(tactic| walk_at "s") => `(tactic| first
  | (with_reducible refine i_seq ?_)
  | (with_reducible refine i_asg ?_)
  | ((with_reducible refine' i_var ?h1 ?_); (case h1 => rfl))
  | (with_reducible refine i_c ?_)
  | ((with_reducible refine' i_gname' ?h1 ?_); (case h1 => (simp only [List.set_cons_zero, List.set_cons_succ]; rfl)))
  | (with_reducible refine i_op ?_)
  | (with_reducible refine i_ifS ?_)
  | (with_reducible refine i_for ?_)
  | (with_reducible refine i_test ?_)
  | (with_reducible refine i_B ?_)
  | (with_reducible refine i_exbl ?_)
  | (with_reducible refine i_exint ?_)
  | (with_reducible refine i_cb ?_)
  | (with_reducible refine i_nil ?_)
  | (with_reducible refine i_cons ?_)
  | (with_reducible refine i_ret ?_)
  | (with_reducible refine i_sl ?_)
  | (with_reducible refine i_nopart ?_)
  | (with_reducible refine i_part ?_)
  | (with_reducible refine i_add_int ?_)
  | (with_reducible refine i_sub ?_)
  | (with_reducible refine i_lt ?_)
  | ((with_reducible refine' i_mod ?h1 ?_); (case h1 => walk_at "o"))
  | ((with_reducible refine' i_fdiv ?h1 ?_); (case h1 => (refine cdiv_small ?_ ?_ <;> walk_at "o")))
  | ((with_reducible refine' i_sl_to ?h1 ?h2 ?_); (case h1 => walk_at "o"); (case h2 => walk_at "o"))
  | ((with_reducible refine' i_sl_from ?h1 ?h2 ?_); (case h1 => walk_at "o"); (case h2 => walk_at "o"))
  | ((with_reducible refine' i_add_str ?h1 ?_); (case h1 => walk_at "o"))
  | ((with_reducible refine' i_mul_int ?h1 ?_); (case h1 => first | (refine mul_small ?_ ?_ <;> walk_at "o") | (refine mul_smallR ?_ ?_ <;> walk_at "o")))
  | (with_reducible refine i_le ?_)
  | (with_reducible refine i_gt ?_)
  | (with_reducible refine i_ge ?_)
  | (with_reducible refine i_eq_int ?_)
  | (with_reducible refine i_eq_str ?_)
  | (with_reducible refine i_ne_int ?_)
  | (with_reducible refine i_ne_str ?_)
  | (with_reducible refine i_eq_bl ?_)
  | (with_reducible refine i_ne_bl ?_)
  | (with_reducible refine i_in_sg ?_)
  | (with_reducible refine i_notIn_sg ?_)
  | (with_reducible refine i_call ?_)
  | (with_reducible refine i_callS ?_)
  | (with_reducible refine i_sp1 ?_)
  | (with_reducible refine i_sp2 ?_)
  | (with_reducible refine i_sp3 ?_)
  | (with_reducible refine i_sp4 ?_)
  | (with_reducible refine i_sp1' ?_)
  | (with_reducible refine i_sp2' ?_)
  | (with_reducible refine i_sp3' ?_)
  | ((with_reducible refine' i_ix_lst ?h1 ?h2 ?_); (case h1 => walk_at "sq"); (case h2 => first | exact atI_nat rfl | rfl))
  | ((with_reducible refine' i_ix_tup ?h1 ?h2 ?_); (case h1 => walk_at "st"); (case h2 => first | exact atI_nat rfl | rfl))
  | (with_reducible refine i_gsub ?_)
  | (with_reducible refine i_par ?_)
  | (with_reducible refine i_lstRg1 ?_)
  | (with_reducible refine i_app ?_)
  | (with_reducible refine i_par2 ?_)
  | ((with_reducible refine' i_aug ?h1 ?_); (case h1 => rfl))
  | (with_reducible refine i_ipI ?_)
  | ((with_reducible refine' i_gtup2 ?h1 ?_); (case h1 => walk_at "st"))
  | (with_reducible refine i_int_bl ?_)
  | (with_reducible refine i_raise ?_)
  | (with_reducible refine i_mkE ?_)
  | (with_reducible refine i_ex1 ?_)
  | (with_reducible refine i_and ?_)
  | (with_reducible refine i_or ?_)
  | (with_reducible refine i_not ?_)
  | (with_reducible refine i_tt ?_)
  | (with_reducible refine i_ff ?_)
  | (with_reducible refine i_nott ?_)
  | (with_reducible refine i_notf ?_)
  | (with_reducible refine i_andV ?_)
  | (with_reducible refine i_orV ?_)
  | (with_reducible refine i_notV ?_)
  | (with_reducible refine i_ifE ?_)
  | (with_reducible refine i_tup ?_)
  | (with_reducible refine i_lst ?_)
  | (with_reducible refine i_un ?_)
  | (with_reducible refine i_neg ?_)
  | (with_reducible refine i_chain ?_)
  | (with_reducible refine i_next ?_)
  | (with_reducible refine i_retN ?_)
  | (with_reducible refine i_drop ?_)
  | (with_reducible refine i_int_int ?_)
  | (with_reducible refine i_abs ?_)
  | (with_reducible refine i_m1c ?_)
  | (with_reducible refine i_is_non ?_)
  | (with_reducible refine i_is_int ?_)
  | (with_reducible refine i_is_bl ?_)
  | (with_reducible refine i_isn_bl ?_)
  | (with_reducible refine i_is_str ?_)
  | (with_reducible refine i_is_ref ?_)
  | (with_reducible refine i_isn_non ?_)
  | (with_reducible refine i_isn_int ?_)
  | (with_reducible refine i_isn_str ?_)
  | (with_reducible refine i_isn_ref ?_)
  | (with_reducible refine i_len_str ?h1 ?_; (case h1 => walk_at "o"))
  | (with_reducible refine i_callD ?_)
  | (with_reducible refine i_spD2 ?_)
  | (with_reducible refine i_spM1 ?_)
  | (with_reducible refine i_spM2 ?_)
  | (with_reducible refine i_spM3 ?_)
  | (with_reducible refine i_spM4 ?_)
  | (with_reducible refine i_spM3d ?_)
  | (with_reducible refine i_tfld ?_)
  | (with_reducible refine i_sfld ?_)
  | (with_reducible refine i_meth ?_)
  | (with_reducible refine i_make ?_)
  | (with_reducible refine i_spl ?_)
  | (with_reducible refine i_mkE2 ?_)
  | (with_reducible refine i_ex2 ?_)
  | (with_reducible refine i_dget ?_)
  | (with_reducible refine i_tru ?_)
  | (with_reducible refine i_dput ?_)
  | (with_reducible refine i_dnotin ?_)
  | (with_reducible refine i_din ?_)
  | (with_reducible refine i_rev ?_)
  | (with_reducible refine i_isi_int_int ?_) | (with_reducible refine i_isi_int_bool ?_) | (with_reducible refine i_isi_int_str ?_) | (with_reducible refine i_isi_int_tuple ?_) | (with_reducible refine i_isi_int_list ?_)
  | (with_reducible refine i_isi_bl_int ?_) | (with_reducible refine i_isi_bl_bool ?_) | (with_reducible refine i_isi_bl_str ?_) | (with_reducible refine i_isi_bl_tuple ?_) | (with_reducible refine i_isi_bl_list ?_)
  | (with_reducible refine i_isi_str_int ?_) | (with_reducible refine i_isi_str_bool ?_) | (with_reducible refine i_isi_str_str ?_) | (with_reducible refine i_isi_str_tuple ?_) | (with_reducible refine i_isi_str_list ?_)
  | (with_reducible refine i_isi_non_int ?_) | (with_reducible refine i_isi_non_bool ?_) | (with_reducible refine i_isi_non_str ?_) | (with_reducible refine i_isi_non_tuple ?_) | (with_reducible refine i_isi_non_list ?_))
local macro_rules | `(tactic| walk_at "go") => `(tactic| (repeat' (walk_at "s")))
local macro_rules | `(tactic| walk_at "n") => `(tactic| simp only [wipe, List.map_cons, List.map_nil, List.set_cons_zero, List.set_cons_succ])
/-! ### comprehensions whose elements draw -/
section
variable {K : PySem.W.Frag} {σ : L2.St} {H H0 : Hp} {Q : VK} {te : TE} {ta : TA} {j : Nat} {vs : List Nat} {d : Dd}
theorem c_rngD (Pz : Int → Prop) (ha : ∀ R : List V → Hp → Prop, (∀ (z : Int) H1, Dr K d H0 H1 → Pz z → R [.int z] H1) → ta σ H R) (hz : ∀ z, Pz z → 0 ≤ z ∧ z ≤ 100000)
    (Pc : Nat → List V → Prop) (h0 : Pc 0 []) (hl : ∀ i acc, Pc i acc → acc.length ≤ 100000) (hw : ∀ x, wipe ((wipe σ vs).set j (some x)) vs = wipe σ vs)
    (he : ∀ (z : Int) (i : Nat) acc Hk H2, Pz z → (i : Int) < z → Pc i acc → Dr K d Hk H2 → ∀ QV : VK, (∀ y H3, Dr K d Hk H3 → Pc (i + 1) (acc ++ [y]) → QV y H3) → te ((wipe σ vs).set j (some (.int (i : Int)))) H2 QV)
    (q : ∀ (z : Int) Dl H3 acc, Pz z → H0 Dl = none → Pc z.toNat acc → Dr K d (upd H0 Dl (.lst acc)) H3 → Q (.ref Dl) H3) : tLc (iRng1 ta) (gName j) tYes te vs σ H Q := by
  refine ha _ fun z H1 dr pz => ⟨z, rfl, by have := hz z pz; omega, by have := hz z pz; omega, fun Dl nD => ?_⟩
  have n0 : H0 Dl = none := dr.free nD
  refine lc_range (fun i H' => ∃ acc, Pc i acc ∧ Dr K d (upd H0 Dl (.lst acc)) H') ⟨[], h0, dr.new nD⟩ (fun i H' hi p => ?_) (fun H' p => ?_)
  · obtain ⟨acc, pc, dr'⟩ := p
    rw [Int.zero_add]
    refine ⟨hw _, ?_⟩
    refine i_yes (i_tt ?_)
    refine he z i acc _ H' pz (by omega) pc dr' _ fun y H3 dr3 pc' => ⟨acc, dr3.old upd_same, Nat.lt_of_le_of_lt (hl i acc pc) (by decide), _, pc', dr3.put dr.cells n0⟩
  · obtain ⟨acc, pc, dr'⟩ := p
    exact q z Dl H' acc pz n0 pc dr'
end
section
variable {K : PySem.W.Frag} {σ : L2.St} {H H0 : Hp} {Q : VK} {te tl : TE} {j : Nat} {vs : List Nat} {d : Dd} {a : Addr} {xs : List V}
/-- a comprehension over a list that is known, whose elements draw -/
theorem c_lstD (dr : Dr K d H0 H) (hx : H0 a = some (.lst xs)) (ha : ∀ R : VK, R (.ref a) H → tl σ H R) (hn : xs.length ≤ 100000)
    (Pc : Nat → List V → Prop) (h0 : Pc 0 []) (hl : ∀ i acc, Pc i acc → acc.length ≤ 100000) (hw : ∀ x, wipe ((wipe σ vs).set j (some x)) vs = wipe σ vs)
    (he : ∀ (i : Nat) x acc Hk H2, xs[i]? = some x → Pc i acc → Dr K d Hk H2 → ∀ QV : VK, (∀ y H3, Dr K d Hk H3 → Pc (i + 1) (acc ++ [y]) → QV y H3) → te ((wipe σ vs).set j (some x)) H2 QV)
    (q : ∀ Dl H3 acc, H0 Dl = none → Pc xs.length acc → Dr K d (upd H0 Dl (.lst acc)) H3 → Q (.ref Dl) H3) : tLc (iAny K tl) (gName j) tYes te vs σ H Q := by
  refine ha _ (.inl ⟨a, xs, rfl, .inl (.inl (dr.old hx)), fun Dl nD => ?_⟩)
  have n0 : H0 Dl = none := dr.free nD
  have ne : a ≠ Dl := ne_of_none hx n0
  refine lc_list (xs := xs) (fun i H' => ∃ acc, Pc i acc ∧ Dr K d (upd H0 Dl (.lst acc)) H') ⟨[], h0, dr.new nD⟩ (fun i H' _ p => ?_) (fun i x H' hi p => ?_) (fun H' p => ?_)
  · obtain ⟨acc, _, dr'⟩ := p
    exact .inl (.inl (dr'.old ((upd_ne ne).trans hx)))
  · obtain ⟨acc, pc, dr'⟩ := p
    refine ⟨hw _, ?_⟩
    refine i_yes (i_tt ?_)
    refine he i x acc _ H' hi pc dr' _ fun y H3 dr3 pc' => ⟨acc, dr3.old upd_same, Nat.lt_of_le_of_lt (hl i acc pc) (by decide), _, pc', dr3.put dr.cells n0⟩
  · obtain ⟨acc, pc, dr'⟩ := p
    exact q Dl H' acc n0 pc dr'
end
section
variable {K : PySem.W.Frag} {d : Dd} {H0 H : Hp} {q : Addr} {o : HO}
theorem Dr.self (h : Dr K d H0 H) : ∃ o, H d.a = some o := by
  obtain ⟨s0, n0, hc, hl, p, b, u, x, sd, ha, hp⟩ := h
  exact ⟨_, ha⟩
theorem Dr.ne (h : Dr K d H0 H) (n : H q = none) : q ≠ d.a := fun z => by
  obtain ⟨o, e⟩ := h.self
  rw [← z, n] at e
  cases e
/-- what stands is known -/
theorem Dr.learn (h : Dr K d H0 H) (e : H q = some o) (ne : q ≠ d.a) : Dr K d (upd H0 q o) H := by
  obtain ⟨s0, n0, hc, hl, p, b, u, x, sd, ha, hp⟩ := h
  have s1 : Same H0 (upd H0 q o) := fun b' o' e' => by
    by_cases hb : b' = q
    · subst hb
      rw [upd_same]
      have := s0 _ _ e'
      rw [e] at this
      exact this
    · rw [upd_ne hb]; exact e'
  refine ⟨fun b' o' e' => ?_, by rw [upd_ne (Ne.symm ne)]; exact n0, s1.seq hc, hl, p, b, u, x, sd, ha, hp⟩
  by_cases hb : b' = q
  · subst hb
    rw [upd_same] at e'
    rw [e]; exact e'
  · rw [upd_ne hb] at e'
    exact s0 _ _ e'
end
/-- a new object, known or not -/
theorem Dr.skip {K : PySem.W.Frag} {d : Dd} {H0 H : Hp} {q : Addr} {o : HO} (h : Dr K d H0 H) (n : H q = none) : Dr K d H0 (upd H q o) := h.same (same_upd n)
theorem Dr.step {K : PySem.W.Frag} {d : Dd} {Hk H : Hp} {p : Addr} (o : HO) (h : Dr K d Hk H) (n : H p = none) : ∃ Hk', Same Hk Hk' ∧ Hk' p = some o ∧ Dr K d Hk' (upd H p o) := ⟨upd Hk p o, same_upd (h.free n), upd_same, h.new n⟩
theorem Dr.back {K : PySem.W.Frag} {d : Dd} {H0 H1 H H' : Hp} (h : Dr K d H1 H) (dr : Dr K d H0 H') (s : Same H0 H1) : Dr K d H0 H := by
  obtain ⟨s1, n1, hc1, hl, p, b, u, x, sd, ha, hp⟩ := h
  obtain ⟨s0, n0, hc, _⟩ := dr
  exact ⟨s.trans s1, n0, hc, hl, p, b, u, x, sd, ha, hp⟩
end K43
namespace K43
open PySem PySem.Spec PyProof.Rows L2 Fg
local macro_rules | `(tactic| walk_at "sq") => `(tactic| first
  | assumption
  | exact .inl (.inl (by assumption))
  | exact .inl (.inl upd_same))
local macro_rules | `(tactic| walk_at "st") => `(tactic| first
  | assumption
  | exact .inl (.inl (by assumption))
  | exact .inl (.inl upd_same))
local macro_rules | `(tactic| walk_at "o") => `(tactic| first
  | omega
  | assumption
  | (simp only [List.length_append, List.length_take, List.length_drop, List.length_cons, List.length_nil, List.length_singleton, List.length_map, List.length_range, Int.toNat_natCast] ; omega))
local macro_rules | `(tactic| walk_at "s") => `(tactic| first
  | (with_reducible refine i_seq ?_)
  | (with_reducible refine i_asg ?_)
  | ((with_reducible refine' i_var ?h1 ?_); (case h1 => rfl))
  | (with_reducible refine i_c ?_)
  | ((with_reducible refine' i_gname' ?h1 ?_); (case h1 => (simp only [List.set_cons_zero, List.set_cons_succ]; rfl)))
  | (with_reducible refine i_op ?_)
  | (with_reducible refine i_ifS ?_)
  | (with_reducible refine i_for ?_)
  | (with_reducible refine i_test ?_)
  | (with_reducible refine i_B ?_)
  | (with_reducible refine i_exbl ?_)
  | (with_reducible refine i_exint ?_)
  | (with_reducible refine i_cb ?_)
  | (with_reducible refine i_nil ?_)
  | (with_reducible refine i_cons ?_)
  | (with_reducible refine i_ret ?_)
  | (with_reducible refine i_sl ?_)
  | (with_reducible refine i_nopart ?_)
  | (with_reducible refine i_part ?_)
  | (with_reducible refine i_add_int ?_)
  | (with_reducible refine i_sub ?_)
  | (with_reducible refine i_lt ?_)
  | ((with_reducible refine' i_mod ?h1 ?_); (case h1 => walk_at "o"))
  | ((with_reducible refine' i_fdiv ?h1 ?_); (case h1 => (refine cdiv_small ?_ ?_ <;> walk_at "o")))
  | ((with_reducible refine' i_sl_to ?h1 ?h2 ?_); (case h1 => walk_at "o"); (case h2 => walk_at "o"))
  | ((with_reducible refine' i_sl_from ?h1 ?h2 ?_); (case h1 => walk_at "o"); (case h2 => walk_at "o"))
  | ((with_reducible refine' i_add_str ?h1 ?_); (case h1 => walk_at "o"))
  | ((with_reducible refine' i_mul_int ?h1 ?_); (case h1 => first | (refine mul_small ?_ ?_ <;> walk_at "o") | (refine mul_smallR ?_ ?_ <;> walk_at "o")))
  | (with_reducible refine i_le ?_)
  | (with_reducible refine i_gt ?_)
  | (with_reducible refine i_ge ?_)
  | (with_reducible refine i_eq_int ?_)
  | (with_reducible refine i_eq_str ?_)
  | (with_reducible refine i_ne_int ?_)
  | (with_reducible refine i_ne_str ?_)
  | (with_reducible refine i_eq_bl ?_)
  | (with_reducible refine i_ne_bl ?_)
  | (with_reducible refine i_in_sg ?_)
  | (with_reducible refine i_notIn_sg ?_)
  | (with_reducible refine i_call ?_)
  | (with_reducible refine i_callS ?_)
  | (with_reducible refine i_sp1 ?_)
  | (with_reducible refine i_sp2 ?_)
  | (with_reducible refine i_sp3 ?_)
  | (with_reducible refine i_sp4 ?_)
  | (with_reducible refine i_sp1' ?_)
  | (with_reducible refine i_sp2' ?_)
  | (with_reducible refine i_sp3' ?_)
  | ((with_reducible refine' i_ix_lst ?h1 ?h2 ?_); (case h1 => walk_at "sq"); (case h2 => first | exact atI_nat rfl | rfl))
  | ((with_reducible refine' i_ix_tup ?h1 ?h2 ?_); (case h1 => walk_at "st"); (case h2 => first | exact atI_nat rfl | rfl))
  | (with_reducible refine i_gsub ?_)
  | (with_reducible refine i_par ?_)
  | (with_reducible refine i_lstRg1 ?_)
  | (with_reducible refine i_app ?_)
  | (with_reducible refine i_par2 ?_)
  | ((with_reducible refine' i_aug ?h1 ?_); (case h1 => rfl))
  | (with_reducible refine i_ipI ?_)
  | ((with_reducible refine' i_gtup2 ?h1 ?_); (case h1 => walk_at "st"))
  | (with_reducible refine i_int_bl ?_)
  | (with_reducible refine i_raise ?_)
  | (with_reducible refine i_mkE ?_)
  | (with_reducible refine i_ex1 ?_)
  | (with_reducible refine i_and ?_)
  | (with_reducible refine i_or ?_)
  | (with_reducible refine i_not ?_)
  | (with_reducible refine i_tt ?_)
  | (with_reducible refine i_ff ?_)
  | (with_reducible refine i_nott ?_)
  | (with_reducible refine i_notf ?_)
  | (with_reducible refine i_andV ?_)
  | (with_reducible refine i_orV ?_)
  | (with_reducible refine i_notV ?_)
  | (with_reducible refine i_ifE ?_)
  | (with_reducible refine i_tup ?_)
  | (with_reducible refine i_lst ?_)
  | (with_reducible refine i_un ?_)
  | (with_reducible refine i_neg ?_)
  | (with_reducible refine i_chain ?_)
  | (with_reducible refine i_next ?_)
  | (with_reducible refine i_retN ?_)
  | (with_reducible refine i_drop ?_)
  | (with_reducible refine i_int_int ?_)
  | (with_reducible refine i_abs ?_)
  | (with_reducible refine i_m1c ?_)
  | (with_reducible refine i_is_non ?_)
  | (with_reducible refine i_is_int ?_)
  | (with_reducible refine i_is_bl ?_)
  | (with_reducible refine i_isn_bl ?_)
  | (with_reducible refine i_is_str ?_)
  | (with_reducible refine i_is_ref ?_)
  | (with_reducible refine i_isn_non ?_)
  | (with_reducible refine i_isn_int ?_)
  | (with_reducible refine i_isn_str ?_)
  | (with_reducible refine i_isn_ref ?_)
  | (with_reducible refine i_len_str ?h1 ?_; (case h1 => walk_at "o"))
  | (with_reducible refine i_callD ?_)
  | (with_reducible refine i_spD2 ?_)
  | (with_reducible refine i_spM1 ?_)
  | (with_reducible refine i_spM2 ?_)
  | (with_reducible refine i_spM3 ?_)
  | (with_reducible refine i_spM4 ?_)
  | (with_reducible refine i_spM3d ?_)
  | (with_reducible refine i_tfld ?_)
  | (with_reducible refine i_sfld ?_)
  | (with_reducible refine i_meth ?_)
  | (with_reducible refine i_make ?_)
  | (with_reducible refine i_spl ?_)
  | (with_reducible refine i_mkE2 ?_)
  | (with_reducible refine i_ex2 ?_)
  | (with_reducible refine i_dget ?_)
  | (with_reducible refine i_tru ?_)
  | (with_reducible refine i_dput ?_)
  | (with_reducible refine i_dnotin ?_)
  | (with_reducible refine i_din ?_)
  | (with_reducible refine i_rev ?_)
  | (with_reducible refine i_isi_int_int ?_) | (with_reducible refine i_isi_int_bool ?_) | (with_reducible refine i_isi_int_str ?_) | (with_reducible refine i_isi_int_tuple ?_) | (with_reducible refine i_isi_int_list ?_)
  | (with_reducible refine i_isi_bl_int ?_) | (with_reducible refine i_isi_bl_bool ?_) | (with_reducible refine i_isi_bl_str ?_) | (with_reducible refine i_isi_bl_tuple ?_) | (with_reducible refine i_isi_bl_list ?_)
  | (with_reducible refine i_isi_str_int ?_) | (with_reducible refine i_isi_str_bool ?_) | (with_reducible refine i_isi_str_str ?_) | (with_reducible refine i_isi_str_tuple ?_) | (with_reducible refine i_isi_str_list ?_)
  | (with_reducible refine i_isi_non_int ?_) | (with_reducible refine i_isi_non_bool ?_) | (with_reducible refine i_isi_non_str ?_) | (with_reducible refine i_isi_non_tuple ?_) | (with_reducible refine i_isi_non_list ?_))
local macro_rules | `(tactic| walk_at "go") => `(tactic| (repeat' (walk_at "s")))
local macro_rules | `(tactic| walk_at "n") => `(tactic| simp only [wipe, List.map_cons, List.map_nil, List.set_cons_zero, List.set_cons_succ])
/-! ### plain values -/
def isIn : PyData → Int → Int → Bool
  | .int i, lo, hi => decide (lo ≤ i) && decide (i ≤ hi)
  | _, _, _ => false
theorem isIn_int (i lo hi : Int) : isIn (.int i) lo hi = (decide (lo ≤ i) && decide (i ≤ hi)) := rfl
section
variable {P : Program} {w : World} {K : PySem.W.Frag} {mg : Str → Option Value} {base : Heap} {C_GlimError C_BadLine C_BadOrder C_NoLine C_Lines C_Orders C_WORDS : Addr}
def p_is_integer : P3 := fun x y z H Q _ => ∃ d lo hi, At H x d ∧ y = .int lo ∧ z = .int hi ∧ Q (.bl (isIn d lo hi)) H
theorem ok_is_integer (T : Txt K mg C_GlimError C_BadLine C_BadOrder C_NoLine C_Lines C_Orders C_WORDS) : OK P w K mg base CX0 1 "is_integer" ["thing", "low", "high"] (sp3  p_is_integer) := by
  refine OK.mk (k := 0) T.d_is_integer sc_is_integer len3 fun f cdv A outer s H vs Q E hr h => ?_
  obtain ⟨x, y, z, rfl, h⟩ := h
  refine ⟨_, (pss_cons (ps_if (pw_or (pt_val (pe_callB (cIsi K) (by rfl) T.b_isinstance (by decide +kernel) (pa_cons (pv 0) (pa_cons (pe_bltn (v := .ty "bool") (by rfl) T.b_bool (by decide +kernel) rfl) pa_nil)))) (pw_or1 (pt_not (pt_val (pe_callB (cIsi K) (by rfl) T.b_isinstance (by decide +kernel) (pa_cons (pv 0) (pa_cons (pe_bltn (v := .ty "int") (by rfl) T.b_int (by decide +kernel) rfl) pa_nil))))))).pt (pss_one (ps_ret pe_bl)) pss_nil) (pss_one (ps_ret (pe_chain op_leP op_leP (pv 1) (pv 0) (pv 2))))), ?_⟩
  show (_ : TS) { nx := fun _ H' => Q .non H', rt := Q } [some x, some y, some z] H
  obtain ⟨d, lo, hi, hx, rfl, rfl, q⟩ := h
  cases d
  case int i =>
    obtain rfl := hx.intd
    rw [isIn_int] at q
    walk_at "go"
    refine i_dec (fun e => ?_) (fun e => ?_)
    · walk_at "go"
      rw [decide_eq_true e, Bool.true_and] at q
      exact q
    · rw [decide_eq_false e, Bool.false_and] at q
      exact q
  case bool b =>
    walk_at "go"
    refine i_isiBool true hx rfl ?_
    walk_at "go"
    exact q
  all_goals
    walk_at "go"
    refine i_isiBool false hx rfl ?_
    walk_at "go"
    refine i_isiInt false hx rfl ?_
    walk_at "go"
    exact q
def p_deepN (n : Nat) : P2 := fun x y H Q _ => ∃ A d z, Same A H ∧ At A x d ∧ y = .int z ∧ 0 ≤ z ∧ z + n ≤ 65 ∧ d.depth < n ∧ ∀ A' H' v, Ext A H A' H' → At A' v (deepD d) → Q v H'
theorem deep_n (T : Txt K mg C_GlimError C_BadLine C_BadOrder C_NoLine C_Lines C_Orders C_WORDS) (n : Nat) (R : OK P w K mg base CX0 n "deep" ["thing", "level"] (sp2 (p_deepN n))) : OKD P w K mg base CX0 (n + 1) "deep" ["thing", "level"] [.int 0] (sp2 (p_deepN (n + 1))) := by
  refine OKD.mk (k := n) T.d_deep sc_deep len2 fun f cdv A outer s H vs Q E hr h => ?_
  obtain ⟨x, y, rfl, h⟩ := h
  refine ⟨_, (pss_cons (ps_if (pw_and (pt_val (pe_callB (cIsiT K) (by rfl) T.b_isinstance (by decide +kernel) (pa_cons (pv 0) (pa_cons (pe_tup (pa_cons (pe_bltn (v := .ty "list") (by rfl) T.b_list (by decide +kernel) rfl) (pa_cons (pe_bltn (v := .ty "tuple") (by rfl) T.b_tuple (by decide +kernel) rfl) pa_nil))) pa_nil)))) (pw_and1 (pt_cmpR op_ltP (pv 1) (pe_gI (70) T.g_MOST_LEVELS) (nomark _)))).pt (pss_one (ps_ret (pe_callTy (cTup K) (by rfl) T.b_tuple (by decide +kernel) (pa_cons (pe_lc (own := [("part", 2)]) (g := gName 2) (tt := tYes) (by rfl) sc_deep.nd (piAny K (pv 0)) (blkOk_by (own := [("part", 2)]) (N := ["thing", "level", "part"]) (sc := (defScope s_deep)) (by decide +kernel)) (fun _ _ _ _ _ => (pg_name (i := 2) sc_deep.nd rfl (Or.inl rfl))) (fun _ _ _ _ _ => pts_nil) (fun _ _ _ _ _ => (pe_f R (hr.mono (by omega)) pass0 (pa_cons (pv 2) (pa_cons (pe_op (opAdd K) (pv 1) pe_int) pa_nil))))) pa_nil)))) pss_nil) (pss_one (ps_ret (pv 0)))), ?_⟩
  show (_ : TS) { nx := fun _ H' => Q .non H', rt := Q } [some x, some y, none] H
  obtain ⟨A, d, z, sa, hx, rfl, z0, zn, dd, q⟩ := h
  walk_at "go"
  refine i_new (by show 2 ≤ 100000; omega) fun tp ntp => ?_
  have x1 := (Ext.refl sa).hid (o := .tup [.ty "list", .ty "tuple"]) ntp
  walk_at "go"
  cases d
  case list ds =>
    obtain ⟨a, xs, rfl, hH, hl, al⟩ := hx.listed
    have e1 : deepD (.list ds) = .tuple (ds.map deepD) := by rw [← deepDs_map]; rfl
    have d1 : PyData.depthAll ds + 1 < n + 1 := dd
    rw [e1] at q
    refine i_isiSeq true (x1.up hx) upd_same rfl ?_
    walk_at "go"
    rw [decide_eq_true (show z < 70 by omega)]
    walk_at "go"
    refine Fg.c_lstD x1.ag (fun R k => by walk_at "go"; exact k) (.inl (.inl (x1.ag _ _ hH))) al hl deepD (fun _ => rfl) (fun y d A1 G1 hd hy y1 QV k => ?_) (fun Dl A1 G1 l y1 e ea al2 ll => ?_)
    · show (_ : TE) [some (.ref a), some (.int z), some y] G1 QV
      have d2 := depth_mem hd
      walk_at "go"
      exact ⟨A1, d, z + 1, y1.ag, hy, rfl, by omega, by omega, by omega, k⟩
    · walk_at "go"
      refine i_tuple_lst (.inl (.inl e)) fun tl ntl => ?_
      have na : A1 tl = none := y1.ag.free ntl
      have hds := al.len
      exact q _ _ _ ((x1.trans y1).new ntl) (At.mkTup upd_same (al2.same (same_upd na)) (by rw [List.length_map]; omega))
  case tuple ds =>
    obtain ⟨a, xs, rfl, hH, hl, al⟩ := hx.tupled
    have e1 : deepD (.tuple ds) = .tuple (ds.map deepD) := by rw [← deepDs_map]; rfl
    have d1 : PyData.depthAll ds + 1 < n + 1 := dd
    rw [e1] at q
    refine i_isiSeq true (x1.up hx) upd_same rfl ?_
    walk_at "go"
    rw [decide_eq_true (show z < 70 by omega)]
    walk_at "go"
    refine c_tupD x1.ag (fun R k => by walk_at "go"; exact k) (.inl (.inl (x1.ag _ _ hH))) al hl deepD (fun _ => rfl) (fun y d A1 G1 hd hy y1 QV k => ?_) (fun Dl A1 G1 l y1 e ea al2 ll => ?_)
    · show (_ : TE) [some (.ref a), some (.int z), some y] G1 QV
      have d2 := depth_mem hd
      walk_at "go"
      exact ⟨A1, d, z + 1, y1.ag, hy, rfl, by omega, by omega, by omega, k⟩
    · walk_at "go"
      refine i_tuple_lst (.inl (.inl e)) fun tl ntl => ?_
      have na : A1 tl = none := y1.ag.free ntl
      have hds := al.len
      exact q _ _ _ ((x1.trans y1).new ntl) (At.mkTup upd_same (al2.same (same_upd na)) (by rw [List.length_map]; omega))
  all_goals
    refine i_isiSeq false (x1.up hx) upd_same rfl ?_
    walk_at "go"
    exact q _ _ _ x1 hx
theorem deep_all (T : Txt K mg C_GlimError C_BadLine C_BadOrder C_NoLine C_Lines C_Orders C_WORDS) : ∀ n, OK P w K mg base CX0 n "deep" ["thing", "level"] (sp2 (p_deepN n))
  | 0 => OK.weak (OK.never T.d_deep) fun vs H Q E h => by
    obtain ⟨_, _, _, _, _, _, _, _, _, _, z, _⟩ := h
    omega
  | n + 1 => (deep_n T n (deep_all T n)).full
theorem ok_deep (T : Txt K mg C_GlimError C_BadLine C_BadOrder C_NoLine C_Lines C_Orders C_WORDS) : OKD P w K mg base CX0 6 "deep" ["thing", "level"] [.int 0] (sp2 (p_deepN 6)) := deep_n T 5 (deep_all T 5)
end
end K43
namespace K43
open PySem PySem.Spec PyProof.Rows L2 Fg
local macro_rules | `(tactic| walk_at "sq") => `(tactic| first
  | assumption
  | exact .inl (.inl (by assumption))
  | exact .inl (.inl upd_same))
local macro_rules | `(tactic| walk_at "st") => `(tactic| first
  | assumption
  | exact .inl (.inl (by assumption))
  | exact .inl (.inl upd_same))
local macro_rules | `(tactic| walk_at "o") => `(tactic| first
  | omega
  | assumption
  | (simp only [List.length_append, List.length_take, List.length_drop, List.length_cons, List.length_nil, List.length_singleton, List.length_map, List.length_range, Int.toNat_natCast] ; omega))
local macro_rules | `(tactic| walk_at "s") => `(tactic| first
  | (with_reducible refine i_seq ?_)
  | (with_reducible refine i_asg ?_)
  | ((with_reducible refine' i_var ?h1 ?_); (case h1 => rfl))
  | (with_reducible refine i_c ?_)
  | ((with_reducible refine' i_gname' ?h1 ?_); (case h1 => (simp only [List.set_cons_zero, List.set_cons_succ]; rfl)))
  | (with_reducible refine i_op ?_)
  | (with_reducible refine i_ifS ?_)
  | (with_reducible refine i_for ?_)
  | (with_reducible refine i_test ?_)
  | (with_reducible refine i_B ?_)
  | (with_reducible refine i_exbl ?_)
  | (with_reducible refine i_exint ?_)
  | (with_reducible refine i_cb ?_)
  | (with_reducible refine i_nil ?_)
  | (with_reducible refine i_cons ?_)
  | (with_reducible refine i_ret ?_)
  | (with_reducible refine i_sl ?_)
  | (with_reducible refine i_nopart ?_)
  | (with_reducible refine i_part ?_)
  | (with_reducible refine i_add_int ?_)
  | (with_reducible refine i_sub ?_)
  | (with_reducible refine i_lt ?_)
  | ((with_reducible refine' i_mod ?h1 ?_); (case h1 => walk_at "o"))
  | ((with_reducible refine' i_fdiv ?h1 ?_); (case h1 => (refine cdiv_small ?_ ?_ <;> walk_at "o")))
  | ((with_reducible refine' i_sl_to ?h1 ?h2 ?_); (case h1 => walk_at "o"); (case h2 => walk_at "o"))
  | ((with_reducible refine' i_sl_from ?h1 ?h2 ?_); (case h1 => walk_at "o"); (case h2 => walk_at "o"))
  | ((with_reducible refine' i_add_str ?h1 ?_); (case h1 => walk_at "o"))
  | ((with_reducible refine' i_mul_int ?h1 ?_); (case h1 => first | (refine mul_small ?_ ?_ <;> walk_at "o") | (refine mul_smallR ?_ ?_ <;> walk_at "o")))
  | (with_reducible refine i_le ?_)
  | (with_reducible refine i_gt ?_)
  | (with_reducible refine i_ge ?_)
  | (with_reducible refine i_eq_int ?_)
  | (with_reducible refine i_eq_str ?_)
  | (with_reducible refine i_ne_int ?_)
  | (with_reducible refine i_ne_str ?_)
  | (with_reducible refine i_eq_bl ?_)
  | (with_reducible refine i_ne_bl ?_)
  | (with_reducible refine i_in_sg ?_)
  | (with_reducible refine i_notIn_sg ?_)
  | (with_reducible refine i_call ?_)
  | (with_reducible refine i_callS ?_)
  | (with_reducible refine i_sp1 ?_)
  | (with_reducible refine i_sp2 ?_)
  | (with_reducible refine i_sp3 ?_)
  | (with_reducible refine i_sp4 ?_)
  | (with_reducible refine i_sp1' ?_)
  | (with_reducible refine i_sp2' ?_)
  | (with_reducible refine i_sp3' ?_)
  | ((with_reducible refine' i_ix_lst ?h1 ?h2 ?_); (case h1 => walk_at "sq"); (case h2 => first | exact atI_nat rfl | rfl))
  | ((with_reducible refine' i_ix_tup ?h1 ?h2 ?_); (case h1 => walk_at "st"); (case h2 => first | exact atI_nat rfl | rfl))
  | (with_reducible refine i_gsub ?_)
  | (with_reducible refine i_par ?_)
  | (with_reducible refine i_lstRg1 ?_)
  | (with_reducible refine i_app ?_)
  | (with_reducible refine i_par2 ?_)
  | ((with_reducible refine' i_aug ?h1 ?_); (case h1 => rfl))
  | (with_reducible refine i_ipI ?_)
  | ((with_reducible refine' i_gtup2 ?h1 ?_); (case h1 => walk_at "st"))
  | (with_reducible refine i_int_bl ?_)
  | (with_reducible refine i_raise ?_)
  | (with_reducible refine i_mkE ?_)
  | (with_reducible refine i_ex1 ?_)
  | (with_reducible refine i_and ?_)
  | (with_reducible refine i_or ?_)
  | (with_reducible refine i_not ?_)
  | (with_reducible refine i_tt ?_)
  | (with_reducible refine i_ff ?_)
  | (with_reducible refine i_nott ?_)
  | (with_reducible refine i_notf ?_)
  | (with_reducible refine i_andV ?_)
  | (with_reducible refine i_orV ?_)
  | (with_reducible refine i_notV ?_)
  | (with_reducible refine i_ifE ?_)
  | (with_reducible refine i_tup ?_)
  | (with_reducible refine i_lst ?_)
  | (with_reducible refine i_un ?_)
  | (with_reducible refine i_neg ?_)
  | (with_reducible refine i_chain ?_)
  | (with_reducible refine i_next ?_)
  | (with_reducible refine i_retN ?_)
  | (with_reducible refine i_drop ?_)
  | (with_reducible refine i_int_int ?_)
  | (with_reducible refine i_abs ?_)
  | (with_reducible refine i_m1c ?_)
  | (with_reducible refine i_is_non ?_)
  | (with_reducible refine i_is_int ?_)
  | (with_reducible refine i_is_bl ?_)
  | (with_reducible refine i_isn_bl ?_)
  | (with_reducible refine i_is_str ?_)
  | (with_reducible refine i_is_ref ?_)
  | (with_reducible refine i_isn_non ?_)
  | (with_reducible refine i_isn_int ?_)
  | (with_reducible refine i_isn_str ?_)
  | (with_reducible refine i_isn_ref ?_)
  | (with_reducible refine i_len_str ?h1 ?_; (case h1 => walk_at "o"))
  | (with_reducible refine i_callD ?_)
  | (with_reducible refine i_spD2 ?_)
  | (with_reducible refine i_spM1 ?_)
  | (with_reducible refine i_spM2 ?_)
  | (with_reducible refine i_spM3 ?_)
  | (with_reducible refine i_spM4 ?_)
  | (with_reducible refine i_spM3d ?_)
  | (with_reducible refine i_tfld ?_)
  | (with_reducible refine i_sfld ?_)
  | (with_reducible refine i_meth ?_)
  | (with_reducible refine i_make ?_)
  | (with_reducible refine i_spl ?_)
  | (with_reducible refine i_mkE2 ?_)
  | (with_reducible refine i_ex2 ?_)
  | (with_reducible refine i_dget ?_)
  | (with_reducible refine i_tru ?_)
  | (with_reducible refine i_dput ?_)
  | (with_reducible refine i_dnotin ?_)
  | (with_reducible refine i_din ?_)
  | (with_reducible refine i_rev ?_)
  | (with_reducible refine i_isi_int_int ?_) | (with_reducible refine i_isi_int_bool ?_) | (with_reducible refine i_isi_int_str ?_) | (with_reducible refine i_isi_int_tuple ?_) | (with_reducible refine i_isi_int_list ?_)
  | (with_reducible refine i_isi_bl_int ?_) | (with_reducible refine i_isi_bl_bool ?_) | (with_reducible refine i_isi_bl_str ?_) | (with_reducible refine i_isi_bl_tuple ?_) | (with_reducible refine i_isi_bl_list ?_)
  | (with_reducible refine i_isi_str_int ?_) | (with_reducible refine i_isi_str_bool ?_) | (with_reducible refine i_isi_str_str ?_) | (with_reducible refine i_isi_str_tuple ?_) | (with_reducible refine i_isi_str_list ?_)
  | (with_reducible refine i_isi_non_int ?_) | (with_reducible refine i_isi_non_bool ?_) | (with_reducible refine i_isi_non_str ?_) | (with_reducible refine i_isi_non_tuple ?_) | (with_reducible refine i_isi_non_list ?_))
local macro_rules | `(tactic| walk_at "go") => `(tactic| (repeat' (walk_at "s")))
local macro_rules | `(tactic| walk_at "n") => `(tactic| simp only [wipe, List.map_cons, List.map_nil, List.set_cons_zero, List.set_cons_succ])
/-! ### marks, names, sets of signs -/
abbrev MK : List Nat := [97, 98, 99, 100, 101, 102, 103, 104, 105, 106, 107, 108, 109, 110, 111, 112, 113, 114, 115, 116, 117, 118, 119, 120, 121, 122, 48, 49, 50, 51, 52, 53, 54, 55, 56, 57]
def isMkL (l : List Nat) : Bool := decide (l.length ≤ 8) && l.all fun c => decide (c ∈ MK)
def isMk : PyData → Bool
  | .str x => isMkL x.cps.toList
  | _ => false
def isNm : PyData → Bool
  | .str x => isMkL x.cps.toList && decide (x.cps.toList ≠ [])
  | _ => false
def sgsL (l : List Nat) : Bool := decide (l ≠ []) && decide (l = SG.filter fun c => decide (c ∈ l))
def isSgs : PyData → Bool
  | .str x => sgsL x.cps.toList
  | _ => false
theorem all_take {l : List Nat} {P : Nat → Prop} (h : ∀ c ∈ l.take l.length, P c) : ∀ c ∈ l, P c := by rw [List.take_length] at h; exact h
theorem take_step {l : List Nat} {P : Nat → Prop} {i c : Nat} (hc : l[i]? = some c) (h : ∀ c ∈ l.take i, P c) (k : P c) : ∀ c ∈ l.take (i + 1), P c := by
  rw [List.take_succ, hc]
  intro x hx
  rcases List.mem_append.mp hx with hx | hx
  · exact h x hx
  · have : x = c := by simpa using hx
    rw [this]; exact k
section
variable {P : Program} {w : World} {K : PySem.W.Frag} {mg : Str → Option Value} {base : Heap} {C_GlimError C_BadLine C_BadOrder C_NoLine C_Lines C_Orders C_WORDS : Addr}
def p_is_mark : P1 := fun x H Q _ => ∃ d, At H x d ∧ Q (.bl (isMk d)) H
theorem ok_is_mark (T : Txt K mg C_GlimError C_BadLine C_BadOrder C_NoLine C_Lines C_Orders C_WORDS) : OK P w K mg base CX0 1 "is_mark" ["thing"] (sp1  p_is_mark) := by
  refine OK.mk (k := 0) T.d_is_mark sc_is_mark len1 fun f cdv A outer s H vs Q E hr h => ?_
  obtain ⟨x, rfl, h⟩ := h
  refine ⟨_, (pss_cons (ps_if (pw_or (pt_not (pt_val (pe_callB (cIsi K) (by rfl) T.b_isinstance (by decide +kernel) (pa_cons (pv 0) (pa_cons (pe_bltn (v := .ty "str") (by rfl) T.b_str (by decide +kernel) rfl) pa_nil))))) (pw_or1 (pt_cmpR op_gtP (pe_callB (cLen K) (by rfl) T.b_len (by decide +kernel) (pa_cons (pv 0) pa_nil)) pe_int (nomark _)))).pt (pss_one (ps_ret pe_bl)) pss_nil) (pss_cons (ps_for PassesOwn.never rfl (piAny K (pv 0)) (pg_name (i := 1) sc_is_mark.nd rfl (Or.inl rfl)) (pss_one (ps_if (pt_cmpR (opNotIn K) (pv 1) (pe_gS [97, 98, 99, 100, 101, 102, 103, 104, 105, 106, 107, 108, 109, 110, 111, 112, 113, 114, 115, 116, 117, 118, 119, 120, 121, 122, 48, 49, 50, 51, 52, 53, 54, 55, 56, 57] T.g_MARK_SIGNS) (by with_unfolding_all rfl)) (pss_one (ps_ret pe_bl)) pss_nil))) (pss_one (ps_ret pe_bl)))), ?_⟩
  show (_ : TS) { nx := fun _ H' => Q .non H', rt := Q } [some x, none] H
  obtain ⟨d, hx, q⟩ := h
  cases d
  case str z =>
    obtain ⟨l, rfl, rfl, hl⟩ := hx.strl
    change Q (.bl (isMkL l)) H at q
    unfold isMkL at q
    walk_at "go"
    refine i_dec (fun e => ?_) (fun e => ?_)
    · rw [decide_eq_false (show ¬ l.length ≤ 8 by omega), Bool.false_and] at q
      walk_at "go"
      exact q
    rw [decide_eq_true (show l.length ≤ 8 by omega), Bool.true_and] at q
    walk_at "go"
    refine i_forS (fun i σ' H' => ∃ v, σ' = [some (S l), v] ∧ H' = H ∧ ∀ c ∈ l.take i, c ∈ MK) ⟨none, rfl, rfl, by simp⟩ ?_ ?_
    · rintro i c σ' H' hc ⟨v, rfl, rfl, hm⟩
      show (_ : TS) _ [some (S l), some (S [c])] H'
      walk_at "go"
      refine i_decN (fun e => ?_) (fun e => ?_)
      · have : (l.all fun c => decide (c ∈ MK)) = false := by
          rw [List.all_eq_false]
          exact ⟨c, List.mem_of_getElem? hc, by simpa using e⟩
        rw [this] at q
        walk_at "go"
        exact q
      · walk_at "go"
        exact ⟨_, rfl, rfl, take_step hc hm e⟩
    · rintro σ' H' ⟨v, rfl, rfl, hm⟩
      have hm := all_take hm
      have : (l.all fun c => decide (c ∈ MK)) = true := List.all_eq_true.mpr fun c hc => decide_eq_true (hm c hc)
      rw [this] at q
      walk_at "go"
      exact q
  all_goals
    walk_at "go"
    refine i_isiStr false hx rfl ?_
    walk_at "go"
    exact q
def p_is_name : P1 := fun x H Q _ => ∃ d, At H x d ∧ Q (.bl (isNm d)) H
theorem ok_is_name (T : Txt K mg C_GlimError C_BadLine C_BadOrder C_NoLine C_Lines C_Orders C_WORDS) : OK P w K mg base CX0 2 "is_name" ["thing"] (sp1  p_is_name) := by
  refine OK.mk (k := 1) T.d_is_name sc_is_name len1 fun f cdv A outer s H vs Q E hr h => ?_
  obtain ⟨x, rfl, h⟩ := h
  refine ⟨_, (pss_one (ps_ret (pe_and (pe_f (ok_is_mark (K := K) T) (hr.mono (by decide)) pass0 (pa_cons (pv 0) pa_nil)) (pe_one (pe_cmpR (opNe K hr.units) (pv 0) (pe_S []) (nomark _)))))), ?_⟩
  show (_ : TS) { nx := fun _ H' => Q .non H', rt := Q } [some x] H
  obtain ⟨d, hx, q⟩ := h
  walk_at "go"
  refine ⟨d, hx, ?_⟩
  cases d
  case str z =>
    obtain ⟨l, rfl, rfl, hl⟩ := hx.strl
    change Q (.bl (isMkL l && decide (l ≠ []))) H at q
    show ∃ c, V.bl (isMkL l) = .bl c ∧ _
    refine ⟨_, rfl, ?_⟩
    cases hm : isMkL l with
    | false =>
      rw [hm] at q
      walk_at "go"
      exact q
    | true =>
      rw [hm, Bool.true_and] at q
      walk_at "go"
      have e : decide (l ≠ []) = !decide (l = []) := by simp
      rw [e] at q
      exact q
  all_goals
    refine ⟨_, rfl, ?_⟩
    rw [show isMk _ = false from rfl]
    walk_at "go"
    exact q
def p_is_signs : P1 := fun x H Q _ => ∃ d, At H x d ∧ ∀ H', Same H H' → Q (.bl (isSgs d)) H'
theorem ok_is_signs (T : Txt K mg C_GlimError C_BadLine C_BadOrder C_NoLine C_Lines C_Orders C_WORDS) : OK P w K mg base CX0 1 "is_signs" ["thing"] (sp1  p_is_signs) := by
  refine OK.mk (k := 0) T.d_is_signs sc_is_signs len1 fun f cdv A outer s H vs Q E hr h => ?_
  obtain ⟨x, rfl, h⟩ := h
  refine ⟨_, (pss_cons (ps_if (pw_or (pt_not (pt_val (pe_callB (cIsi K) (by rfl) T.b_isinstance (by decide +kernel) (pa_cons (pv 0) (pa_cons (pe_bltn (v := .ty "str") (by rfl) T.b_str (by decide +kernel) rfl) pa_nil))))) (pw_or1 (pt_cmpR (opEq K hr.units) (pv 0) (pe_S []) (nomark _)))).pt (pss_one (ps_ret pe_bl)) pss_nil) (pss_one (ps_ret (pe_cmpR (opEq K hr.units) (pv 0) (peJoin K (pe_S []) (pe_lc (own := [("sign", 1)]) (g := gName 1) (by rfl) sc_is_signs.nd (piAny K (pe_gS [46, 103, 114, 119] T.g_SIGNS)) (blkOk_by (own := [("sign", 1)]) (N := ["thing", "sign"]) (sc := (defScope s_is_signs)) (by decide +kernel)) (fun _ _ _ _ _ => (pg_name (i := 1) sc_is_signs.nd rfl (Or.inl rfl))) (fun _ _ _ _ _ => (pts_one (pt_cmpR (opIn K) (pv 1) (pv 0) (by with_unfolding_all rfl)))) (fun _ _ _ _ _ => (pv 1)))) (nomark _))))), ?_⟩
  show (_ : TS) { nx := fun _ H' => Q .non H', rt := Q } [some x, none] H
  obtain ⟨d, hx, q⟩ := h
  have q0 := q H (Same.refl H)
  cases d
  case str z =>
    obtain ⟨l, rfl, rfl, hl⟩ := hx.strl
    replace q : ∀ H', Same H H' → Q (.bl (sgsL l)) H' := q
    unfold sgsL at q
    walk_at "go"
    refine i_dec (fun e => ?_) (fun e => ?_)
    · walk_at "go"
      have := q H (Same.refl H)
      rw [decide_eq_false (show ¬ l ≠ [] from fun z => z e), Bool.false_and] at this
      exact this
    rw [decide_eq_true (show l ≠ [] from e)] at q
    walk_at "go"
    refine c_strF (z := SG) (fun c => decide (c ∈ l)) (fun R k => by walk_at "go"; exact k) (by decide) (fun _ => rfl) (fun c H2 hc s2 QB k => ?_) (fun c H2 hc s2 QV k => ?_) (fun Dl H2 n2 s2 d2 => ?_)
    · show (_ : TT) [some (S l), some (S [c])] H2 QB
      walk_at "go"
      exact k H2 (Same.refl H2)
    · show (_ : TE) [some (S l), some (S [c])] H2 QV
      walk_at "go"
      exact k H2 (Same.refl H2)
    · walk_at "go"
      refine i_join1 (.inl (.inl d2)) ?_ ?_
      · have := List.length_filter_le (fun c => decide (c ∈ l)) SG
        have : SG.length = 4 := rfl
        omega
      · walk_at "go"
        exact q H2 s2
  all_goals
    walk_at "go"
    refine i_isiStr false hx rfl ?_
    walk_at "go"
    exact q0
end
end K43
namespace K43
open PySem PySem.Spec PyProof.Rows L2 Fg
local macro_rules | `(tactic| walk_at "sq") => `(tactic| first
  | assumption
  | exact .inl (.inl (by assumption))
  | exact .inl (.inl upd_same))
local macro_rules | `(tactic| walk_at "st") => `(tactic| first
  | assumption
  | exact .inl (.inl (by assumption))
  | exact .inl (.inl upd_same))
local macro_rules | `(tactic| walk_at "o") => `(tactic| first
  | omega
  | assumption
  | (simp only [List.length_append, List.length_take, List.length_drop, List.length_cons, List.length_nil, List.length_singleton, List.length_map, List.length_range, Int.toNat_natCast] ; omega))
local macro_rules | `(tactic| walk_at "s") => `(tactic| first
  | (with_reducible refine i_seq ?_)
  | (with_reducible refine i_asg ?_)
  | ((with_reducible refine' i_var ?h1 ?_); (case h1 => rfl))
  | (with_reducible refine i_c ?_)
  | ((with_reducible refine' i_gname' ?h1 ?_); (case h1 => (simp only [List.set_cons_zero, List.set_cons_succ]; rfl)))
  | (with_reducible refine i_op ?_)
  | (with_reducible refine i_ifS ?_)
  | (with_reducible refine i_for ?_)
  | (with_reducible refine i_test ?_)
  | (with_reducible refine i_B ?_)
  | (with_reducible refine i_exbl ?_)
  | (with_reducible refine i_exint ?_)
  | (with_reducible refine i_cb ?_)
  | (with_reducible refine i_nil ?_)
  | (with_reducible refine i_cons ?_)
  | (with_reducible refine i_ret ?_)
  | (with_reducible refine i_sl ?_)
  | (with_reducible refine i_nopart ?_)
  | (with_reducible refine i_part ?_)
  | (with_reducible refine i_add_int ?_)
  | (with_reducible refine i_sub ?_)
  | (with_reducible refine i_lt ?_)
  | ((with_reducible refine' i_mod ?h1 ?_); (case h1 => walk_at "o"))
  | ((with_reducible refine' i_fdiv ?h1 ?_); (case h1 => (refine cdiv_small ?_ ?_ <;> walk_at "o")))
  | ((with_reducible refine' i_sl_to ?h1 ?h2 ?_); (case h1 => walk_at "o"); (case h2 => walk_at "o"))
  | ((with_reducible refine' i_sl_from ?h1 ?h2 ?_); (case h1 => walk_at "o"); (case h2 => walk_at "o"))
  | ((with_reducible refine' i_add_str ?h1 ?_); (case h1 => walk_at "o"))
  | ((with_reducible refine' i_mul_int ?h1 ?_); (case h1 => first | (refine mul_small ?_ ?_ <;> walk_at "o") | (refine mul_smallR ?_ ?_ <;> walk_at "o")))
  | (with_reducible refine i_le ?_)
  | (with_reducible refine i_gt ?_)
  | (with_reducible refine i_ge ?_)
  | (with_reducible refine i_eq_int ?_)
  | (with_reducible refine i_eq_str ?_)
  | (with_reducible refine i_ne_int ?_)
  | (with_reducible refine i_ne_str ?_)
  | (with_reducible refine i_eq_bl ?_)
  | (with_reducible refine i_ne_bl ?_)
  | (with_reducible refine i_in_sg ?_)
  | (with_reducible refine i_notIn_sg ?_)
  | (with_reducible refine i_call ?_)
  | (with_reducible refine i_callS ?_)
  | (with_reducible refine i_sp1 ?_)
  | (with_reducible refine i_sp2 ?_)
  | (with_reducible refine i_sp3 ?_)
  | (with_reducible refine i_sp4 ?_)
  | (with_reducible refine i_sp1' ?_)
  | (with_reducible refine i_sp2' ?_)
  | (with_reducible refine i_sp3' ?_)
  | ((with_reducible refine' i_ix_lst ?h1 ?h2 ?_); (case h1 => walk_at "sq"); (case h2 => first | exact atI_nat rfl | rfl))
  | ((with_reducible refine' i_ix_tup ?h1 ?h2 ?_); (case h1 => walk_at "st"); (case h2 => first | exact atI_nat rfl | rfl))
  | (with_reducible refine i_gsub ?_)
  | (with_reducible refine i_par ?_)
  | (with_reducible refine i_lstRg1 ?_)
  | (with_reducible refine i_app ?_)
  | (with_reducible refine i_par2 ?_)
  | ((with_reducible refine' i_aug ?h1 ?_); (case h1 => rfl))
  | (with_reducible refine i_ipI ?_)
  | ((with_reducible refine' i_gtup2 ?h1 ?_); (case h1 => walk_at "st"))
  | (with_reducible refine i_int_bl ?_)
  | (with_reducible refine i_raise ?_)
  | (with_reducible refine i_mkE ?_)
  | (with_reducible refine i_ex1 ?_)
  | (with_reducible refine i_and ?_)
  | (with_reducible refine i_or ?_)
  | (with_reducible refine i_not ?_)
  | (with_reducible refine i_tt ?_)
  | (with_reducible refine i_ff ?_)
  | (with_reducible refine i_nott ?_)
  | (with_reducible refine i_notf ?_)
  | (with_reducible refine i_andV ?_)
  | (with_reducible refine i_orV ?_)
  | (with_reducible refine i_notV ?_)
  | (with_reducible refine i_ifE ?_)
  | (with_reducible refine i_tup ?_)
  | (with_reducible refine i_lst ?_)
  | (with_reducible refine i_un ?_)
  | (with_reducible refine i_neg ?_)
  | (with_reducible refine i_chain ?_)
  | (with_reducible refine i_next ?_)
  | (with_reducible refine i_retN ?_)
  | (with_reducible refine i_drop ?_)
  | (with_reducible refine i_int_int ?_)
  | (with_reducible refine i_abs ?_)
  | (with_reducible refine i_m1c ?_)
  | (with_reducible refine i_is_non ?_)
  | (with_reducible refine i_is_int ?_)
  | (with_reducible refine i_is_bl ?_)
  | (with_reducible refine i_isn_bl ?_)
  | (with_reducible refine i_is_str ?_)
  | (with_reducible refine i_is_ref ?_)
  | (with_reducible refine i_isn_non ?_)
  | (with_reducible refine i_isn_int ?_)
  | (with_reducible refine i_isn_str ?_)
  | (with_reducible refine i_isn_ref ?_)
  | (with_reducible refine i_len_str ?h1 ?_; (case h1 => walk_at "o"))
  | (with_reducible refine i_callD ?_)
  | (with_reducible refine i_spD2 ?_)
  | (with_reducible refine i_spM1 ?_)
  | (with_reducible refine i_spM2 ?_)
  | (with_reducible refine i_spM3 ?_)
  | (with_reducible refine i_spM4 ?_)
  | (with_reducible refine i_spM3d ?_)
  | (with_reducible refine i_tfld ?_)
  | (with_reducible refine i_sfld ?_)
  | (with_reducible refine i_meth ?_)
  | (with_reducible refine i_make ?_)
  | (with_reducible refine i_spl ?_)
  | (with_reducible refine i_mkE2 ?_)
  | (with_reducible refine i_ex2 ?_)
  | (with_reducible refine i_dget ?_)
  | (with_reducible refine i_tru ?_)
  | (with_reducible refine i_dput ?_)
  | (with_reducible refine i_dnotin ?_)
  | (with_reducible refine i_din ?_)
  | (with_reducible refine i_rev ?_)
  | (with_reducible refine i_isi_int_int ?_) | (with_reducible refine i_isi_int_bool ?_) | (with_reducible refine i_isi_int_str ?_) | (with_reducible refine i_isi_int_tuple ?_) | (with_reducible refine i_isi_int_list ?_)
  | (with_reducible refine i_isi_bl_int ?_) | (with_reducible refine i_isi_bl_bool ?_) | (with_reducible refine i_isi_bl_str ?_) | (with_reducible refine i_isi_bl_tuple ?_) | (with_reducible refine i_isi_bl_list ?_)
  | (with_reducible refine i_isi_str_int ?_) | (with_reducible refine i_isi_str_bool ?_) | (with_reducible refine i_isi_str_str ?_) | (with_reducible refine i_isi_str_tuple ?_) | (with_reducible refine i_isi_str_list ?_)
  | (with_reducible refine i_isi_non_int ?_) | (with_reducible refine i_isi_non_bool ?_) | (with_reducible refine i_isi_non_str ?_) | (with_reducible refine i_isi_non_tuple ?_) | (with_reducible refine i_isi_non_list ?_))
local macro_rules | `(tactic| walk_at "go") => `(tactic| (repeat' (walk_at "s")))
local macro_rules | `(tactic| walk_at "n") => `(tactic| simp only [wipe, List.map_cons, List.map_nil, List.set_cons_zero, List.set_cons_succ])
/-! ### lines of orders -/
abbrev cWait : List Nat := [119, 97, 105, 116]
abbrev cCount : List Nat := [99, 111, 117, 110, 116]
abbrev cPass : List Nat := [112, 97, 115, 115]
abbrev cMore : List Nat := [109, 111, 114, 101]
abbrev cLast : List Nat := [108, 97, 115, 116]
abbrev cGo : List Nat := [103, 111]
abbrev cName : List Nat := [110, 97, 109, 101]
abbrev cSkip : List Nat := [115, 107, 105, 112]
def fWait : List PyData → Bool
  | [a, b] => isSgs a && isIn b 1 9
  | _ => false
def fCount : List PyData → Bool
  | [a, b, c] => isSgs a && isSgs b && isIn c 1 9
  | _ => false
def fPass : List PyData → Bool
  | [a] => isIn a 1 9
  | _ => false
def fMore (m : Int) : List PyData → Bool
  | [a, b] => isIn a 1 9 && isIn b 0 (m - 1)
  | _ => false
def fLast (m : Int) : List PyData → Bool
  | [a, b] => isSgs a && isIn b 0 (m - 1)
  | _ => false
def fGo (m : Int) : List PyData → Bool
  | [a] => isIn a 0 (m - 1)
  | _ => false
def fName : List PyData → Bool
  | [a] => isNm a
  | _ => false
def ordD (m : Int) (w : PyData) (r : List PyData) : Bool :=
  if eqS w cWait = true then fWait r else if eqS w cCount = true then fCount r else if eqS w cPass = true then fPass r else if eqS w cMore = true then fMore m r else
  if eqS w cLast = true then fLast m r else if eqS w cGo = true then fGo m r else if eqS w cName = true then fName r else eqS w cSkip && decide (r.length = 0)
def isOrd (m : Int) : PyData → Bool
  | .tuple (w :: r) => ordD m w r
  | _ => false
theorem one_of {α : Type} {r : List α} (h : r.length = 1) : ∃ m, r = [m] := List.length_eq_one_iff.mp h
theorem two_of {α : Type} {r : List α} (h : r.length = 2) : ∃ m n, r = [m, n] := by
  match r, h with
  | [m, n], _ => exact ⟨m, n, rfl⟩
theorem three_of {α : Type} {r : List α} (h : r.length = 3) : ∃ m n o, r = [m, n, o] := by
  match r, h with
  | [m, n, o], _ => exact ⟨m, n, o, rfl⟩
section
variable {P : Program} {w : World} {K : PySem.W.Frag} {mg : Str → Option Value} {base : Heap} {C_GlimError C_BadLine C_BadOrder C_NoLine C_Lines C_Orders C_WORDS : Addr}
def p_is_order : P2 := fun x y H Q _ => ∃ d m, At H x d ∧ y = .int m ∧ d.canLay0 = true ∧ d.depth ≤ 60 ∧ ∀ H', Same H H' → Q (.bl (isOrd m d)) H'
theorem ok_is_order (T : Txt K mg C_GlimError C_BadLine C_BadOrder C_NoLine C_Lines C_Orders C_WORDS) : OK P w K mg base CX0 3 "is_order" ["thing", "many"] (sp2  p_is_order) := by
  refine OK.mk (k := 2) T.d_is_order sc_is_order len2 fun f cdv A outer s H vs Q E hr h => ?_
  obtain ⟨x, y, rfl, h⟩ := h
  refine ⟨_, (pss_cons (ps_if (pw_or (pt_not (pt_val (pe_callB (cIsi K) (by rfl) T.b_isinstance (by decide +kernel) (pa_cons (pv 0) (pa_cons (pe_bltn (v := .ty "tuple") (by rfl) T.b_tuple (by decide +kernel) rfl) pa_nil))))) (pw_or1 (pt_cmpR (opEq K hr.units) (pe_callB (cLen K) (by rfl) T.b_len (by decide +kernel) (pa_cons (pv 0) pa_nil)) pe_int (nomark _)))).pt (pss_one (ps_ret pe_bl)) pss_nil) (pss_cons (ps_set (i := 2) sc_is_order.nd rfl (Or.inl rfl) (pe_ix (ixK K) (pv 0) pe_int (fun _ _ => rfl))) (pss_cons (ps_if (pt_cmpR (opEq K hr.units) (pv 2) (pe_S [119, 97, 105, 116]) (nomark _)) (pss_one (ps_ret (pe_and (pe_cmpR (opEq K hr.units) (pe_callB (cLen K) (by rfl) T.b_len (by decide +kernel) (pa_cons (pv 0) pa_nil)) pe_int (nomark _)) (pe_and (pe_f (ok_is_signs (K := K) T) (hr.mono (by decide)) pass0 (pa_cons (pe_ix (ixK K) (pv 0) pe_int (fun _ _ => rfl)) pa_nil)) (pe_one (pe_f (ok_is_integer (K := K) T) (hr.mono (by decide)) pass0 (pa_cons (pe_ix (ixK K) (pv 0) pe_int (fun _ _ => rfl)) (pa_cons pe_int (pa_cons pe_int pa_nil))))))))) pss_nil) (pss_cons (ps_if (pt_cmpR (opEq K hr.units) (pv 2) (pe_S [99, 111, 117, 110, 116]) (nomark _)) (pss_one (ps_ret (pe_and (pe_cmpR (opEq K hr.units) (pe_callB (cLen K) (by rfl) T.b_len (by decide +kernel) (pa_cons (pv 0) pa_nil)) pe_int (nomark _)) (pe_and (pe_f (ok_is_signs (K := K) T) (hr.mono (by decide)) pass0 (pa_cons (pe_ix (ixK K) (pv 0) pe_int (fun _ _ => rfl)) pa_nil)) (pe_and (pe_f (ok_is_signs (K := K) T) (hr.mono (by decide)) pass0 (pa_cons (pe_ix (ixK K) (pv 0) pe_int (fun _ _ => rfl)) pa_nil)) (pe_one (pe_f (ok_is_integer (K := K) T) (hr.mono (by decide)) pass0 (pa_cons (pe_ix (ixK K) (pv 0) pe_int (fun _ _ => rfl)) (pa_cons pe_int (pa_cons pe_int pa_nil)))))))))) pss_nil) (pss_cons (ps_if (pt_cmpR (opEq K hr.units) (pv 2) (pe_S [112, 97, 115, 115]) (nomark _)) (pss_one (ps_ret (pe_and (pe_cmpR (opEq K hr.units) (pe_callB (cLen K) (by rfl) T.b_len (by decide +kernel) (pa_cons (pv 0) pa_nil)) pe_int (nomark _)) (pe_one (pe_f (ok_is_integer (K := K) T) (hr.mono (by decide)) pass0 (pa_cons (pe_ix (ixK K) (pv 0) pe_int (fun _ _ => rfl)) (pa_cons pe_int (pa_cons pe_int pa_nil)))))))) pss_nil) (pss_cons (ps_if (pt_cmpR (opEq K hr.units) (pv 2) (pe_S [109, 111, 114, 101]) (nomark _)) (pss_one (ps_ret (pe_and (pe_cmpR (opEq K hr.units) (pe_callB (cLen K) (by rfl) T.b_len (by decide +kernel) (pa_cons (pv 0) pa_nil)) pe_int (nomark _)) (pe_and (pe_f (ok_is_integer (K := K) T) (hr.mono (by decide)) pass0 (pa_cons (pe_ix (ixK K) (pv 0) pe_int (fun _ _ => rfl)) (pa_cons pe_int (pa_cons pe_int pa_nil)))) (pe_one (pe_f (ok_is_integer (K := K) T) (hr.mono (by decide)) pass0 (pa_cons (pe_ix (ixK K) (pv 0) pe_int (fun _ _ => rfl)) (pa_cons pe_int (pa_cons (pe_op op_subP (pv 1) pe_int) pa_nil))))))))) pss_nil) (pss_cons (ps_if (pt_cmpR (opEq K hr.units) (pv 2) (pe_S [108, 97, 115, 116]) (nomark _)) (pss_one (ps_ret (pe_and (pe_cmpR (opEq K hr.units) (pe_callB (cLen K) (by rfl) T.b_len (by decide +kernel) (pa_cons (pv 0) pa_nil)) pe_int (nomark _)) (pe_and (pe_f (ok_is_signs (K := K) T) (hr.mono (by decide)) pass0 (pa_cons (pe_ix (ixK K) (pv 0) pe_int (fun _ _ => rfl)) pa_nil)) (pe_one (pe_f (ok_is_integer (K := K) T) (hr.mono (by decide)) pass0 (pa_cons (pe_ix (ixK K) (pv 0) pe_int (fun _ _ => rfl)) (pa_cons pe_int (pa_cons (pe_op op_subP (pv 1) pe_int) pa_nil))))))))) pss_nil) (pss_cons (ps_if (pt_cmpR (opEq K hr.units) (pv 2) (pe_S [103, 111]) (nomark _)) (pss_one (ps_ret (pe_and (pe_cmpR (opEq K hr.units) (pe_callB (cLen K) (by rfl) T.b_len (by decide +kernel) (pa_cons (pv 0) pa_nil)) pe_int (nomark _)) (pe_one (pe_f (ok_is_integer (K := K) T) (hr.mono (by decide)) pass0 (pa_cons (pe_ix (ixK K) (pv 0) pe_int (fun _ _ => rfl)) (pa_cons pe_int (pa_cons (pe_op op_subP (pv 1) pe_int) pa_nil)))))))) pss_nil) (pss_cons (ps_if (pt_cmpR (opEq K hr.units) (pv 2) (pe_S [110, 97, 109, 101]) (nomark _)) (pss_one (ps_ret (pe_and (pe_cmpR (opEq K hr.units) (pe_callB (cLen K) (by rfl) T.b_len (by decide +kernel) (pa_cons (pv 0) pa_nil)) pe_int (nomark _)) (pe_one (pe_f (ok_is_name (K := K) T) (hr.mono (by decide)) pass0 (pa_cons (pe_ix (ixK K) (pv 0) pe_int (fun _ _ => rfl)) pa_nil)))))) pss_nil) (pss_one (ps_ret (pe_and (pe_cmpR (opEq K hr.units) (pv 2) (pe_S [115, 107, 105, 112]) (nomark _)) (pe_one (pe_cmpR (opEq K hr.units) (pe_callB (cLen K) (by rfl) T.b_len (by decide +kernel) (pa_cons (pv 0) pa_nil)) pe_int (nomark _))))))))))))))), ?_⟩
  show (_ : TS) { nx := fun _ H' => Q .non H', rt := Q } [some x, some y, none] H
  obtain ⟨d, m, hx, rfl, hc, hd, q⟩ := h
  have q0 := q H (Same.refl H)
  cases d
  case tuple ds =>
    obtain ⟨a, xs, rfl, hH, hl, al⟩ := hx.tupled
    have ll := al.len
    walk_at "go"
    refine i_isiTup true hx rfl ?_
    walk_at "go"
    refine i_len_tup (.inl (.inl hH)) ?_
    walk_at "go"
    cases ds with
    | nil =>
      have e0 : ((xs.length : Int) = 0) := by have := (show xs.length = 0 from ll); omega
      rw [decide_eq_true e0]
      walk_at "go"
      exact q0
    | cons w r =>
    have e0 : ¬ ((xs.length : Int) = 0) := by simp at ll; omega
    rw [decide_eq_false e0]
    have xl : xs.length = r.length + 1 := by rw [ll]; rfl
    obtain ⟨v0, hv0, a0⟩ := al.at (i := 0) (d := w) rfl
    have hcw : w.canLay0 = true := by
      have h' : (w.canLay0 && PyData.canLayAll0 r) = true := by simpa only [PyData.canLay0, PyData.canLayAll0] using hc
      exact (Bool.and_eq_true_iff.mp h').1
    have hdw : w.depth ≤ 64 := by
      have := depth_mem (List.mem_cons_self (a := w) (l := r))
      have : PyData.depthAll (w :: r) + 1 ≤ 60 := hd
      omega
    have ix : ∀ {H' : Hp} {R : VK} {i : Nat} {v : V}, Same H H' → xs[i]? = some v → R v H' → ixP K (.ref a) (.int (i : Int)) H' R := fun s e k => i_ix_tup (.inl (.inl (s _ _ hH))) (atI_nat e) k
    have eqw : ∀ {l : List Nat} {R : VK}, (∀ c ∈ l, c < 0x110000) → R (.bl (eqS w l)) H → eqP K v0 (S l) H R := fun ls k => i_eqDS a0 hcw hdw ls k
    have q : ∀ H', Same H H' → Q (.bl (ordD m w r)) H' := q
    unfold ordD at q
    clear q0
    have len : ∀ {R : VK}, R (.int ((r.length + 1 : Nat) : Int)) H → rLenP K [.ref a] H R := fun k => i_len_tup (.inl (.inl hH)) (by rw [xl]; exact k)
    walk_at "go"
    refine i_ix_tup (v := v0) (.inl (.inl hH)) (atI_int (by decide) hv0) ?_
    walk_at "go"
    refine eqw (by decide) ?_
    walk_at "go"
    refine i_bool (fun e => ?_) (fun e => ?_)
    · rw [if_pos e] at q
      walk_at "go"
      refine len ?_
      walk_at "go"
      refine i_dec (fun e2 => ?_) (fun e2 => ?_)
      · obtain ⟨p1, p2, rfl⟩ := two_of (r := r) (by omega)
        obtain ⟨v1, hv1, a1⟩ := al.at (i := 1) (d := p1) rfl
        obtain ⟨v2, hv2, a2⟩ := al.at (i := 2) (d := p2) rfl
        have q : ∀ H', Same H H' → Q (.bl (isSgs p1 && isIn p2 1 9)) H' := q
        walk_at "go"
        refine ix (i := 1) (Same.refl H) hv1 ?_
        walk_at "go"
        refine ⟨p1, a1, fun H1 s1 => ?_⟩
        refine ⟨_, rfl, ?_⟩
        cases e1 : isSgs p1 with
        | false =>
          rw [e1] at q
          exact q H1 s1
        | true =>
          rw [e1] at q
          walk_at "go"
          refine ix (i := 2) s1 hv2 ?_
          walk_at "go"
          exact ⟨p2, 1, 9, a2.same s1, rfl, rfl, q H1 s1⟩
      · have e1 : fWait r = false := by
          match r, e2 with
          | [], _ => rfl
          | [n], _ => rfl
          | [_, _], e2 => exact absurd (by simp) e2
          | _ :: _ :: _ :: _, _ => rfl
        rw [e1] at q
        exact q H (Same.refl H)
    rw [if_neg (by rw [e]; decide)] at q
    clear e
    walk_at "go"
    refine eqw (by decide) ?_
    walk_at "go"
    refine i_bool (fun e => ?_) (fun e => ?_)
    · rw [if_pos e] at q
      walk_at "go"
      refine len ?_
      walk_at "go"
      refine i_dec (fun e2 => ?_) (fun e2 => ?_)
      · obtain ⟨p1, p2, p3, rfl⟩ := three_of (r := r) (by omega)
        obtain ⟨v1, hv1, a1⟩ := al.at (i := 1) (d := p1) rfl
        obtain ⟨v2, hv2, a2⟩ := al.at (i := 2) (d := p2) rfl
        obtain ⟨v3, hv3, a3⟩ := al.at (i := 3) (d := p3) rfl
        have q : ∀ H', Same H H' → Q (.bl (isSgs p1 && isSgs p2 && isIn p3 1 9)) H' := q
        walk_at "go"
        refine ix (i := 1) (Same.refl H) hv1 ?_
        walk_at "go"
        refine ⟨p1, a1, fun H1 s1 => ?_⟩
        refine ⟨_, rfl, ?_⟩
        cases e1 : isSgs p1 with
        | false =>
          rw [e1] at q
          exact q H1 s1
        | true =>
          rw [e1] at q
          walk_at "go"
          refine ix (i := 2) s1 hv2 ?_
          walk_at "go"
          refine ⟨p2, a2.same s1, fun H2 s2 => ?_⟩
          have s12 := s1.trans s2
          refine ⟨_, rfl, ?_⟩
          cases e3 : isSgs p2 with
          | false =>
            rw [e3] at q
            exact q H2 s12
          | true =>
            rw [e3] at q
            walk_at "go"
            refine ix (i := 3) s12 hv3 ?_
            walk_at "go"
            exact ⟨p3, 1, 9, a3.same s12, rfl, rfl, q H2 s12⟩
      · have e1 : fCount r = false := by
          match r, e2 with
          | [], _ => rfl
          | [n], _ => rfl
          | [_, _], _ => rfl
          | [_, _, _], e2 => exact absurd (by simp) e2
          | _ :: _ :: _ :: _ :: _, _ => rfl
        rw [e1] at q
        exact q H (Same.refl H)
    rw [if_neg (by rw [e]; decide)] at q
    clear e
    walk_at "go"
    refine eqw (by decide) ?_
    walk_at "go"
    refine i_bool (fun e => ?_) (fun e => ?_)
    · rw [if_pos e] at q
      walk_at "go"
      refine len ?_
      walk_at "go"
      refine i_dec (fun e2 => ?_) (fun e2 => ?_)
      · obtain ⟨p1, rfl⟩ := one_of (r := r) (by omega)
        obtain ⟨v1, hv1, a1⟩ := al.at (i := 1) (d := p1) rfl
        walk_at "go"
        refine ix (i := 1) (Same.refl H) hv1 ?_
        walk_at "go"
        exact ⟨p1, 1, 9, a1, rfl, rfl, q H (Same.refl H)⟩
      · have e1 : fPass r = false := by
          match r, e2 with
          | [], _ => rfl
          | [_], e2 => exact absurd (by simp) e2
          | _ :: _ :: _, _ => rfl
        rw [e1] at q
        exact q H (Same.refl H)
    rw [if_neg (by rw [e]; decide)] at q
    clear e
    walk_at "go"
    refine eqw (by decide) ?_
    walk_at "go"
    refine i_bool (fun e => ?_) (fun e => ?_)
    · rw [if_pos e] at q
      walk_at "go"
      refine len ?_
      walk_at "go"
      refine i_dec (fun e2 => ?_) (fun e2 => ?_)
      · obtain ⟨p1, p2, rfl⟩ := two_of (r := r) (by omega)
        obtain ⟨v1, hv1, a1⟩ := al.at (i := 1) (d := p1) rfl
        obtain ⟨v2, hv2, a2⟩ := al.at (i := 2) (d := p2) rfl
        have q : ∀ H', Same H H' → Q (.bl (isIn p1 1 9 && isIn p2 0 (m - 1))) H' := q
        walk_at "go"
        refine ix (i := 1) (Same.refl H) hv1 ?_
        walk_at "go"
        refine ⟨p1, 1, 9, a1, rfl, rfl, ?_⟩
        refine ⟨_, rfl, ?_⟩
        cases e1 : isIn p1 1 9 with
        | false =>
          rw [e1] at q
          exact q H (Same.refl H)
        | true =>
          rw [e1] at q
          walk_at "go"
          refine ix (i := 2) (Same.refl H) hv2 ?_
          walk_at "go"
          exact ⟨p2, 0, m - 1, a2, rfl, rfl, q H (Same.refl H)⟩
      · have e1 : fMore m r = false := by
          match r, e2 with
          | [], _ => rfl
          | [n], _ => rfl
          | [_, _], e2 => exact absurd (by simp) e2
          | _ :: _ :: _ :: _, _ => rfl
        rw [e1] at q
        exact q H (Same.refl H)
    rw [if_neg (by rw [e]; decide)] at q
    clear e
    walk_at "go"
    refine eqw (by decide) ?_
    walk_at "go"
    refine i_bool (fun e => ?_) (fun e => ?_)
    · rw [if_pos e] at q
      walk_at "go"
      refine len ?_
      walk_at "go"
      refine i_dec (fun e2 => ?_) (fun e2 => ?_)
      · obtain ⟨p1, p2, rfl⟩ := two_of (r := r) (by omega)
        obtain ⟨v1, hv1, a1⟩ := al.at (i := 1) (d := p1) rfl
        obtain ⟨v2, hv2, a2⟩ := al.at (i := 2) (d := p2) rfl
        have q : ∀ H', Same H H' → Q (.bl (isSgs p1 && isIn p2 0 (m - 1))) H' := q
        walk_at "go"
        refine ix (i := 1) (Same.refl H) hv1 ?_
        walk_at "go"
        refine ⟨p1, a1, fun H1 s1 => ?_⟩
        refine ⟨_, rfl, ?_⟩
        cases e1 : isSgs p1 with
        | false =>
          rw [e1] at q
          exact q H1 s1
        | true =>
          rw [e1] at q
          walk_at "go"
          refine ix (i := 2) s1 hv2 ?_
          walk_at "go"
          exact ⟨p2, 0, m - 1, a2.same s1, rfl, rfl, q H1 s1⟩
      · have e1 : fLast m r = false := by
          match r, e2 with
          | [], _ => rfl
          | [n], _ => rfl
          | [_, _], e2 => exact absurd (by simp) e2
          | _ :: _ :: _ :: _, _ => rfl
        rw [e1] at q
        exact q H (Same.refl H)
    rw [if_neg (by rw [e]; decide)] at q
    clear e
    walk_at "go"
    refine eqw (by decide) ?_
    walk_at "go"
    refine i_bool (fun e => ?_) (fun e => ?_)
    · rw [if_pos e] at q
      walk_at "go"
      refine len ?_
      walk_at "go"
      refine i_dec (fun e2 => ?_) (fun e2 => ?_)
      · obtain ⟨p1, rfl⟩ := one_of (r := r) (by omega)
        obtain ⟨v1, hv1, a1⟩ := al.at (i := 1) (d := p1) rfl
        walk_at "go"
        refine ix (i := 1) (Same.refl H) hv1 ?_
        walk_at "go"
        exact ⟨p1, 0, m - 1, a1, rfl, rfl, q H (Same.refl H)⟩
      · have e1 : fGo m r = false := by
          match r, e2 with
          | [], _ => rfl
          | [_], e2 => exact absurd (by simp) e2
          | _ :: _ :: _, _ => rfl
        rw [e1] at q
        exact q H (Same.refl H)
    rw [if_neg (by rw [e]; decide)] at q
    clear e
    walk_at "go"
    refine eqw (by decide) ?_
    walk_at "go"
    refine i_bool (fun e => ?_) (fun e => ?_)
    · rw [if_pos e] at q
      walk_at "go"
      refine len ?_
      walk_at "go"
      refine i_dec (fun e2 => ?_) (fun e2 => ?_)
      · obtain ⟨p1, rfl⟩ := one_of (r := r) (by omega)
        obtain ⟨v1, hv1, a1⟩ := al.at (i := 1) (d := p1) rfl
        walk_at "go"
        refine ix (i := 1) (Same.refl H) hv1 ?_
        walk_at "go"
        exact ⟨p1, a1, q H (Same.refl H)⟩
      · have e1 : fName r = false := by
          match r, e2 with
          | [], _ => rfl
          | [_], e2 => exact absurd (by simp) e2
          | _ :: _ :: _, _ => rfl
        rw [e1] at q
        exact q H (Same.refl H)
    rw [if_neg (by rw [e]; decide)] at q
    clear e
    walk_at "go"
    refine eqw (by decide) ?_
    refine ⟨_, rfl, ?_⟩
    cases e : eqS w cSkip with
    | false =>
      rw [e] at q
      exact q H (Same.refl H)
    | true =>
      rw [e] at q
      walk_at "go"
      refine len ?_
      walk_at "go"
      have e1 : decide (((r.length + 1 : Nat) : Int) = 1) = decide (r.length = 0) := by
        rw [Bool.eq_iff_iff, decide_eq_true_eq, decide_eq_true_eq]; omega
      rw [e1]
      exact q H (Same.refl H)
  all_goals
    walk_at "go"
    refine i_isiTup false hx rfl ?_
    walk_at "go"
    exact q0
end
end K43
namespace K43
open PySem PySem.Spec PyProof.Rows L2 Fg
local macro_rules | `(tactic| walk_at "sq") => `(tactic| first
  | assumption
  | exact .inl (.inl (by assumption))
  | exact .inl (.inl upd_same))
local macro_rules | `(tactic| walk_at "st") => `(tactic| first
  | assumption
  | exact .inl (.inl (by assumption))
  | exact .inl (.inl upd_same))
local macro_rules | `(tactic| walk_at "o") => `(tactic| first
  | omega
  | assumption
  | (simp only [List.length_append, List.length_take, List.length_drop, List.length_cons, List.length_nil, List.length_singleton, List.length_map, List.length_range, Int.toNat_natCast] ; omega))
local macro_rules | `(tactic| walk_at "s") => `(tactic| first
  | (with_reducible refine i_seq ?_)
  | (with_reducible refine i_asg ?_)
  | ((with_reducible refine' i_var ?h1 ?_); (case h1 => rfl))
  | (with_reducible refine i_c ?_)
  | ((with_reducible refine' i_gname' ?h1 ?_); (case h1 => (simp only [List.set_cons_zero, List.set_cons_succ]; rfl)))
  | (with_reducible refine i_op ?_)
  | (with_reducible refine i_ifS ?_)
  | (with_reducible refine i_for ?_)
  | (with_reducible refine i_test ?_)
  | (with_reducible refine i_B ?_)
  | (with_reducible refine i_exbl ?_)
  | (with_reducible refine i_exint ?_)
  | (with_reducible refine i_cb ?_)
  | (with_reducible refine i_nil ?_)
  | (with_reducible refine i_cons ?_)
  | (with_reducible refine i_ret ?_)
  | (with_reducible refine i_sl ?_)
  | (with_reducible refine i_nopart ?_)
  | (with_reducible refine i_part ?_)
  | (with_reducible refine i_add_int ?_)
  | (with_reducible refine i_sub ?_)
  | (with_reducible refine i_lt ?_)
  | ((with_reducible refine' i_mod ?h1 ?_); (case h1 => walk_at "o"))
  | ((with_reducible refine' i_fdiv ?h1 ?_); (case h1 => (refine cdiv_small ?_ ?_ <;> walk_at "o")))
  | ((with_reducible refine' i_sl_to ?h1 ?h2 ?_); (case h1 => walk_at "o"); (case h2 => walk_at "o"))
  | ((with_reducible refine' i_sl_from ?h1 ?h2 ?_); (case h1 => walk_at "o"); (case h2 => walk_at "o"))
  | ((with_reducible refine' i_add_str ?h1 ?_); (case h1 => walk_at "o"))
  | ((with_reducible refine' i_mul_int ?h1 ?_); (case h1 => first | (refine mul_small ?_ ?_ <;> walk_at "o") | (refine mul_smallR ?_ ?_ <;> walk_at "o")))
  | (with_reducible refine i_le ?_)
  | (with_reducible refine i_gt ?_)
  | (with_reducible refine i_ge ?_)
  | (with_reducible refine i_eq_int ?_)
  | (with_reducible refine i_eq_str ?_)
  | (with_reducible refine i_ne_int ?_)
  | (with_reducible refine i_ne_str ?_)
  | (with_reducible refine i_eq_bl ?_)
  | (with_reducible refine i_ne_bl ?_)
  | (with_reducible refine i_in_sg ?_)
  | (with_reducible refine i_notIn_sg ?_)
  | (with_reducible refine i_call ?_)
  | (with_reducible refine i_callS ?_)
  | (with_reducible refine i_sp1 ?_)
  | (with_reducible refine i_sp2 ?_)
  | (with_reducible refine i_sp3 ?_)
  | (with_reducible refine i_sp4 ?_)
  | (with_reducible refine i_sp1' ?_)
  | (with_reducible refine i_sp2' ?_)
  | (with_reducible refine i_sp3' ?_)
  | ((with_reducible refine' i_ix_lst ?h1 ?h2 ?_); (case h1 => walk_at "sq"); (case h2 => first | exact atI_nat rfl | rfl))
  | ((with_reducible refine' i_ix_tup ?h1 ?h2 ?_); (case h1 => walk_at "st"); (case h2 => first | exact atI_nat rfl | rfl))
  | (with_reducible refine i_gsub ?_)
  | (with_reducible refine i_par ?_)
  | (with_reducible refine i_lstRg1 ?_)
  | (with_reducible refine i_app ?_)
  | (with_reducible refine i_par2 ?_)
  | ((with_reducible refine' i_aug ?h1 ?_); (case h1 => rfl))
  | (with_reducible refine i_ipI ?_)
  | ((with_reducible refine' i_gtup2 ?h1 ?_); (case h1 => walk_at "st"))
  | (with_reducible refine i_int_bl ?_)
  | (with_reducible refine i_raise ?_)
  | (with_reducible refine i_mkE ?_)
  | (with_reducible refine i_ex1 ?_)
  | (with_reducible refine i_and ?_)
  | (with_reducible refine i_or ?_)
  | (with_reducible refine i_not ?_)
  | (with_reducible refine i_tt ?_)
  | (with_reducible refine i_ff ?_)
  | (with_reducible refine i_nott ?_)
  | (with_reducible refine i_notf ?_)
  | (with_reducible refine i_andV ?_)
  | (with_reducible refine i_orV ?_)
  | (with_reducible refine i_notV ?_)
  | (with_reducible refine i_ifE ?_)
  | (with_reducible refine i_tup ?_)
  | (with_reducible refine i_lst ?_)
  | (with_reducible refine i_un ?_)
  | (with_reducible refine i_neg ?_)
  | (with_reducible refine i_chain ?_)
  | (with_reducible refine i_next ?_)
  | (with_reducible refine i_retN ?_)
  | (with_reducible refine i_drop ?_)
  | (with_reducible refine i_int_int ?_)
  | (with_reducible refine i_abs ?_)
  | (with_reducible refine i_m1c ?_)
  | (with_reducible refine i_is_non ?_)
  | (with_reducible refine i_is_int ?_)
  | (with_reducible refine i_is_bl ?_)
  | (with_reducible refine i_isn_bl ?_)
  | (with_reducible refine i_is_str ?_)
  | (with_reducible refine i_is_ref ?_)
  | (with_reducible refine i_isn_non ?_)
  | (with_reducible refine i_isn_int ?_)
  | (with_reducible refine i_isn_str ?_)
  | (with_reducible refine i_isn_ref ?_)
  | (with_reducible refine i_len_str ?h1 ?_; (case h1 => walk_at "o"))
  | (with_reducible refine i_callD ?_)
  | (with_reducible refine i_spD2 ?_)
  | (with_reducible refine i_spM1 ?_)
  | (with_reducible refine i_spM2 ?_)
  | (with_reducible refine i_spM3 ?_)
  | (with_reducible refine i_spM4 ?_)
  | (with_reducible refine i_spM3d ?_)
  | (with_reducible refine i_tfld ?_)
  | (with_reducible refine i_sfld ?_)
  | (with_reducible refine i_meth ?_)
  | (with_reducible refine i_make ?_)
  | (with_reducible refine i_spl ?_)
  | (with_reducible refine i_mkE2 ?_)
  | (with_reducible refine i_ex2 ?_)
  | (with_reducible refine i_dget ?_)
  | (with_reducible refine i_tru ?_)
  | (with_reducible refine i_dput ?_)
  | (with_reducible refine i_dnotin ?_)
  | (with_reducible refine i_din ?_)
  | (with_reducible refine i_rev ?_)
  | (with_reducible refine i_isi_int_int ?_) | (with_reducible refine i_isi_int_bool ?_) | (with_reducible refine i_isi_int_str ?_) | (with_reducible refine i_isi_int_tuple ?_) | (with_reducible refine i_isi_int_list ?_)
  | (with_reducible refine i_isi_bl_int ?_) | (with_reducible refine i_isi_bl_bool ?_) | (with_reducible refine i_isi_bl_str ?_) | (with_reducible refine i_isi_bl_tuple ?_) | (with_reducible refine i_isi_bl_list ?_)
  | (with_reducible refine i_isi_str_int ?_) | (with_reducible refine i_isi_str_bool ?_) | (with_reducible refine i_isi_str_str ?_) | (with_reducible refine i_isi_str_tuple ?_) | (with_reducible refine i_isi_str_list ?_)
  | (with_reducible refine i_isi_non_int ?_) | (with_reducible refine i_isi_non_bool ?_) | (with_reducible refine i_isi_non_str ?_) | (with_reducible refine i_isi_non_tuple ?_) | (with_reducible refine i_isi_non_list ?_))
local macro_rules | `(tactic| walk_at "go") => `(tactic| (repeat' (walk_at "s")))
local macro_rules | `(tactic| walk_at "n") => `(tactic| simp only [wipe, List.map_cons, List.map_nil, List.set_cons_zero, List.set_cons_succ])
/-! ### Orders -/
def badOAt (m : Int) (ds : List PyData) : Option Nat := ds.findIdx? fun d => !isOrd m d
def badO : PyData → Option Int
  | .tuple ds => if 1 ≤ ds.length ∧ ds.length ≤ 20 then (badOAt ds.length ds).map fun n : Nat => (n : Int) else some (-1)
  | _ => some (-1)
theorem badO_some {m : Int} {ds : List PyData} {n : Nat} {d : PyData} (h : ds[n]? = some d) (hc : isOrd m d = false) (hb : ∀ k < n, ∀ c, ds[k]? = some c → isOrd m c = true) : badOAt m ds = some n := by
  unfold badOAt
  rw [List.findIdx?_eq_some_iff_getElem]
  obtain ⟨hp, e⟩ := List.getElem?_eq_some_iff.mp h
  refine ⟨hp, by simp [e, hc], fun j hj => ?_⟩
  have := hb j hj (ds[j]) (List.getElem?_eq_getElem (by omega))
  simp [this]
theorem badO_none {m : Int} {ds : List PyData} (hb : ∀ k < ds.length, ∀ c, ds[k]? = some c → isOrd m c = true) : badOAt m ds = none := by
  unfold badOAt
  rw [List.findIdx?_eq_none_iff]
  intro x hx
  obtain ⟨k, hk, e⟩ := List.mem_iff_getElem.mp hx
  have := hb k hk x (by rw [List.getElem?_eq_getElem hk, e])
  simp [this]
mutual
theorem deep_lay : ∀ d : PyData, (deepD d).canLay0 = d.canLay0
  | .list ds => by
    show (PyData.tuple (deepD.deepDs ds)).canLay0 = _
    simp only [PyData.canLay0]
    exact deep_lays ds
  | .tuple ds => by
    show (PyData.tuple (deepD.deepDs ds)).canLay0 = _
    simp only [PyData.canLay0]
    exact deep_lays ds
  | .none => rfl
  | .bool _ => rfl
  | .int _ => rfl
  | .str _ => rfl
  | .dict _ => rfl
theorem deep_lays : ∀ ds : List PyData, PyData.canLayAll0 (deepD.deepDs ds) = PyData.canLayAll0 ds
  | [] => rfl
  | d :: r => by
    show PyData.canLayAll0 (deepD d :: deepD.deepDs r) = _
    simp only [PyData.canLayAll0, deep_lay d, deep_lays r]
end
mutual
theorem deep_dep : ∀ d : PyData, (deepD d).depth = d.depth
  | .none => rfl
  | .bool _ => rfl
  | .int _ => rfl
  | .str _ => rfl
  | .list ds => congrArg (· + 1) (deep_deps ds)
  | .tuple ds => congrArg (· + 1) (deep_deps ds)
  | .dict _ => rfl
theorem deep_deps : ∀ ds : List PyData, PyData.depthAll (deepD.deepDs ds) = PyData.depthAll ds
  | [] => rfl
  | d :: r => by
    show max (deepD d).depth (PyData.depthAll (deepD.deepDs r)) = max d.depth (PyData.depthAll r)
    rw [deep_dep d, deep_deps r]
end
theorem lay_mem : ∀ {ds : List PyData} {d : PyData}, PyData.canLayAll0 ds = true → d ∈ ds → d.canLay0 = true
  | e :: r, d, h, hm => by
    have h' : e.canLay0 = true ∧ PyData.canLayAll0 r = true := by simpa only [PyData.canLayAll0, Bool.and_eq_true] using h
    rcases List.mem_cons.mp hm with rfl | hm
    · exact h'.1
    · exact lay_mem h'.2 hm
/-- the fields of an instance -/
def OF (t : Addr) : List (Str × V) := putF "lines" (.ref t) []
theorem OF_at (t : Addr) : (OF t).lookup ("lines" : Str) = some (.ref t) := by
  unfold OF
  rw [lookup_putF, if_pos rfl]
section
variable {P : Program} {w : World} {K : PySem.W.Frag} {mg : Str → Option Value} {base : Heap} {C_GlimError C_BadLine C_BadOrder C_NoLine C_Lines C_Orders C_WORDS : Addr}
def p_init (C CB : Addr) : P2 := fun x y H Q E => ∃ A p dx d, x = .ref p ∧ Same A H ∧ A p = none ∧ H p = some (.ins C dx []) ∧ At A y d ∧ d.depth < 6 ∧ d.canLay0 = true ∧
  (match badO (deepD d) with
    | some n => Rz E H CB "number" (.int n)
    | none => ∀ A' H' t ds, deepD d = .tuple ds → Same A A' → Same A' H' → But p H H' → (∀ b, A b = none → A' b ≠ none → H b = none) → A' p = none → H' p = some (.ins C dx (OF t)) → At A' (.ref t) (.tuple ds) → Q .non H')
theorem ok_Orders___init__ (T : Txt K mg C_GlimError C_BadLine C_BadOrder C_NoLine C_Lines C_Orders C_WORDS) : MkOK P w K mg base (L2.CX P w) 7 "Orders" C_Orders ["self", "lines"] [] (sp2  (p_init C_Orders C_BadOrder)) := by
  refine MkOK.mkX (k := 6) T.m_Orders___init__ sc_Orders___init__ len2 fun f cdv A outer s H vs Q E hr h => ?_
  obtain ⟨x, y, rfl, h⟩ := h
  refine ⟨_, (pss_cons (ps_set (i := 2) sc_Orders___init__.nd rfl (Or.inl rfl) (pe_fd (ok_deep (K := K) T) (hr.mono (by decide)) pass0 (pa_cons (pv 1) pa_nil))) (pss_cons (ps_if (pw_or (pt_not (pt_val (pe_callB (cIsi K) (by rfl) T.b_isinstance (by decide +kernel) (pa_cons (pv 2) (pa_cons (pe_bltn (v := .ty "tuple") (by rfl) T.b_tuple (by decide +kernel) rfl) pa_nil))))) (pw_or1 (pt_not (pt_chain op_leP op_leP pe_int (pe_callB (cLen K) (by rfl) T.b_len (by decide +kernel) (pa_cons (pv 2) pa_nil)) (pe_gI (20) T.g_MOST_LINES))))).pt (pss_one (ps_raiseP rfl (takes_of rfl rfl rfl rfl) (pmk_E (k := 0) (okx_BadOrder T) (hr.mono (by decide)) (pa_cons (pe_un un_neg pe_int) pa_nil)))) pss_nil) (pss_cons (ps_for (passes_of rfl) rfl (piEnumT K rfl T.b_enumerate (pa_cons (pv 2) pa_nil)) (pgTup (n := 2) K rfl (pgs_cons (pg_name (i := 3) sc_Orders___init__.nd rfl (Or.inl rfl)) (pgs_cons (pg_name (i := 4) sc_Orders___init__.nd rfl (Or.inl rfl)) pgs_nil))) (pss_one (ps_if (pt_not (pt_val (pe_f (ok_is_order (K := K) T) (hr.mono (by decide)) pass0 (pa_cons (pv 4) (pa_cons (pe_callB (cLen K) (by rfl) T.b_len (by decide +kernel) (pa_cons (pv 2) pa_nil)) pa_nil))))) (pss_one (ps_raiseP rfl (takes_of rfl rfl rfl rfl) (pmk_E (k := 0) (okx_BadOrder T) (hr.mono (by decide)) (pa_cons (pv 3) pa_nil)))) pss_nil))) (pss_one (psFld K (pv 0) (pv 2)))))), ?_⟩
  show (_ : TS) { nx := fun _ H' => Q .non H', rt := Q } [some x, some y, none, none, none] H
  obtain ⟨A0, p, dx, d, rfl, sa, np, ob, hd, dp, lay, q⟩ := h
  walk_at "go"
  refine ⟨A0, d, 0, sa, hd, rfl, by decide, by decide, dp, fun A1 H1 v x1 hv => ?_⟩
  have lay' : (deepD d).canLay0 = true := by rw [deep_lay]; exact lay
  have dp' : (deepD d).depth < 6 := by rw [deep_dep]; exact dp
  have hv1 := hv.same x1.ag
  have np1 : A1 p = none := x1.free np (by rw [ob]; simp)
  have ob1 := x1.gg _ _ ob
  generalize deepD d = D at *
  have other : isTupD D = false → badO D = some (-1) := fun h => by
    cases D <;> first
      | rfl
      | cases h
  walk_at "go"
  cases e : isTupD D with
  | false =>
    rw [other e] at q
    refine i_isiTup false hv1 e ?_
    walk_at "go"
    intro dd nd
    exact Rz.at (Rz.mono q x1.gg) nd
  | true =>
    obtain ⟨ds, rfl⟩ : ∃ ds, D = .tuple ds := by
      cases D <;> first
        | exact ⟨_, rfl⟩
        | cases e
    obtain ⟨a, xs, rfl, hA, hl, al⟩ := hv.tupled
    have hH := x1.ag _ _ hA
    have ll := al.len
    refine i_isiTup true hv1 rfl ?_
    change (match (if 1 ≤ ds.length ∧ ds.length ≤ 20 then (badOAt ds.length ds).map fun n : Nat => (n : Int) else some (-1)) with
      | some n => Rz E H C_BadOrder "number" (.int n)
      | none => ∀ A' H' t ds', PyData.tuple ds = .tuple ds' → Same A0 A' → Same A' H' → But p H H' → (∀ b, A0 b = none → A' b ≠ none → H b = none) → A' p = none → H' p = some (.ins C_Orders dx (OF t)) → At A' (.ref t) (.tuple ds') → Q .non H') at q
    walk_at "go"
    refine i_len_tup (.inl (.inl hH)) ?_
    walk_at "go"
    have bad : ¬ (1 ≤ ds.length ∧ ds.length ≤ 20) → Rz E H C_BadOrder "number" (.int (-1)) := fun h => by
      rw [if_neg h] at q; exact q
    refine i_dec (fun e1 => ?_) (fun e1 => ?_)
    rotate_left
    · walk_at "go"
      intro dd nd
      exact Rz.at (Rz.mono (bad (by omega)) x1.gg) nd
    walk_at "go"
    refine i_decN (fun e2 => ?_) (fun e2 => ?_)
    · walk_at "go"
      intro dd nd
      exact Rz.at (Rz.mono (bad (by omega)) x1.gg) nd
    rw [if_pos (by omega)] at q
    walk_at "go"
    dsimp only
    refine f_enumT (ta := tCons (tVar 2) tNil) (i1 := 3) (i2 := 4) (a := a) (xs := xs) (fun R k => by walk_at "go"; exact k) (.inl (.inl hH)) (fun i σ H' => ∃ v1 v2, σ = [some (.ref p), some y, some (.ref a), v1, v2] ∧ Same H1 H' ∧ ∀ k < i, ∀ c, ds[k]? = some c → isOrd ds.length c = true) ⟨none, none, rfl, Same.refl _, fun k hk => absurd hk (Nat.not_lt_zero _)⟩ (fun i σ' H' _ p => ?_) ?_ ?_
    · obtain ⟨_, _, _, s1, _⟩ := p
      rw [s1 _ _ hH, hH]
    · rintro i x σ H' Tt hi ⟨v1, v2, rfl, s1, hb⟩ nT
      show (_ : TS) _ [some (.ref p), some y, some (.ref a), some (.int (i : Int)), some x] _
      obtain ⟨c, hc, ac⟩ := al.get hi
      have s2 := s1.trans (same_upd (o := .tup [.int (i : Int), x]) nT)
      have cm := List.mem_of_getElem? hc
      have dc := depth_mem cm
      have d1 : PyData.depthAll ds + 1 < 6 := dp'
      have lc := lay_mem (by simpa only [PyData.canLay0] using lay') cm
      walk_at "go"
      refine i_len_tup (.inl (.inl (s2 _ _ hH))) ?_
      rw [ll]
      walk_at "go"
      refine ⟨c, ds.length, (ac.same x1.ag).same s2, rfl, lc, by omega, fun H2 s3 => ?_⟩
      cases ew : isOrd ds.length c with
      | true =>
        walk_at "go"
        refine ⟨_, _, rfl, s2.trans s3, fun k hk c' hc' => ?_⟩
        rcases Nat.lt_or_ge k i with h | h
        · exact hb k h c' hc'
        · have : k = i := by omega
          subst this
          rw [hc] at hc'
          cases hc'
          exact ew
      | false =>
        rw [badO_some hc ew hb] at q
        have q : Rz E H C_BadOrder "number" (.int (i : Int)) := q
        walk_at "go"
        intro dd nd
        exact Rz.at (q.mono (x1.gg.trans (s2.trans s3))) nd
    · rintro σ H' ⟨v1, v2, rfl, s1, hb⟩
      rw [badO_none (ds := ds) (fun k hk => hb k (by omega))] at q
      have q : ∀ A' H' t ds', PyData.tuple ds = .tuple ds' → Same A0 A' → Same A' H' → But p H H' → (∀ b, A0 b = none → A' b ≠ none → H b = none) → A' p = none → H' p = some (.ins C_Orders dx (OF t)) → At A' (.ref t) (.tuple ds') → Q .non H' := q
      have s2 := x1.gg.trans s1
      walk_at "go"
      refine i_put (s1 _ _ ob1) T.cl_Orders T.na_Orders_lines (by show 0 < 1000; decide) ?_
      refine q A1 _ a ds rfl x1.aa (fun b o eb => ?_) (fun b o nb eb => ?_) x1.nw np1 upd_same hv
      · rw [upd_ne (ne_of_none eb np1)]; exact s1 _ _ (x1.ag _ _ eb)
      · rw [upd_ne nb]; exact s2 b o eb
def p_len (C : Addr) : P1 := fun x H Q _ => ∃ p dx t xs, x = .ref p ∧ H p = some (.ins C dx (OF t)) ∧ H t = some (.tup xs) ∧ Q (.int (xs.length : Int)) H
theorem ok_Orders___len__ (T : Txt K mg C_GlimError C_BadLine C_BadOrder C_NoLine C_Lines C_Orders C_WORDS) : DOK P w K mg base CX0 1 C_Orders "__len__" ["self"] (sp1  (p_len C_Orders)) := by
  refine DOK.mk (k := 0) T.m_Orders___len__ sc_Orders___len__ len1 fun f cdv A outer s H vs Q E hr h => ?_
  obtain ⟨x, rfl, h⟩ := h
  refine ⟨_, (pss_one (ps_ret (pe_callB (cLen K) (by rfl) T.b_len (by decide +kernel) (pa_cons (peFld K (pv 0)) pa_nil)))), ?_⟩
  show (_ : TS) { nx := fun _ H' => Q .non H', rt := Q } [some x] H
  obtain ⟨p, dx, t, xs, rfl, hp, ht, q⟩ := h
  walk_at "go"
  refine i_fld hp T.cl_Orders T.na_Orders_lines (OF_at t) ?_
  walk_at "go"
  exact i_len_tup (.inl (.inl ht)) q
theorem ok_Orders___iter__ (T : Txt K mg C_GlimError C_BadLine C_BadOrder C_NoLine C_Lines C_Orders C_WORDS) : (IOK P w K mg base CX0 1 C_Orders  "lines") := by
  refine IOK.mk (k := 0) T.m_Orders___iter__ sc_Orders___iter__ fun f cdv A outer s H vs Q E hr h => ?_
  obtain ⟨x, rfl, h⟩ := h
  refine ⟨_, (pss_one (ps_ret (pe_callB (Fg.cIterT K) (by rfl) T.b_iter (by decide +kernel) (pa_cons (peFld K (pv 0)) pa_nil)))), ?_⟩
  show (_ : TS) { nx := fun _ H' => Q .non H', rt := Q } [some x] H
  obtain ⟨a, dx, fs, t, zs, rfl, ha, hl, hq, q⟩ := h
  walk_at "go"
  refine i_fld ha T.cl_Orders T.na_Orders_lines hl ?_
  walk_at "go"
  exact ⟨t, zs, rfl, hq, fun it n1 n2 => q it n1 n2⟩
def p_item (C CN : Addr) : P2 := fun x y H Q E => ∃ p dx t xs d, x = .ref p ∧ H p = some (.ins C dx (OF t)) ∧ H t = some (.tup xs) ∧ At H y d ∧
  (if isIn d 0 ((xs.length : Int) - 1) = true then ∀ i v, d = .int i → 0 ≤ i → xs[i.toNat]? = some v → Q v H else Rz E H CN "number" y)
theorem isIn_is {d : PyData} {lo hi : Int} (h : isIn d lo hi = true) : ∃ i, d = .int i ∧ lo ≤ i ∧ i ≤ hi := by
  cases d with
  | int i =>
    rw [isIn_int, Bool.and_eq_true, decide_eq_true_eq, decide_eq_true_eq] at h
    exact ⟨i, rfl, h⟩
  | _ => cases h
theorem ok_Orders___getitem__ (T : Txt K mg C_GlimError C_BadLine C_BadOrder C_NoLine C_Lines C_Orders C_WORDS) : DOK P w K mg base (L2.CX P w) 3 C_Orders "__getitem__" ["self", "number"] (sp2  (p_item C_Orders C_NoLine)) := by
  refine DOK.mkX (k := 2) T.m_Orders___getitem__ sc_Orders___getitem__ len2 fun f cdv A outer s H vs Q E hr h => ?_
  obtain ⟨x, y, rfl, h⟩ := h
  refine ⟨_, (pss_cons (ps_if (pt_not (pt_val (pe_f (ok_is_integer (K := K) T) (hr.mono (by decide)) pass0 (pa_cons (pv 1) (pa_cons pe_int (pa_cons (pe_op op_subP (pe_callB (cLen K) (by rfl) T.b_len (by decide +kernel) (pa_cons (peFld K (pv 0)) pa_nil)) pe_int) pa_nil)))))) (pss_one (ps_raiseP rfl (takes_of rfl rfl rfl rfl) (pmk_E (k := 0) (okx_NoLine T) (hr.mono (by decide)) (pa_cons (pv 1) pa_nil)))) pss_nil) (pss_one (ps_ret (pe_ix (ixK K) (peFld K (pv 0)) (pv 1) (fun _ _ => rfl))))), ?_⟩
  show (_ : TS) { nx := fun _ H' => Q .non H', rt := Q } [some x, some y] H
  obtain ⟨p, dx, t, xs, d, rfl, hp, ht, hy, q⟩ := h
  have fl : ∀ {R : V → Prop}, R (.ref t) → ∃ a' C dx fs v, V.ref p = .ref a' ∧ H a' = some (.ins C dx fs) ∧ Cls K C ∧ NoAttr K C "lines" ∧ fs.lookup ("lines" : Str) = some v ∧ R v := fun k => i_fld hp T.cl_Orders T.na_Orders_lines (OF_at t) k
  walk_at "go"
  refine fl ?_
  walk_at "go"
  refine i_len_tup (.inl (.inl ht)) ?_
  walk_at "go"
  refine ⟨d, 0, (xs.length : Int) - 1, hy, rfl, rfl, ?_⟩
  refine ⟨_, rfl, ?_⟩
  cases e : isIn d 0 ((xs.length : Int) - 1) with
  | false =>
    rw [e, if_neg (by decide)] at q
    walk_at "go"
    intro dd nd
    exact Rz.at q nd
  | true =>
    rw [e, if_pos rfl] at q
    obtain ⟨i, rfl, h0, h1⟩ := isIn_is e
    obtain rfl := hy.intd
    have hi : i.toNat < xs.length := by omega
    walk_at "go"
    refine fl ?_
    walk_at "go"
    exact i_ix_tup (.inl (.inl ht)) (atI_int h0 (List.getElem?_eq_getElem hi)) (q i _ rfl h0 (List.getElem?_eq_getElem hi))
def p_eq (C : Addr) : P2 := fun x y H Q _ => ∃ p dx t ds, x = .ref p ∧ H p = some (.ins C dx (OF t)) ∧ At H (.ref t) (.tuple ds) ∧ (PyData.tuple ds).canLay0 = true ∧ (PyData.tuple ds).depth ≤ 60 ∧
  ((∃ p2 dx2 t2 ds2, y = .ref p2 ∧ H p2 = some (.ins C dx2 (OF t2)) ∧ At H (.ref t2) (.tuple ds2) ∧ (PyData.tuple ds2).canLay0 = true ∧ (PyData.tuple ds2).depth ≤ 60 ∧ Q (.bl (PyData.eqv (.tuple ds) (.tuple ds2))) H) ∨
    ∃ b ys, y = .ref b ∧ H b = some (.tup ys) ∧ Q (.bl false) H)
theorem ok_Orders___eq__ (T : Txt K mg C_GlimError C_BadLine C_BadOrder C_NoLine C_Lines C_Orders C_WORDS) : DOK P w K mg base CX0 1 C_Orders "__eq__" ["self", "other"] (sp2  (p_eq C_Orders)) := by
  refine DOK.mk (k := 0) T.m_Orders___eq__ sc_Orders___eq__ len2 fun f cdv A outer s H vs Q E hr h => ?_
  obtain ⟨x, y, rfl, h⟩ := h
  refine ⟨_, (pss_one (ps_ret (pe_and (pe_callB (cIsi K) (by rfl) T.b_isinstance (by decide +kernel) (pa_cons (pv 1) (pa_cons (pe_gR _ T.c_Orders) pa_nil))) (pe_one (pe_cmpR (opEq K hr.units) (peFld K (pv 0)) (peFld K (pv 1)) (nomark _)))))), ?_⟩
  show (_ : TS) { nx := fun _ H' => Q .non H', rt := Q } [some x, some y] H
  obtain ⟨p, dx, t, ds, rfl, hp, at1, l1, d1, h⟩ := h
  walk_at "go"
  rcases h with ⟨p2, dx2, t2, ds2, rfl, hp2, at2, l2, d2, q⟩ | ⟨b, ys, rfl, hb, q⟩
  · refine i_isiO hp2 T.ic_Orders (.own _) T.k_Orders_Orders ?_
    walk_at "go"
    refine i_fld hp T.cl_Orders T.na_Orders_lines (OF_at t) ?_
    walk_at "go"
    refine i_fld hp2 T.cl_Orders T.na_Orders_lines (OF_at t2) ?_
    have s1 : SeqAt.shaped (.tuple ds) = true := by unfold SeqAt.shaped; rw [l1, decide_eq_true (by omega)]; rfl
    have s2 : SeqAt.shaped (.tuple ds2) = true := by unfold SeqAt.shaped; rw [l2, decide_eq_true (by omega)]; rfl
    exact i_eq_data (at1.dp K _ _ (PyData.hasDict_of_canLay _ l1)) (at2.dp K _ _ (PyData.hasDict_of_canLay _ l2)) s1 s2 rfl q
  · refine ⟨_, _, _, _, false, rfl, .own _, .base (.tup hb), T.k_tuple_Orders, ?_⟩
    walk_at "go"
    exact q
end
end K43
namespace K43
open PySem PySem.Spec PyProof.Rows L2 Fg
local macro_rules | `(tactic| walk_at "sq") => `(tactic| first
  | assumption
  | exact .inl (.inl (by assumption))
  | exact .inl (.inl upd_same))
local macro_rules | `(tactic| walk_at "st") => `(tactic| first
  | assumption
  | exact .inl (.inl (by assumption))
  | exact .inl (.inl upd_same))
local macro_rules | `(tactic| walk_at "o") => `(tactic| first
  | omega
  | assumption
  | (simp only [List.length_append, List.length_take, List.length_drop, List.length_cons, List.length_nil, List.length_singleton, List.length_map, List.length_range, Int.toNat_natCast] ; omega))
local macro_rules | `(tactic| walk_at "s") => `(tactic| first
  | (with_reducible refine i_seq ?_)
  | (with_reducible refine i_asg ?_)
  | ((with_reducible refine' i_var ?h1 ?_); (case h1 => rfl))
  | (with_reducible refine i_c ?_)
  | ((with_reducible refine' i_gname' ?h1 ?_); (case h1 => (simp only [List.set_cons_zero, List.set_cons_succ]; rfl)))
  | (with_reducible refine i_op ?_)
  | (with_reducible refine i_ifS ?_)
  | (with_reducible refine i_for ?_)
  | (with_reducible refine i_test ?_)
  | (with_reducible refine i_B ?_)
  | (with_reducible refine i_exbl ?_)
  | (with_reducible refine i_exint ?_)
  | (with_reducible refine i_cb ?_)
  | (with_reducible refine i_nil ?_)
  | (with_reducible refine i_cons ?_)
  | (with_reducible refine i_ret ?_)
  | (with_reducible refine i_sl ?_)
  | (with_reducible refine i_nopart ?_)
  | (with_reducible refine i_part ?_)
  | (with_reducible refine i_add_int ?_)
  | (with_reducible refine i_sub ?_)
  | (with_reducible refine i_lt ?_)
  | ((with_reducible refine' i_mod ?h1 ?_); (case h1 => walk_at "o"))
  | ((with_reducible refine' i_fdiv ?h1 ?_); (case h1 => (refine cdiv_small ?_ ?_ <;> walk_at "o")))
  | ((with_reducible refine' i_sl_to ?h1 ?h2 ?_); (case h1 => walk_at "o"); (case h2 => walk_at "o"))
  | ((with_reducible refine' i_sl_from ?h1 ?h2 ?_); (case h1 => walk_at "o"); (case h2 => walk_at "o"))
  | ((with_reducible refine' i_add_str ?h1 ?_); (case h1 => walk_at "o"))
  | ((with_reducible refine' i_mul_int ?h1 ?_); (case h1 => first | (refine mul_small ?_ ?_ <;> walk_at "o") | (refine mul_smallR ?_ ?_ <;> walk_at "o")))
  | (with_reducible refine i_le ?_)
  | (with_reducible refine i_gt ?_)
  | (with_reducible refine i_ge ?_)
  | (with_reducible refine i_eq_int ?_)
  | (with_reducible refine i_eq_str ?_)
  | (with_reducible refine i_ne_int ?_)
  | (with_reducible refine i_ne_str ?_)
  | (with_reducible refine i_eq_bl ?_)
  | (with_reducible refine i_ne_bl ?_)
  | (with_reducible refine i_in_sg ?_)
  | (with_reducible refine i_notIn_sg ?_)
  | (with_reducible refine i_call ?_)
  | (with_reducible refine i_callS ?_)
  | (with_reducible refine i_sp1 ?_)
  | (with_reducible refine i_sp2 ?_)
  | (with_reducible refine i_sp3 ?_)
  | (with_reducible refine i_sp4 ?_)
  | (with_reducible refine i_sp1' ?_)
  | (with_reducible refine i_sp2' ?_)
  | (with_reducible refine i_sp3' ?_)
  | ((with_reducible refine' i_ix_lst ?h1 ?h2 ?_); (case h1 => walk_at "sq"); (case h2 => first | exact atI_nat rfl | rfl))
  | ((with_reducible refine' i_ix_tup ?h1 ?h2 ?_); (case h1 => walk_at "st"); (case h2 => first | exact atI_nat rfl | rfl))
  | (with_reducible refine i_gsub ?_)
  | (with_reducible refine i_par ?_)
  | (with_reducible refine i_lstRg1 ?_)
  | (with_reducible refine i_app ?_)
  | (with_reducible refine i_par2 ?_)
  | ((with_reducible refine' i_aug ?h1 ?_); (case h1 => rfl))
  | (with_reducible refine i_ipI ?_)
  | ((with_reducible refine' i_gtup2 ?h1 ?_); (case h1 => walk_at "st"))
  | (with_reducible refine i_int_bl ?_)
  | (with_reducible refine i_raise ?_)
  | (with_reducible refine i_mkE ?_)
  | (with_reducible refine i_ex1 ?_)
  | (with_reducible refine i_and ?_)
  | (with_reducible refine i_or ?_)
  | (with_reducible refine i_not ?_)
  | (with_reducible refine i_tt ?_)
  | (with_reducible refine i_ff ?_)
  | (with_reducible refine i_nott ?_)
  | (with_reducible refine i_notf ?_)
  | (with_reducible refine i_andV ?_)
  | (with_reducible refine i_orV ?_)
  | (with_reducible refine i_notV ?_)
  | (with_reducible refine i_ifE ?_)
  | (with_reducible refine i_tup ?_)
  | (with_reducible refine i_lst ?_)
  | (with_reducible refine i_un ?_)
  | (with_reducible refine i_neg ?_)
  | (with_reducible refine i_chain ?_)
  | (with_reducible refine i_next ?_)
  | (with_reducible refine i_retN ?_)
  | (with_reducible refine i_drop ?_)
  | (with_reducible refine i_int_int ?_)
  | (with_reducible refine i_abs ?_)
  | (with_reducible refine i_m1c ?_)
  | (with_reducible refine i_is_non ?_)
  | (with_reducible refine i_is_int ?_)
  | (with_reducible refine i_is_bl ?_)
  | (with_reducible refine i_isn_bl ?_)
  | (with_reducible refine i_is_str ?_)
  | (with_reducible refine i_is_ref ?_)
  | (with_reducible refine i_isn_non ?_)
  | (with_reducible refine i_isn_int ?_)
  | (with_reducible refine i_isn_str ?_)
  | (with_reducible refine i_isn_ref ?_)
  | (with_reducible refine i_len_str ?h1 ?_; (case h1 => walk_at "o"))
  | (with_reducible refine i_callD ?_)
  | (with_reducible refine i_spD2 ?_)
  | (with_reducible refine i_spM1 ?_)
  | (with_reducible refine i_spM2 ?_)
  | (with_reducible refine i_spM3 ?_)
  | (with_reducible refine i_spM4 ?_)
  | (with_reducible refine i_spM3d ?_)
  | (with_reducible refine i_tfld ?_)
  | (with_reducible refine i_sfld ?_)
  | (with_reducible refine i_meth ?_)
  | (with_reducible refine i_make ?_)
  | (with_reducible refine i_spl ?_)
  | (with_reducible refine i_mkE2 ?_)
  | (with_reducible refine i_ex2 ?_)
  | (with_reducible refine i_dget ?_)
  | (with_reducible refine i_tru ?_)
  | (with_reducible refine i_dput ?_)
  | (with_reducible refine i_dnotin ?_)
  | (with_reducible refine i_din ?_)
  | (with_reducible refine i_rev ?_)
  | (with_reducible refine i_isi_int_int ?_) | (with_reducible refine i_isi_int_bool ?_) | (with_reducible refine i_isi_int_str ?_) | (with_reducible refine i_isi_int_tuple ?_) | (with_reducible refine i_isi_int_list ?_)
  | (with_reducible refine i_isi_bl_int ?_) | (with_reducible refine i_isi_bl_bool ?_) | (with_reducible refine i_isi_bl_str ?_) | (with_reducible refine i_isi_bl_tuple ?_) | (with_reducible refine i_isi_bl_list ?_)
  | (with_reducible refine i_isi_str_int ?_) | (with_reducible refine i_isi_str_bool ?_) | (with_reducible refine i_isi_str_str ?_) | (with_reducible refine i_isi_str_tuple ?_) | (with_reducible refine i_isi_str_list ?_)
  | (with_reducible refine i_isi_non_int ?_) | (with_reducible refine i_isi_non_bool ?_) | (with_reducible refine i_isi_non_str ?_) | (with_reducible refine i_isi_non_tuple ?_) | (with_reducible refine i_isi_non_list ?_))
local macro_rules | `(tactic| walk_at "go") => `(tactic| (repeat' (walk_at "s")))
local macro_rules | `(tactic| walk_at "n") => `(tactic| simp only [wipe, List.map_cons, List.map_nil, List.set_cons_zero, List.set_cons_succ])
section
variable {P : Program} {w : World} {K : PySem.W.Frag} {mg : Str → Option Value} {base : Heap} {C_GlimError C_BadLine C_BadOrder C_NoLine C_Lines C_Orders C_WORDS : Addr}
/-- a number of at most nine digits, without a nought ahead -/
def numL (l : List Nat) : Bool := decide (1 ≤ l.length) && decide (l.length ≤ 9) && l.all (fun c => decide (c ∈ DG)) && (decide (l = [48]) || decide (l.head? ≠ some 48))
def p_is_number : P1 := fun x H Q _ => ∃ l, x = S l ∧ l.length ≤ 10000 ∧ Q (.bl (numL l)) H
theorem ok_is_number (T : Txt K mg C_GlimError C_BadLine C_BadOrder C_NoLine C_Lines C_Orders C_WORDS) : OK P w K mg base CX0 1 "is_number" ["text"] (sp1  p_is_number) := by
  refine OK.mk (k := 0) T.d_is_number sc_is_number len1 fun f cdv A outer s H vs Q E hr h => ?_
  obtain ⟨x, rfl, h⟩ := h
  refine ⟨_, (pss_cons (ps_if (pt_not (pt_chain op_leP op_leP pe_int (pe_callB (cLen K) (by rfl) T.b_len (by decide +kernel) (pa_cons (pv 0) pa_nil)) pe_int)) (pss_one (ps_ret pe_bl)) pss_nil) (pss_cons (ps_for PassesOwn.never rfl (piAny K (pv 0)) (pg_name (i := 1) sc_is_number.nd rfl (Or.inl rfl)) (pss_one (ps_if (pt_cmpR (opNotIn K) (pv 1) (pe_gS [48, 49, 50, 51, 52, 53, 54, 55, 56, 57] T.g_DIGITS) (by with_unfolding_all rfl)) (pss_one (ps_ret pe_bl)) pss_nil))) (pss_one (ps_ret (pe_or (pe_cmpR (opEq K hr.units) (pv 0) (pe_S [48]) (nomark _)) (pe_one (pe_cmpR (opNe K hr.units) (pe_ix (ixK K) (pv 0) pe_int (fun _ _ => rfl)) (pe_S [48]) (nomark _)))))))), ?_⟩
  show (_ : TS) { nx := fun _ H' => Q .non H', rt := Q } [some x, none] H
  obtain ⟨l, rfl, hl, q⟩ := h
  unfold numL at q
  walk_at "go"
  refine i_dec (fun e1 => ?_) (fun e1 => ?_)
  case refine_2 =>
    walk_at "go"
    rw [decide_eq_false (show ¬ 1 ≤ l.length by omega)] at q
    simpa using q
  walk_at "go"
  rw [decide_eq_true (show 1 ≤ l.length by omega)] at q
  refine i_decN (fun e2 => ?_) (fun e2 => ?_)
  · rw [decide_eq_false (show ¬ l.length ≤ 9 by omega)] at q
    walk_at "go"
    simpa using q
  rw [decide_eq_true (show l.length ≤ 9 by omega)] at q
  walk_at "go"
  refine i_forS (z := l) (fun i σ H' => ∃ v1, σ = [some (S l), v1] ∧ H' = H ∧ ∀ k < i, ∀ c, l[k]? = some c → c ∈ DG) ⟨none, rfl, rfl, fun k hk => absurd hk (Nat.not_lt_zero _)⟩ ?_ ?_
  · rintro i c σ H' hc ⟨v1, rfl, rfl, hb⟩
    show (_ : TS) _ [some (S l), some (S [c])] _
    walk_at "go"
    refine i_decN (fun e => ?_) (fun e => ?_)
    · walk_at "go"
      have e3 : l.all (fun c => decide (c ∈ DG)) = false := by
        rw [List.all_eq_false]
        exact ⟨c, List.mem_of_getElem? hc, by simpa using e⟩
      rw [e3] at q
      simpa using q
    · walk_at "go"
      refine ⟨_, rfl, rfl, fun k hk c' hc' => ?_⟩
      rcases Nat.lt_or_ge k i with h | h
      · exact hb k h c' hc'
      · have : k = i := by omega
        subst this
        rw [hc] at hc'
        cases hc'
        exact e
  · rintro σ H' ⟨v1, rfl, rfl, hb⟩
    have e3 : l.all (fun c => decide (c ∈ DG)) = true := by
      rw [List.all_eq_true]
      intro c hc
      obtain ⟨k, hk, e⟩ := List.mem_iff_getElem.mp hc
      exact decide_eq_true (hb k hk c (by rw [List.getElem?_eq_getElem hk, e]))
    rw [e3] at q
    walk_at "go"
    refine i_dec (fun e => ?_) (fun e => ?_)
    · rw [decide_eq_true e] at q
      simpa using q
    · rw [decide_eq_false e] at q
      walk_at "go"
      cases l with
      | nil => simp at e1
      | cons c r =>
        refine i_ix_str (c := c) (by omega) (by decide) rfl ?_
        walk_at "go"
        have e4 : (decide ((c :: r).head? ≠ some 48)) = !decide ([c] = [48]) := by
          rw [Bool.eq_iff_iff]; simp
        rw [e4] at q
        simpa using q
end
end K43
namespace K43
open PySem PySem.Spec PyProof.Rows L2 Fg
local macro_rules | `(tactic| walk_at "sq") => `(tactic| first
  | assumption
  | exact .inl (.inl (by assumption))
  | exact .inl (.inl upd_same))
local macro_rules | `(tactic| walk_at "st") => `(tactic| first
  | assumption
  | exact .inl (.inl (by assumption))
  | exact .inl (.inl upd_same))
local macro_rules | `(tactic| walk_at "o") => `(tactic| first
  | omega
  | assumption
  | (simp only [List.length_append, List.length_take, List.length_drop, List.length_cons, List.length_nil, List.length_singleton, List.length_map, List.length_range, Int.toNat_natCast] ; omega))
local macro_rules | `(tactic| walk_at "s") => `(tactic| first
  | (with_reducible refine i_seq ?_)
  | (with_reducible refine i_asg ?_)
  | ((with_reducible refine' i_var ?h1 ?_); (case h1 => rfl))
  | (with_reducible refine i_c ?_)
  | ((with_reducible refine' i_gname' ?h1 ?_); (case h1 => (simp only [List.set_cons_zero, List.set_cons_succ]; rfl)))
  | (with_reducible refine i_op ?_)
  | (with_reducible refine i_ifS ?_)
  | (with_reducible refine i_for ?_)
  | (with_reducible refine i_test ?_)
  | (with_reducible refine i_B ?_)
  | (with_reducible refine i_exbl ?_)
  | (with_reducible refine i_exint ?_)
  | (with_reducible refine i_cb ?_)
  | (with_reducible refine i_nil ?_)
  | (with_reducible refine i_cons ?_)
  | (with_reducible refine i_ret ?_)
  | (with_reducible refine i_sl ?_)
  | (with_reducible refine i_nopart ?_)
  | (with_reducible refine i_part ?_)
  | (with_reducible refine i_add_int ?_)
  | (with_reducible refine i_sub ?_)
  | (with_reducible refine i_lt ?_)
  | ((with_reducible refine' i_mod ?h1 ?_); (case h1 => walk_at "o"))
  | ((with_reducible refine' i_fdiv ?h1 ?_); (case h1 => (refine cdiv_small ?_ ?_ <;> walk_at "o")))
  | ((with_reducible refine' i_sl_to ?h1 ?h2 ?_); (case h1 => walk_at "o"); (case h2 => walk_at "o"))
  | ((with_reducible refine' i_sl_from ?h1 ?h2 ?_); (case h1 => walk_at "o"); (case h2 => walk_at "o"))
  | ((with_reducible refine' i_add_str ?h1 ?_); (case h1 => walk_at "o"))
  | ((with_reducible refine' i_mul_int ?h1 ?_); (case h1 => first | (refine mul_small ?_ ?_ <;> walk_at "o") | (refine mul_smallR ?_ ?_ <;> walk_at "o")))
  | (with_reducible refine i_le ?_)
  | (with_reducible refine i_gt ?_)
  | (with_reducible refine i_ge ?_)
  | (with_reducible refine i_eq_int ?_)
  | (with_reducible refine i_eq_str ?_)
  | (with_reducible refine i_ne_int ?_)
  | (with_reducible refine i_ne_str ?_)
  | (with_reducible refine i_eq_bl ?_)
  | (with_reducible refine i_ne_bl ?_)
  | (with_reducible refine i_in_sg ?_)
  | (with_reducible refine i_notIn_sg ?_)
  | (with_reducible refine i_call ?_)
  | (with_reducible refine i_callS ?_)
  | (with_reducible refine i_sp1 ?_)
  | (with_reducible refine i_sp2 ?_)
  | (with_reducible refine i_sp3 ?_)
  | (with_reducible refine i_sp4 ?_)
  | (with_reducible refine i_sp1' ?_)
  | (with_reducible refine i_sp2' ?_)
  | (with_reducible refine i_sp3' ?_)
  | ((with_reducible refine' i_ix_lst ?h1 ?h2 ?_); (case h1 => walk_at "sq"); (case h2 => first | exact atI_nat rfl | rfl))
  | ((with_reducible refine' i_ix_tup ?h1 ?h2 ?_); (case h1 => walk_at "st"); (case h2 => first | exact atI_nat rfl | rfl))
  | (with_reducible refine i_gsub ?_)
  | (with_reducible refine i_par ?_)
  | (with_reducible refine i_lstRg1 ?_)
  | (with_reducible refine i_app ?_)
  | (with_reducible refine i_par2 ?_)
  | ((with_reducible refine' i_aug ?h1 ?_); (case h1 => rfl))
  | (with_reducible refine i_ipI ?_)
  | ((with_reducible refine' i_gtup2 ?h1 ?_); (case h1 => walk_at "st"))
  | (with_reducible refine i_int_bl ?_)
  | (with_reducible refine i_raise ?_)
  | (with_reducible refine i_mkE ?_)
  | (with_reducible refine i_ex1 ?_)
  | (with_reducible refine i_and ?_)
  | (with_reducible refine i_or ?_)
  | (with_reducible refine i_not ?_)
  | (with_reducible refine i_tt ?_)
  | (with_reducible refine i_ff ?_)
  | (with_reducible refine i_nott ?_)
  | (with_reducible refine i_notf ?_)
  | (with_reducible refine i_andV ?_)
  | (with_reducible refine i_orV ?_)
  | (with_reducible refine i_notV ?_)
  | (with_reducible refine i_ifE ?_)
  | (with_reducible refine i_tup ?_)
  | (with_reducible refine i_lst ?_)
  | (with_reducible refine i_un ?_)
  | (with_reducible refine i_neg ?_)
  | (with_reducible refine i_chain ?_)
  | (with_reducible refine i_next ?_)
  | (with_reducible refine i_retN ?_)
  | (with_reducible refine i_drop ?_)
  | (with_reducible refine i_int_int ?_)
  | (with_reducible refine i_abs ?_)
  | (with_reducible refine i_m1c ?_)
  | (with_reducible refine i_is_non ?_)
  | (with_reducible refine i_is_int ?_)
  | (with_reducible refine i_is_bl ?_)
  | (with_reducible refine i_isn_bl ?_)
  | (with_reducible refine i_is_str ?_)
  | (with_reducible refine i_is_ref ?_)
  | (with_reducible refine i_isn_non ?_)
  | (with_reducible refine i_isn_int ?_)
  | (with_reducible refine i_isn_str ?_)
  | (with_reducible refine i_isn_ref ?_)
  | (with_reducible refine i_len_str ?h1 ?_; (case h1 => walk_at "o"))
  | (with_reducible refine i_callD ?_)
  | (with_reducible refine i_spD2 ?_)
  | (with_reducible refine i_spM1 ?_)
  | (with_reducible refine i_spM2 ?_)
  | (with_reducible refine i_spM3 ?_)
  | (with_reducible refine i_spM4 ?_)
  | (with_reducible refine i_spM3d ?_)
  | (with_reducible refine i_tfld ?_)
  | (with_reducible refine i_sfld ?_)
  | (with_reducible refine i_meth ?_)
  | (with_reducible refine i_make ?_)
  | (with_reducible refine i_spl ?_)
  | (with_reducible refine i_mkE2 ?_)
  | (with_reducible refine i_ex2 ?_)
  | (with_reducible refine i_dget ?_)
  | (with_reducible refine i_tru ?_)
  | (with_reducible refine i_dput ?_)
  | (with_reducible refine i_dnotin ?_)
  | (with_reducible refine i_din ?_)
  | (with_reducible refine i_rev ?_)
  | (with_reducible refine i_isi_int_int ?_) | (with_reducible refine i_isi_int_bool ?_) | (with_reducible refine i_isi_int_str ?_) | (with_reducible refine i_isi_int_tuple ?_) | (with_reducible refine i_isi_int_list ?_)
  | (with_reducible refine i_isi_bl_int ?_) | (with_reducible refine i_isi_bl_bool ?_) | (with_reducible refine i_isi_bl_str ?_) | (with_reducible refine i_isi_bl_tuple ?_) | (with_reducible refine i_isi_bl_list ?_)
  | (with_reducible refine i_isi_str_int ?_) | (with_reducible refine i_isi_str_bool ?_) | (with_reducible refine i_isi_str_str ?_) | (with_reducible refine i_isi_str_tuple ?_) | (with_reducible refine i_isi_str_list ?_)
  | (with_reducible refine i_isi_non_int ?_) | (with_reducible refine i_isi_non_bool ?_) | (with_reducible refine i_isi_non_str ?_) | (with_reducible refine i_isi_non_tuple ?_) | (with_reducible refine i_isi_non_list ?_))
local macro_rules | `(tactic| walk_at "go") => `(tactic| (repeat' (walk_at "s")))
local macro_rules | `(tactic| walk_at "n") => `(tactic| simp only [wipe, List.map_cons, List.map_nil, List.set_cons_zero, List.set_cons_succ])
/-! ### a reader -/
theorem kN : ¬ (("texts" : Str) = "now") := by decide +kernel
def LF (t : Addr) (n : Nat) : List (Str × V) := putF "now" (.int (n : Int)) (putF "texts" (.ref t) [])
theorem LF_eq (t : Addr) (n : Nat) : LF t n = ([("texts", V.ref t), ("now", V.int (n : Int))] : List (Str × V)) := by
  show (if ("texts" : Str) = "now" then [(("texts" : Str), V.int (n : Int))] else (("texts" : Str), V.ref t) :: putF "now" (V.int (n : Int)) []) = _
  rw [if_neg kN]
  all_goals rfl
theorem LF_texts (t : Addr) (n : Nat) : (LF t n).lookup ("texts" : Str) = some (.ref t) := by
  unfold LF
  rw [lookup_putF, if_neg kN, lookup_putF, if_pos rfl]
theorem LF_now (t : Addr) (n : Nat) : (LF t n).lookup ("now" : Str) = some (.int (n : Int)) := by
  unfold LF
  rw [lookup_putF, if_pos rfl]
theorem LF_no (t : Addr) (n : Nat) {m : Str} (h1 : ¬ m = "now") (h2 : ¬ m = "texts") : (LF t n).lookup m = none := by
  unfold LF
  rw [lookup_putF, if_neg h1, lookup_putF, if_neg h2]
  all_goals rfl
theorem LF_put (t : Addr) (n m : Nat) : putF "now" (.int (m : Int)) (LF t n) = LF t m := by
  rw [LF_eq, LF_eq]
  show (if ("texts" : Str) = "now" then _ else (("texts" : Str), V.ref t) :: (if ("now" : Str) = "now" then [(("now" : Str), V.int (m : Int))] else _)) = _
  rw [if_neg kN, if_pos rfl]
  all_goals rfl
/-- a reader at p over the lines ds, at line n -/
structure Rdr (C : Addr) (A H : Hp) (p t : Addr) (n : Nat) (ds : List PyData) : Prop where
  sa : Same A H
  tx : At A (.ref t) (.tuple ds)
  ob : ∃ dx, H p = some (.ins C dx (LF t n))
theorem Rdr.same {C : Addr} {A H H' : Hp} {p t : Addr} {n : Nat} {ds : List PyData} (r : Rdr C A H p t n ds) (s : Same H H') : Rdr C A H' p t n ds := by
  obtain ⟨sa, tx, dx, ob⟩ := r
  exact ⟨sa.trans s, tx, dx, s _ _ ob⟩
/-- the wish for BadLine -/
def Bl (E : XK) (H : Hp) (C : Addr) (line word : Nat) : Prop := Rzf E H C [("word", .int (word : Int)), ("line", .int (line : Int))]
theorem Bl.mono {E : XK} {H H1 : Hp} {C : Addr} {l w : Nat} (h : Bl E H C l w) (s : Same H H1) : Bl E H1 C l w := Rzf.mono h s
theorem Bl.at {E : XK} {H : Hp} {C : Addr} {l w : Nat} (h : Bl E H C l w) {d : Addr} (n : H d = none) : E (.ref C) (some d) (upd H d (.xd [("word", .int (w : Int)), ("line", .int (l : Int))])) := Rzf.at h n
section
variable {P : Program} {w : World} {K : PySem.W.Frag} {mg : Str → Option Value} {base : Heap} {C_GlimError C_BadLine C_BadOrder C_NoLine C_Lines C_Orders C_WORDS : Addr}
def p_over (C : Addr) : P1 := fun x H Q _ => ∃ A p t n ds, x = .ref p ∧ Rdr C A H p t n ds ∧ Q (.bl (decide (ds.length ≤ n))) H
theorem ok_Lines_is_over (T : Txt K mg C_GlimError C_BadLine C_BadOrder C_NoLine C_Lines C_Orders C_WORDS) : MOK P w K mg base CX0 1 C_Lines "is_over" ["self"] [] (sp1  (p_over C_Lines)) := by
  refine MOK.mk (k := 0) T.m_Lines_is_over sc_Lines_is_over len1 fun f cdv A outer s H vs Q E hr h => ?_
  obtain ⟨x, rfl, h⟩ := h
  refine ⟨_, (pss_one (ps_ret (pe_cmpR op_geP (peFld K (pv 0)) (pe_callB (cLen K) (by rfl) T.b_len (by decide +kernel) (pa_cons (peFld K (pv 0)) pa_nil)) (nomark _)))), ?_⟩
  show (_ : TS) { nx := fun _ H' => Q .non H', rt := Q } [some x] H
  obtain ⟨A0, p, t, n, ds, rfl, ⟨sa, tx, dx, ob⟩, q⟩ := h
  obtain ⟨t', xs, e, hH, hl, al⟩ := tx.tupled
  cases e
  walk_at "go"
  refine i_fld ob T.cl_Lines T.na_Lines_now (LF_now t n) ?_
  walk_at "go"
  refine i_fld ob T.cl_Lines T.na_Lines_texts (LF_texts t n) ?_
  walk_at "go"
  refine i_len_tup (.inl (.inl (sa _ _ hH))) ?_
  walk_at "go"
  have e1 : decide ((xs.length : Int) ≤ (n : Int)) = decide (ds.length ≤ n) := by
    rw [al.len, Bool.eq_iff_iff]; simp
  rw [e1]
  exact q
def p_words (C CB : Addr) : P1 := fun x H Q E => ∃ A p t n ds, x = .ref p ∧ Rdr C A H p t n ds ∧
  (match ds[n]? with | some (.str z) => (∀ l, H l = none → Q (.ref l) (upd H l (.lst ((wrds z).map S)))) | _ => Bl E H CB n 0)
theorem ok_Lines_words (T : Txt K mg C_GlimError C_BadLine C_BadOrder C_NoLine C_Lines C_Orders C_WORDS) : MOK P w K mg base (L2.CX P w) 3 C_Lines "words" ["self"] [] (sp1  (p_words C_Lines C_BadLine)) := by
  refine MOK.mkX (k := 2) T.m_Lines_words sc_Lines_words len1 fun f cdv A outer s H vs Q E hr h => ?_
  obtain ⟨x, rfl, h⟩ := h
  refine ⟨_, (pss_cons (ps_if (pw_or (pt_cmpR op_geP (peFld K (pv 0)) (pe_callB (cLen K) (by rfl) T.b_len (by decide +kernel) (pa_cons (peFld K (pv 0)) pa_nil)) (nomark _)) (pw_or1 (pt_not (pt_val (pe_callB (cIsi K) (by rfl) T.b_isinstance (by decide +kernel) (pa_cons (pe_ix (ixK K) (peFld K (pv 0)) (peFld K (pv 0)) (fun _ _ => rfl)) (pa_cons (pe_bltn (v := .ty "str") (by rfl) T.b_str (by decide +kernel) rfl) pa_nil))))))).pt (pss_one (ps_raiseP rfl (takes_of rfl rfl rfl rfl) (pmk_E2 (k := 0) (okx_BadLine T) (hr.mono (by decide)) (pa_cons (peFld K (pv 0)) (pa_cons pe_int pa_nil))))) pss_nil) (pss_one (ps_ret (peSplit K (pe_ix (ixK K) (peFld K (pv 0)) (peFld K (pv 0)) (fun _ _ => rfl)) (pa_cons (pe_S [32]) pa_nil))))), ?_⟩
  show (_ : TS) { nx := fun _ H' => Q .non H', rt := Q } [some x] H
  obtain ⟨A0, p, t, n, ds, rfl, ⟨sa, tx, dx, ob⟩, q⟩ := h
  obtain ⟨t', xs, e, hH, hl, al⟩ := tx.tupled
  cases e
  have ll := al.len
  have now : ∀ {P : V → Prop}, P (.int (n : Int)) → _ := fun {P} k => i_fld (P := P) ob T.cl_Lines T.na_Lines_now (LF_now t n) k
  have txt : ∀ {P : V → Prop}, P (.ref t) → _ := fun {P} k => i_fld (P := P) ob T.cl_Lines T.na_Lines_texts (LF_texts t n) k
  walk_at "go"
  refine now ?_
  walk_at "go"
  refine txt ?_
  walk_at "go"
  refine i_len_tup (.inl (.inl (sa _ _ hH))) ?_
  walk_at "go"
  refine i_dec (fun e => ?_) (fun e => ?_)
  · rw [List.getElem?_eq_none (by omega)] at q
    walk_at "go"
    refine now ?_
    walk_at "go"
    intro dd nd
    exact Bl.at q nd
  have hn : n < ds.length := by omega
  have hd : ds[n]? = some ds[n] := List.getElem?_eq_getElem hn
  obtain ⟨v, hv, av⟩ := al.at hd
  rw [hd] at q
  have av := av.same sa
  generalize ds[n] = d at *
  have ix : ∀ {R : VK}, R v H → ixP K (.ref t) (.int (n : Int)) H R := fun k => i_ix_tup (.inl (.inl (sa _ _ hH))) (atI_nat hv) k
  walk_at "go"
  refine txt ?_
  walk_at "go"
  refine now ?_
  walk_at "go"
  refine ix ?_
  walk_at "go"
  cases es : isStrD d with
  | false =>
    refine i_isiStr false av es ?_
    walk_at "go"
    refine now ?_
    walk_at "go"
    intro dd nd
    have q' : Bl E H C_BadLine n 0 := by
      cases d <;> first
        | exact q
        | cases es
    exact Bl.at q' nd
  | true =>
    obtain ⟨z, rfl⟩ : ∃ z, d = .str z := by
      cases d <;> first
        | exact ⟨_, rfl⟩
        | cases es
    refine i_isiStr true av rfl ?_
    walk_at "go"
    refine txt ?_
    walk_at "go"
    refine now ?_
    walk_at "go"
    refine ix ?_
    walk_at "go"
    obtain ⟨l, rfl, rfl, hl0⟩ := av.strl
    refine ⟨rfl, ?_⟩
    walk_at "go"
    refine ⟨⟨l.toArray⟩, ⟨#[32]⟩, rfl, rfl, rfl, ?_, ?_⟩
    · rw [str_len]
      exact Nat.le_trans (show l.length + 2 ≤ 100000 by omega) (by decide)
    · intro pp np
      rw [words_V]
      exact q pp np
end
end K43
namespace K43
open PySem PySem.Spec PyProof.Rows L2 Fg
open PySem.NumText (AllDigits digitsVal)
local macro_rules | `(tactic| walk_at "sq") => `(tactic| first
  | assumption
  | exact .inl (.inl (by assumption))
  | exact .inl (.inl upd_same))
local macro_rules | `(tactic| walk_at "st") => `(tactic| first
  | assumption
  | exact .inl (.inl (by assumption))
  | exact .inl (.inl upd_same))
local macro_rules | `(tactic| walk_at "o") => `(tactic| first
  | omega
  | assumption
  | (simp only [List.length_append, List.length_take, List.length_drop, List.length_cons, List.length_nil, List.length_singleton, List.length_map, List.length_range, Int.toNat_natCast] ; omega))
local macro_rules | `(tactic| walk_at "s") => `(tactic| first
  | (with_reducible refine i_seq ?_)
  | (with_reducible refine i_asg ?_)
  | ((with_reducible refine' i_var ?h1 ?_); (case h1 => rfl))
  | (with_reducible refine i_c ?_)
  | ((with_reducible refine' i_gname' ?h1 ?_); (case h1 => (simp only [List.set_cons_zero, List.set_cons_succ]; rfl)))
  | (with_reducible refine i_op ?_)
  | (with_reducible refine i_ifS ?_)
  | (with_reducible refine i_for ?_)
  | (with_reducible refine i_test ?_)
  | (with_reducible refine i_B ?_)
  | (with_reducible refine i_exbl ?_)
  | (with_reducible refine i_exint ?_)
  | (with_reducible refine i_cb ?_)
  | (with_reducible refine i_nil ?_)
  | (with_reducible refine i_cons ?_)
  | (with_reducible refine i_ret ?_)
  | (with_reducible refine i_sl ?_)
  | (with_reducible refine i_nopart ?_)
  | (with_reducible refine i_part ?_)
  | (with_reducible refine i_add_int ?_)
  | (with_reducible refine i_sub ?_)
  | (with_reducible refine i_lt ?_)
  | ((with_reducible refine' i_mod ?h1 ?_); (case h1 => walk_at "o"))
  | ((with_reducible refine' i_fdiv ?h1 ?_); (case h1 => (refine cdiv_small ?_ ?_ <;> walk_at "o")))
  | ((with_reducible refine' i_sl_to ?h1 ?h2 ?_); (case h1 => walk_at "o"); (case h2 => walk_at "o"))
  | ((with_reducible refine' i_sl_from ?h1 ?h2 ?_); (case h1 => walk_at "o"); (case h2 => walk_at "o"))
  | ((with_reducible refine' i_add_str ?h1 ?_); (case h1 => walk_at "o"))
  | ((with_reducible refine' i_mul_int ?h1 ?_); (case h1 => first | (refine mul_small ?_ ?_ <;> walk_at "o") | (refine mul_smallR ?_ ?_ <;> walk_at "o")))
  | (with_reducible refine i_le ?_)
  | (with_reducible refine i_gt ?_)
  | (with_reducible refine i_ge ?_)
  | (with_reducible refine i_eq_int ?_)
  | (with_reducible refine i_eq_str ?_)
  | (with_reducible refine i_ne_int ?_)
  | (with_reducible refine i_ne_str ?_)
  | (with_reducible refine i_eq_bl ?_)
  | (with_reducible refine i_ne_bl ?_)
  | (with_reducible refine i_in_sg ?_)
  | (with_reducible refine i_notIn_sg ?_)
  | (with_reducible refine i_call ?_)
  | (with_reducible refine i_callS ?_)
  | (with_reducible refine i_sp1 ?_)
  | (with_reducible refine i_sp2 ?_)
  | (with_reducible refine i_sp3 ?_)
  | (with_reducible refine i_sp4 ?_)
  | (with_reducible refine i_sp1' ?_)
  | (with_reducible refine i_sp2' ?_)
  | (with_reducible refine i_sp3' ?_)
  | ((with_reducible refine' i_ix_lst ?h1 ?h2 ?_); (case h1 => walk_at "sq"); (case h2 => first | exact atI_nat rfl | rfl))
  | ((with_reducible refine' i_ix_tup ?h1 ?h2 ?_); (case h1 => walk_at "st"); (case h2 => first | exact atI_nat rfl | rfl))
  | (with_reducible refine i_gsub ?_)
  | (with_reducible refine i_par ?_)
  | (with_reducible refine i_lstRg1 ?_)
  | (with_reducible refine i_app ?_)
  | (with_reducible refine i_par2 ?_)
  | ((with_reducible refine' i_aug ?h1 ?_); (case h1 => rfl))
  | (with_reducible refine i_ipI ?_)
  | ((with_reducible refine' i_gtup2 ?h1 ?_); (case h1 => walk_at "st"))
  | (with_reducible refine i_int_bl ?_)
  | (with_reducible refine i_raise ?_)
  | (with_reducible refine i_mkE ?_)
  | (with_reducible refine i_ex1 ?_)
  | (with_reducible refine i_and ?_)
  | (with_reducible refine i_or ?_)
  | (with_reducible refine i_not ?_)
  | (with_reducible refine i_tt ?_)
  | (with_reducible refine i_ff ?_)
  | (with_reducible refine i_nott ?_)
  | (with_reducible refine i_notf ?_)
  | (with_reducible refine i_andV ?_)
  | (with_reducible refine i_orV ?_)
  | (with_reducible refine i_notV ?_)
  | (with_reducible refine i_ifE ?_)
  | (with_reducible refine i_tup ?_)
  | (with_reducible refine i_lst ?_)
  | (with_reducible refine i_un ?_)
  | (with_reducible refine i_neg ?_)
  | (with_reducible refine i_chain ?_)
  | (with_reducible refine i_next ?_)
  | (with_reducible refine i_retN ?_)
  | (with_reducible refine i_drop ?_)
  | (with_reducible refine i_int_int ?_)
  | (with_reducible refine i_abs ?_)
  | (with_reducible refine i_m1c ?_)
  | (with_reducible refine i_is_non ?_)
  | (with_reducible refine i_is_int ?_)
  | (with_reducible refine i_is_bl ?_)
  | (with_reducible refine i_isn_bl ?_)
  | (with_reducible refine i_is_str ?_)
  | (with_reducible refine i_is_ref ?_)
  | (with_reducible refine i_isn_non ?_)
  | (with_reducible refine i_isn_int ?_)
  | (with_reducible refine i_isn_str ?_)
  | (with_reducible refine i_isn_ref ?_)
  | (with_reducible refine i_len_str ?h1 ?_; (case h1 => walk_at "o"))
  | (with_reducible refine i_callD ?_)
  | (with_reducible refine i_spD2 ?_)
  | (with_reducible refine i_spM1 ?_)
  | (with_reducible refine i_spM2 ?_)
  | (with_reducible refine i_spM3 ?_)
  | (with_reducible refine i_spM4 ?_)
  | (with_reducible refine i_spM3d ?_)
  | (with_reducible refine i_tfld ?_)
  | (with_reducible refine i_sfld ?_)
  | (with_reducible refine i_meth ?_)
  | (with_reducible refine i_make ?_)
  | (with_reducible refine i_spl ?_)
  | (with_reducible refine i_mkE2 ?_)
  | (with_reducible refine i_ex2 ?_)
  | (with_reducible refine i_dget ?_)
  | (with_reducible refine i_tru ?_)
  | (with_reducible refine i_dput ?_)
  | (with_reducible refine i_dnotin ?_)
  | (with_reducible refine i_din ?_)
  | (with_reducible refine i_rev ?_)
  | (with_reducible refine i_isi_int_int ?_) | (with_reducible refine i_isi_int_bool ?_) | (with_reducible refine i_isi_int_str ?_) | (with_reducible refine i_isi_int_tuple ?_) | (with_reducible refine i_isi_int_list ?_)
  | (with_reducible refine i_isi_bl_int ?_) | (with_reducible refine i_isi_bl_bool ?_) | (with_reducible refine i_isi_bl_str ?_) | (with_reducible refine i_isi_bl_tuple ?_) | (with_reducible refine i_isi_bl_list ?_)
  | (with_reducible refine i_isi_str_int ?_) | (with_reducible refine i_isi_str_bool ?_) | (with_reducible refine i_isi_str_str ?_) | (with_reducible refine i_isi_str_tuple ?_) | (with_reducible refine i_isi_str_list ?_)
  | (with_reducible refine i_isi_non_int ?_) | (with_reducible refine i_isi_non_bool ?_) | (with_reducible refine i_isi_non_str ?_) | (with_reducible refine i_isi_non_tuple ?_) | (with_reducible refine i_isi_non_list ?_))
local macro_rules | `(tactic| walk_at "go") => `(tactic| (repeat' (walk_at "s")))
local macro_rules | `(tactic| walk_at "n") => `(tactic| simp only [wipe, List.map_cons, List.map_nil, List.set_cons_zero, List.set_cons_succ])
/-- the word at place k of line n, or what is told of it -/
def wd (ds : List PyData) (n k : Nat) : List Nat ⊕ Nat := match ds[n]? with
  | some (.str z) => if k < (wrds z).length then .inl ((wrds z).getD k []) else .inr (wrds z).length
  | _ => .inr 0
theorem line_len {A : Hp} {t : Addr} {ds : List PyData} {n : Nat} {z : Str} (h : At A (.ref t) (.tuple ds)) (e : ds[n]? = some (.str z)) : z.length ≤ 10000 := by
  obtain ⟨_, xs, _, _, _, al⟩ := h.tupled
  obtain ⟨v, _, av⟩ := al.at e
  obtain ⟨l, _, rfl, hl⟩ := av.strl
  rw [str_len]; exact hl
theorem wd_len {A : Hp} {t : Addr} {ds : List PyData} {n k : Nat} {w : List Nat} (h : At A (.ref t) (.tuple ds)) (e : wd ds n k = .inl w) : w.length ≤ 10000 := by
  unfold wd at e
  split at e
  · rename_i z ez
    split at e
    · rename_i hk
      have hz := line_len h ez
      have e2 : (wrds z).getD k [] = w := by injection e
      rw [List.getD_eq_getElem?_getD, List.getElem?_eq_getElem hk] at e2
      have := words_len (x := z) (w := w) (by rw [← e2]; exact List.getElem_mem hk)
      omega
    · cases e
  · cases e
def numW : List Nat → Option Int
  | [c] => if 49 ≤ c ∧ c ≤ 57 then some ((c : Int) - 48) else none
  | _ => none
theorem numL_digits {w : List Nat} (h : numL w = true) : AllDigits w ∧ w ≠ [] ∧ w.length ≤ 9 ∧ (w = [48] ∨ w.head? ≠ some 48) := by
  unfold numL at h
  rw [Bool.and_eq_true, Bool.and_eq_true, Bool.and_eq_true, Bool.or_eq_true, decide_eq_true_eq, decide_eq_true_eq, decide_eq_true_eq, decide_eq_true_eq, List.all_eq_true] at h
  obtain ⟨⟨⟨h1, h2⟩, h3⟩, h4⟩ := h
  refine ⟨fun c hc => ?_, fun z => ?_, h2, h4⟩
  · have := of_decide_eq_true (h3 c hc)
    simp at this
    omega
  · rw [z] at h1; simp at h1
theorem fold_ge : ∀ (r : List Nat) (acc : Nat), acc ≤ r.foldl (fun acc c => acc * 10 + (c - 48)) acc
  | [], _ => Nat.le_refl _
  | c :: r, acc => Nat.le_trans (by omega) (fold_ge r (acc * 10 + (c - 48)))
theorem num_one {w : List Nat} (h : numL w = true) : intText? ⟨w.toArray⟩ = some ((digitsVal w : Nat) : Int) ∧ (1 ≤ digitsVal w ∧ digitsVal w ≤ 9 → numW w = some ((digitsVal w : Nat) : Int)) ∧ (¬ (1 ≤ digitsVal w ∧ digitsVal w ≤ 9) → numW w = none) := by
  obtain ⟨h1, h2, h3, h4⟩ := numL_digits h
  refine ⟨intText_digits (x := ⟨w.toArray⟩) (by simpa using h1) (by simpa using h2) (by rw [str_len]; omega), ?_⟩
  match w, h1, h2, h4 with
  | [c], h1, _, _ =>
    have hc := h1 c (by simp)
    have e : digitsVal [c] = c - 48 := by simp [digitsVal]
    rw [e]
    refine ⟨fun z => ?_, fun z => ?_⟩
    · show (if 49 ≤ c ∧ c ≤ 57 then some ((c : Int) - 48) else none) = _
      rw [if_pos (by omega)]
      congr 1
      omega
    · show (if 49 ≤ c ∧ c ≤ 57 then some ((c : Int) - 48) else none) = _
      rw [if_neg (by omega)]
  | a :: b :: r, h1, _, h4 =>
    have ha := h1 a (by simp)
    have h5 : a ≠ 48 := by
      rcases h4 with z | z
      · simp at z
      · simpa using z
    have e : 10 ≤ digitsVal (a :: b :: r) := by
      have := fold_ge r ((0 * 10 + (a - 48)) * 10 + (b - 48))
      show 10 ≤ r.foldl _ ((0 * 10 + (a - 48)) * 10 + (b - 48))
      omega
    exact ⟨fun z => by omega, fun _ => rfl⟩
theorem numW_L {w : List Nat} {v : Int} (h : numW w = some v) : numL w = true := by
  match w, h with
  | [c], h =>
    have h' : (if 49 ≤ c ∧ c ≤ 57 then some ((c : Int) - 48) else none) = some v := h
    by_cases hc : 49 ≤ c ∧ c ≤ 57
    · unfold numL
      have e1 : c ∈ DG := by
        simp
        omega
      have e2 : c ≠ 48 := by omega
      rw [List.all_cons, decide_eq_true e1]
      simp [e2]
    · rw [if_neg hc] at h'
      cases h'
def seqOf : PyData → Option (List PyData)
  | .list ds => some ds
  | .tuple ds => some ds
  | _ => none
section
variable {P : Program} {w : World} {K : PySem.W.Frag} {mg : Str → Option Value} {base : Heap} {C_GlimError C_BadLine C_BadOrder C_NoLine C_Lines C_Orders C_WORDS : Addr}
def p_first (C CB : Addr) : P1 := fun x H Q E => ∃ A p t n ds, x = .ref p ∧ Rdr C A H p t n ds ∧ n < ds.length ∧
  (match ds[n]? with | some (.str z) => ∀ H', Same H H' → Q (S ((wrds z).getD 0 [])) H' | _ => Bl E H CB n 0)
theorem ok_Lines_first_word (T : Txt K mg C_GlimError C_BadLine C_BadOrder C_NoLine C_Lines C_Orders C_WORDS) : MOK P w K mg base (L2.CX P w) 4 C_Lines "first_word" ["self"] [] (sp1  (p_first C_Lines C_BadLine)) := by
  refine MOK.mkX (k := 3) T.m_Lines_first_word sc_Lines_first_word len1 fun f cdv A outer s H vs Q E hr h => ?_
  obtain ⟨x, rfl, h⟩ := h
  refine ⟨_, (pss_cons (ps_if (pt_cmpR op_geP (peFld K (pv 0)) (pe_callB (cLen K) (by rfl) T.b_len (by decide +kernel) (pa_cons (peFld K (pv 0)) pa_nil)) (nomark _)) (pss_one (ps_ret pe_non)) pss_nil) (pss_one (ps_ret (pe_ix (ixK K) (pe_m0 (pv 0) T.cl_Lines (ok_Lines_words (K := K) T) (hr.mono (by decide)) (passes_call (takes_of rfl rfl rfl rfl) (fun _ _ _ _ h => h))) pe_int (fun _ _ => rfl))))), ?_⟩
  show (_ : TS) { nx := fun _ H' => Q .non H', rt := Q } [some x] H
  obtain ⟨A0, p, t, n, ds, rfl, R, hn, q⟩ := h
  obtain ⟨sa, tx, dx, ob⟩ := id R
  obtain ⟨t', xs, e, hH, hl, al⟩ := tx.tupled
  cases e
  have ll := al.len
  have now : ∀ {P : V → Prop}, P (.int (n : Int)) → _ := fun {P} k => i_fld (P := P) ob T.cl_Lines T.na_Lines_now (LF_now t n) k
  have txt : ∀ {P : V → Prop}, P (.ref t) → _ := fun {P} k => i_fld (P := P) ob T.cl_Lines T.na_Lines_texts (LF_texts t n) k
  walk_at "go"
  refine now ?_
  walk_at "go"
  refine txt ?_
  walk_at "go"
  refine i_len_tup (.inl (.inl (sa _ _ hH))) ?_
  walk_at "go"
  rw [decide_eq_false (show ¬ ((xs.length : Int) ≤ (n : Int)) by omega)]
  walk_at "go"
  refine i_self ob (LF_no t n (by decide +kernel) (by decide +kernel)) ?_
  walk_at "go"
  refine ⟨A0, p, t, n, ds, rfl, R, ?_⟩
  have hd : ds[n]? = some ds[n] := List.getElem?_eq_getElem hn
  rw [hd] at q ⊢
  generalize ds[n] = d at *
  cases d with
  | str z =>
    intro l nl
    have hw := words_pos z
    walk_at "go"
    refine i_ix_lst (v := S ((wrds z).getD 0 [])) (.inl (.inl upd_same)) (atI_int (by decide) ?_) ?_
    · show ((wrds z).map S)[0]? = _
      rw [List.getElem?_map, List.getD_eq_getElem?_getD, List.getElem?_eq_getElem (by omega)]
      rfl
    · exact q _ (same_upd nl)
  | _ => exact q
def p_fail (C CB : Addr) : P2 := fun x y H Q E => ∃ A p t n ds, ∃ k : Nat, x = .ref p ∧ y = .int (k : Int) ∧ Rdr C A H p t n ds ∧ Bl E H CB n k
theorem ok_Lines_fail_at (T : Txt K mg C_GlimError C_BadLine C_BadOrder C_NoLine C_Lines C_Orders C_WORDS) : MOK P w K mg base (L2.CX P w) 3 C_Lines "fail_at" ["self", "number"] [] (sp2  (p_fail C_Lines C_BadLine)) := by
  refine MOK.mkX (k := 2) T.m_Lines_fail_at sc_Lines_fail_at len2 fun f cdv A outer s H vs Q E hr h => ?_
  obtain ⟨x, y, rfl, h⟩ := h
  refine ⟨_, (pss_one (ps_raiseP rfl (takes_of rfl rfl rfl rfl) (pmk_E2 (k := 0) (okx_BadLine T) (hr.mono (by decide)) (pa_cons (peFld K (pv 0)) (pa_cons (pv 1) pa_nil))))), ?_⟩
  show (_ : TS) { nx := fun _ H' => Q .non H', rt := Q } [some x, some y] H
  obtain ⟨A0, p, t, n, ds, k, rfl, rfl, R, q⟩ := h
  obtain ⟨sa, tx, dx, ob⟩ := id R
  walk_at "go"
  refine i_fld ob T.cl_Lines T.na_Lines_now (LF_now t n) ?_
  walk_at "go"
  intro dd nd
  exact Bl.at q nd
def p_word_at (C CB : Addr) : P2 := fun x y H Q E => ∃ A p t n ds, ∃ k : Nat, x = .ref p ∧ y = .int (k : Int) ∧ Rdr C A H p t n ds ∧
  (match wd ds n k with | .inl w => ∀ H', Same H H' → Q (S w) H' | .inr e => Bl E H CB n e)
theorem ok_Lines_word_at (T : Txt K mg C_GlimError C_BadLine C_BadOrder C_NoLine C_Lines C_Orders C_WORDS) : MOK P w K mg base (L2.CX P w) 4 C_Lines "word_at" ["self", "number"] [] (sp2  (p_word_at C_Lines C_BadLine)) := by
  refine MOK.mkX (k := 3) T.m_Lines_word_at sc_Lines_word_at len2 fun f cdv A outer s H vs Q E hr h => ?_
  obtain ⟨x, y, rfl, h⟩ := h
  refine ⟨_, (pss_cons (ps_set (i := 2) sc_Lines_word_at.nd rfl (Or.inl rfl) (pe_m0 (pv 0) T.cl_Lines (ok_Lines_words (K := K) T) (hr.mono (by decide)) (passes_call (takes_of rfl rfl rfl rfl) (fun _ _ _ _ h => h)))) (pss_cons (ps_if (pt_cmpR op_geP (pv 1) (pe_callB (cLen K) (by rfl) T.b_len (by decide +kernel) (pa_cons (pv 2) pa_nil)) (nomark _)) (pss_one (ps_raiseP rfl (takes_of rfl rfl rfl rfl) (pmk_E2 (k := 0) (okx_BadLine T) (hr.mono (by decide)) (pa_cons (peFld K (pv 0)) (pa_cons (pe_callB (cLen K) (by rfl) T.b_len (by decide +kernel) (pa_cons (pv 2) pa_nil)) pa_nil))))) pss_nil) (pss_one (ps_ret (pe_ix (ixK K) (pv 2) (pv 1) (fun _ _ => rfl)))))), ?_⟩
  show (_ : TS) { nx := fun _ H' => Q .non H', rt := Q } [some x, some y, none] H
  obtain ⟨A0, p, t, n, ds, k, rfl, rfl, R, q⟩ := h
  obtain ⟨sa, tx, dx, ob⟩ := id R
  unfold wd at q
  walk_at "go"
  refine i_self ob (LF_no t n (by decide +kernel) (by decide +kernel)) ?_
  walk_at "go"
  refine ⟨A0, p, t, n, ds, rfl, R, ?_⟩
  cases e : ds[n]? with
  | none => rw [e] at q; exact q
  | some d =>
  rw [e] at q
  cases d with
  | str z =>
    intro l nl
    have s1 : Same H (upd H l (.lst ((wrds z).map S))) := same_upd nl
    have zl := line_len tx e
    have wm := words_many z
    walk_at "go"
    refine i_len_lst (.inl (.inl upd_same)) ?_
    walk_at "go"
    rw [List.length_map]
    change (match (if k < (wrds z).length then Sum.inl ((wrds z).getD k []) else Sum.inr (wrds z).length) with | .inl w => ∀ H', Same H H' → Q (S w) H' | .inr e => Bl E H C_BadLine n e) at q
    refine i_dec (fun e1 => ?_) (fun e1 => ?_)
    · rw [if_neg (by omega)] at q
      walk_at "go"
      refine i_fld (s1 _ _ ob) T.cl_Lines T.na_Lines_now (LF_now t n) ?_
      walk_at "go"
      refine i_len_lst (.inl (.inl upd_same)) ?_
      walk_at "go"
      rw [List.length_map]
      intro dd nd
      exact Bl.at (q.mono s1) nd
    · have hk : k < (wrds z).length := by omega
      rw [if_pos hk] at q
      walk_at "go"
      refine i_ix_lst (v := S ((wrds z).getD k [])) (.inl (.inl upd_same)) (atI_nat ?_) ?_
      · rw [List.getElem?_map, List.getD_eq_getElem?_getD, List.getElem?_eq_getElem hk]
        rfl
      · exact q _ s1
  | _ => exact q
/-- the number that a word tells, if it lies there -/
def numIn (lo hi : Int) (w : List Nat) : Option Int := if numL w = true ∧ lo ≤ (digitsVal w : Int) ∧ (digitsVal w : Int) ≤ hi then some (digitsVal w : Int) else none
def p_number_at (C CB : Addr) : P4 := fun x y z u H Q E => ∃ A p t n ds, ∃ k : Nat, ∃ lo hi : Int, x = .ref p ∧ y = .int (k : Int) ∧ z = .int lo ∧ u = .int hi ∧ Rdr C A H p t n ds ∧
  (match wd ds n k with | .inl w => (match numIn lo hi w with | some v => ∀ H', Same H H' → Q (.int v) H' | none => Bl E H CB n k) | .inr e => Bl E H CB n e)
theorem ok_Lines_number_at (T : Txt K mg C_GlimError C_BadLine C_BadOrder C_NoLine C_Lines C_Orders C_WORDS) : MOK P w K mg base (L2.CX P w) 5 C_Lines "number_at" ["self", "number", "low", "high"] [] (sp4  (p_number_at C_Lines C_BadLine)) := by
  refine MOK.mkX (k := 4) T.m_Lines_number_at sc_Lines_number_at len4 fun f cdv A outer s H vs Q E hr h => ?_
  obtain ⟨x, y, z, u, rfl, h⟩ := h
  refine ⟨_, (pss_cons (ps_set (i := 4) sc_Lines_number_at.nd rfl (Or.inl rfl) (pe_m (pv 0) T.cl_Lines (ok_Lines_word_at (K := K) T) (hr.mono (by decide)) (passes_call (takes_of rfl rfl rfl rfl) (fun _ _ _ _ h => h)) (pa_cons (pv 1) pa_nil))) (pss_cons (ps_if (pw_or (pt_not (pt_val (pe_f (ok_is_number (K := K) T) (hr.mono (by decide)) pass0 (pa_cons (pv 4) pa_nil)))) (pw_or1 (pt_not (pt_chain op_leP op_leP (pv 2) (pe_callTy call_intTx (by rfl) T.b_int (by decide +kernel) (pa_cons (pv 4) pa_nil)) (pv 3))))).pt (pss_one (ps_raiseP rfl (takes_of rfl rfl rfl rfl) (pmk_E2 (k := 0) (okx_BadLine T) (hr.mono (by decide)) (pa_cons (peFld K (pv 0)) (pa_cons (pv 1) pa_nil))))) pss_nil) (pss_one (ps_ret (pe_callTy call_intTx (by rfl) T.b_int (by decide +kernel) (pa_cons (pv 4) pa_nil)))))), ?_⟩
  show (_ : TS) { nx := fun _ H' => Q .non H', rt := Q } [some x, some y, some z, some u, none] H
  obtain ⟨A0, p, t, n, ds, k, lo, hi, rfl, rfl, rfl, rfl, R, q⟩ := h
  obtain ⟨sa, tx, dx, ob⟩ := id R
  walk_at "go"
  refine i_self ob (LF_no t n (by decide +kernel) (by decide +kernel)) ?_
  walk_at "go"
  refine ⟨A0, p, t, n, ds, k, rfl, rfl, R, ?_⟩
  cases e : wd ds n k with
  | inr e1 => rw [e] at q; exact q
  | inl w =>
  rw [e] at q
  have wl := wd_len tx e
  intro H1 s1
  have q : (match (if numL w = true ∧ lo ≤ (digitsVal w : Int) ∧ (digitsVal w : Int) ≤ hi then some (digitsVal w : Int) else none) with | some v => ∀ H', Same H H' → Q (.int v) H' | none => Bl E H C_BadLine n k) := q
  have bad : ¬ (numL w = true ∧ lo ≤ (digitsVal w : Int) ∧ (digitsVal w : Int) ≤ hi) → Bl E H1 C_BadLine n k := fun z => by
    rw [if_neg z] at q
    exact Bl.mono q s1
  walk_at "go"
  refine ⟨w, rfl, wl, ?_⟩
  cases en : numL w with
  | false =>
    walk_at "go"
    refine i_fld (s1 _ _ ob) T.cl_Lines T.na_Lines_now (LF_now t n) ?_
    walk_at "go"
    intro dd nd
    exact Bl.at (bad (fun z => by rw [en] at z; cases z.1)) nd
  | true =>
    obtain ⟨h1, _, _⟩ := num_one en
    have h9 := (numL_digits en).2.2.1
    have it : ∀ {Q : VK}, Q (.int ((digitsVal w : Nat) : Int)) H1 → rIntTx [S w] H1 Q := fun k => ⟨_, _, rfl, h1, by rw [str_len]; omega, k⟩
    walk_at "go"
    refine it ?_
    walk_at "go"
    refine i_dec (fun e1 => ?_) (fun e1 => ?_)
    · walk_at "go"
      refine i_decN (fun e2 => ?_) (fun e2 => ?_)
      · walk_at "go"
        refine i_fld (s1 _ _ ob) T.cl_Lines T.na_Lines_now (LF_now t n) ?_
        walk_at "go"
        intro dd nd
        exact Bl.at (bad (fun z => e2 z.2.2)) nd
      · walk_at "go"
        refine it ?_
        rw [if_pos ⟨en, e1, e2⟩] at q
        exact q _ s1
    · walk_at "go"
      refine i_fld (s1 _ _ ob) T.cl_Lines T.na_Lines_now (LF_now t n) ?_
      walk_at "go"
      intro dd nd
      exact Bl.at (bad (fun z => e1 z.2.1)) nd
end
end K43
namespace K43
open PySem PySem.Spec PyProof.Rows L2 Fg
local macro_rules | `(tactic| walk_at "sq") => `(tactic| first
  | assumption
  | exact .inl (.inl (by assumption))
  | exact .inl (.inl upd_same))
local macro_rules | `(tactic| walk_at "st") => `(tactic| first
  | assumption
  | exact .inl (.inl (by assumption))
  | exact .inl (.inl upd_same))
local macro_rules | `(tactic| walk_at "o") => `(tactic| first
  | omega
  | assumption
  | (simp only [List.length_append, List.length_take, List.length_drop, List.length_cons, List.length_nil, List.length_singleton, List.length_map, List.length_range, Int.toNat_natCast] ; omega))
local macro_rules | `(tactic| walk_at "s") => `(tactic| first
  | (with_reducible refine i_seq ?_)
  | (with_reducible refine i_asg ?_)
  | ((with_reducible refine' i_var ?h1 ?_); (case h1 => rfl))
  | (with_reducible refine i_c ?_)
  | ((with_reducible refine' i_gname' ?h1 ?_); (case h1 => (simp only [List.set_cons_zero, List.set_cons_succ]; rfl)))
  | (with_reducible refine i_op ?_)
  | (with_reducible refine i_ifS ?_)
  | (with_reducible refine i_for ?_)
  | (with_reducible refine i_test ?_)
  | (with_reducible refine i_B ?_)
  | (with_reducible refine i_exbl ?_)
  | (with_reducible refine i_exint ?_)
  | (with_reducible refine i_cb ?_)
  | (with_reducible refine i_nil ?_)
  | (with_reducible refine i_cons ?_)
  | (with_reducible refine i_ret ?_)
  | (with_reducible refine i_sl ?_)
  | (with_reducible refine i_nopart ?_)
  | (with_reducible refine i_part ?_)
  | (with_reducible refine i_add_int ?_)
  | (with_reducible refine i_sub ?_)
  | (with_reducible refine i_lt ?_)
  | ((with_reducible refine' i_mod ?h1 ?_); (case h1 => walk_at "o"))
  | ((with_reducible refine' i_fdiv ?h1 ?_); (case h1 => (refine cdiv_small ?_ ?_ <;> walk_at "o")))
  | ((with_reducible refine' i_sl_to ?h1 ?h2 ?_); (case h1 => walk_at "o"); (case h2 => walk_at "o"))
  | ((with_reducible refine' i_sl_from ?h1 ?h2 ?_); (case h1 => walk_at "o"); (case h2 => walk_at "o"))
  | ((with_reducible refine' i_add_str ?h1 ?_); (case h1 => walk_at "o"))
  | ((with_reducible refine' i_mul_int ?h1 ?_); (case h1 => first | (refine mul_small ?_ ?_ <;> walk_at "o") | (refine mul_smallR ?_ ?_ <;> walk_at "o")))
  | (with_reducible refine i_le ?_)
  | (with_reducible refine i_gt ?_)
  | (with_reducible refine i_ge ?_)
  | (with_reducible refine i_eq_int ?_)
  | (with_reducible refine i_eq_str ?_)
  | (with_reducible refine i_ne_int ?_)
  | (with_reducible refine i_ne_str ?_)
  | (with_reducible refine i_eq_bl ?_)
  | (with_reducible refine i_ne_bl ?_)
  | (with_reducible refine i_in_sg ?_)
  | (with_reducible refine i_notIn_sg ?_)
  | (with_reducible refine i_call ?_)
  | (with_reducible refine i_callS ?_)
  | (with_reducible refine i_sp1 ?_)
  | (with_reducible refine i_sp2 ?_)
  | (with_reducible refine i_sp3 ?_)
  | (with_reducible refine i_sp4 ?_)
  | (with_reducible refine i_sp1' ?_)
  | (with_reducible refine i_sp2' ?_)
  | (with_reducible refine i_sp3' ?_)
  | ((with_reducible refine' i_ix_lst ?h1 ?h2 ?_); (case h1 => walk_at "sq"); (case h2 => first | exact atI_nat rfl | rfl))
  | ((with_reducible refine' i_ix_tup ?h1 ?h2 ?_); (case h1 => walk_at "st"); (case h2 => first | exact atI_nat rfl | rfl))
  | (with_reducible refine i_gsub ?_)
  | (with_reducible refine i_par ?_)
  | (with_reducible refine i_lstRg1 ?_)
  | (with_reducible refine i_app ?_)
  | (with_reducible refine i_par2 ?_)
  | ((with_reducible refine' i_aug ?h1 ?_); (case h1 => rfl))
  | (with_reducible refine i_ipI ?_)
  | ((with_reducible refine' i_gtup2 ?h1 ?_); (case h1 => walk_at "st"))
  | (with_reducible refine i_int_bl ?_)
  | (with_reducible refine i_raise ?_)
  | (with_reducible refine i_mkE ?_)
  | (with_reducible refine i_ex1 ?_)
  | (with_reducible refine i_and ?_)
  | (with_reducible refine i_or ?_)
  | (with_reducible refine i_not ?_)
  | (with_reducible refine i_tt ?_)
  | (with_reducible refine i_ff ?_)
  | (with_reducible refine i_nott ?_)
  | (with_reducible refine i_notf ?_)
  | (with_reducible refine i_andV ?_)
  | (with_reducible refine i_orV ?_)
  | (with_reducible refine i_notV ?_)
  | (with_reducible refine i_ifE ?_)
  | (with_reducible refine i_tup ?_)
  | (with_reducible refine i_lst ?_)
  | (with_reducible refine i_un ?_)
  | (with_reducible refine i_neg ?_)
  | (with_reducible refine i_chain ?_)
  | (with_reducible refine i_next ?_)
  | (with_reducible refine i_retN ?_)
  | (with_reducible refine i_drop ?_)
  | (with_reducible refine i_int_int ?_)
  | (with_reducible refine i_abs ?_)
  | (with_reducible refine i_m1c ?_)
  | (with_reducible refine i_is_non ?_)
  | (with_reducible refine i_is_int ?_)
  | (with_reducible refine i_is_bl ?_)
  | (with_reducible refine i_isn_bl ?_)
  | (with_reducible refine i_is_str ?_)
  | (with_reducible refine i_is_ref ?_)
  | (with_reducible refine i_isn_non ?_)
  | (with_reducible refine i_isn_int ?_)
  | (with_reducible refine i_isn_str ?_)
  | (with_reducible refine i_isn_ref ?_)
  | (with_reducible refine i_len_str ?h1 ?_; (case h1 => walk_at "o"))
  | (with_reducible refine i_callD ?_)
  | (with_reducible refine i_spD2 ?_)
  | (with_reducible refine i_spM1 ?_)
  | (with_reducible refine i_spM2 ?_)
  | (with_reducible refine i_spM3 ?_)
  | (with_reducible refine i_spM4 ?_)
  | (with_reducible refine i_spM3d ?_)
  | (with_reducible refine i_tfld ?_)
  | (with_reducible refine i_sfld ?_)
  | (with_reducible refine i_meth ?_)
  | (with_reducible refine i_make ?_)
  | (with_reducible refine i_spl ?_)
  | (with_reducible refine i_mkE2 ?_)
  | (with_reducible refine i_ex2 ?_)
  | (with_reducible refine i_dget ?_)
  | (with_reducible refine i_tru ?_)
  | (with_reducible refine i_dput ?_)
  | (with_reducible refine i_dnotin ?_)
  | (with_reducible refine i_din ?_)
  | (with_reducible refine i_rev ?_)
  | (with_reducible refine i_isi_int_int ?_) | (with_reducible refine i_isi_int_bool ?_) | (with_reducible refine i_isi_int_str ?_) | (with_reducible refine i_isi_int_tuple ?_) | (with_reducible refine i_isi_int_list ?_)
  | (with_reducible refine i_isi_bl_int ?_) | (with_reducible refine i_isi_bl_bool ?_) | (with_reducible refine i_isi_bl_str ?_) | (with_reducible refine i_isi_bl_tuple ?_) | (with_reducible refine i_isi_bl_list ?_)
  | (with_reducible refine i_isi_str_int ?_) | (with_reducible refine i_isi_str_bool ?_) | (with_reducible refine i_isi_str_str ?_) | (with_reducible refine i_isi_str_tuple ?_) | (with_reducible refine i_isi_str_list ?_)
  | (with_reducible refine i_isi_non_int ?_) | (with_reducible refine i_isi_non_bool ?_) | (with_reducible refine i_isi_non_str ?_) | (with_reducible refine i_isi_non_tuple ?_) | (with_reducible refine i_isi_non_list ?_))
local macro_rules | `(tactic| walk_at "go") => `(tactic| (repeat' (walk_at "s")))
local macro_rules | `(tactic| walk_at "n") => `(tactic| simp only [wipe, List.map_cons, List.map_nil, List.set_cons_zero, List.set_cons_succ])
theorem i_methN {σ : L2.St} {H : Hp} {Q : VK} {C : Addr} {m : Str} {n nk : Nat} {sp : Sp} {E : XK} {to : TE} {ta tk : TA} (q : to σ H fun x H1 => ∃ a dx fs, x = .ref a ∧ H1 a = some (.ins C dx fs) ∧ fs.lookup m = none ∧
    ta σ H1 fun vs H2 => tk σ H2 fun zs H3 => vs.length + 1 = n ∧ zs.length = nk ∧ sp (x :: (vs ++ zs)) H3 Q E) : tMethN C m n nk sp E to ta tk σ H Q := q
section
variable {P : Program} {w : World} {K : PySem.W.Frag} {mg : Str → Option Value} {base : Heap} {C_GlimError C_BadLine C_BadOrder C_NoLine C_Lines C_Orders C_WORDS : Addr}
def p_close (C CB : Addr) : P2 := fun x y H Q E => ∃ A p t n ds dx z, ∃ k : Nat, x = .ref p ∧ y = .int (k : Int) ∧ Same A H ∧ At A (.ref t) (.tuple ds) ∧ H p = some (.ins C dx (LF t n)) ∧ ds[n]? = some (.str z) ∧
  (if k < (wrds z).length then Bl E H CB n k else ∀ H', But p H H' → H' p = some (.ins C dx (LF t (n + 1))) → Q .non H')
theorem ok_Lines_close_at (T : Txt K mg C_GlimError C_BadLine C_BadOrder C_NoLine C_Lines C_Orders C_WORDS) : MOK P w K mg base (L2.CX P w) 4 C_Lines "close_at" ["self", "number"] [] (sp2  (p_close C_Lines C_BadLine)) := by
  refine MOK.mkX (k := 3) T.m_Lines_close_at sc_Lines_close_at len2 fun f cdv A outer s H vs Q E hr h => ?_
  obtain ⟨x, y, rfl, h⟩ := h
  refine ⟨_, (pss_cons (ps_if (pt_cmpR op_gtP (pe_callB (cLen K) (by rfl) T.b_len (by decide +kernel) (pa_cons (pe_m0 (pv 0) T.cl_Lines (ok_Lines_words (K := K) T) (hr.mono (by decide)) (passes_call (takes_of rfl rfl rfl rfl) (fun _ _ _ _ h => h))) pa_nil)) (pv 1) (nomark _)) (pss_one (ps_raiseP rfl (takes_of rfl rfl rfl rfl) (pmk_E2 (k := 0) (okx_BadLine T) (hr.mono (by decide)) (pa_cons (peFld K (pv 0)) (pa_cons (pv 1) pa_nil))))) pss_nil) (pss_one (psFldAug K (pv 0) pe_int in_add))), ?_⟩
  show (_ : TS) { nx := fun _ H' => Q .non H', rt := Q } [some x, some y] H
  obtain ⟨A0, p, t, n, ds, dx, z, k, rfl, rfl, sa, tx, ob, e, q⟩ := h
  have R : Rdr C_Lines A0 H p t n ds := ⟨sa, tx, dx, ob⟩
  have zl := line_len tx e
  have wm := words_many z
  walk_at "go"
  refine i_self ob (LF_no t n (by decide +kernel) (by decide +kernel)) ?_
  walk_at "go"
  refine ⟨A0, p, t, n, ds, rfl, R, ?_⟩
  rw [e]
  intro l nl
  have s1 : Same H (upd H l (.lst ((wrds z).map S))) := same_upd nl
  have ob1 := s1 _ _ ob
  walk_at "go"
  refine i_len_lst (.inl (.inl upd_same)) ?_
  walk_at "go"
  rw [List.length_map]
  refine i_dec (fun e1 => ?_) (fun e1 => ?_)
  · rw [if_pos (by omega)] at q
    walk_at "go"
    refine i_fld ob1 T.cl_Lines T.na_Lines_now (LF_now t n) ?_
    walk_at "go"
    intro dd nd
    exact Bl.at (q.mono s1) nd
  · rw [if_neg (by omega)] at q
    walk_at "go"
    refine ⟨_, rfl, p, C_Lines, dx, _, _, rfl, ob1, T.cl_Lines, T.na_Lines_now, LF_now t n, _, _, rfl, rfl, dx, _, ob1, by rw [LF_eq]; show 2 < 1000; decide, ?_⟩
    have e2 : putF "now" (V.int ((n : Int) + 1)) (LF t n) = LF t (n + 1) := by
      have := LF_put t n (n + 1)
      rw [← this]
      rfl
    rw [e2]
    exact q _ ((But.of s1).trans But.put) upd_same
def p_linit (C CB : Addr) : P3 := fun x y z H Q E => ∃ A p dx d, x = .ref p ∧ z = .int 0 ∧ Same A H ∧ A p = none ∧ H p = some (.ins C dx []) ∧ At A y d ∧
  (match seqOf d with
    | none => Bl E H CB 0 0
    | some ds => ∀ A' H' t, Same A A' → Same A' H' → But p H H' → (∀ b, A b = none → A' b ≠ none → H b = none) → H' p = some (.ins C dx (LF t 0)) → At A' (.ref t) (.tuple ds) → Q .non H')
theorem ok_Lines___init__ (T : Txt K mg C_GlimError C_BadLine C_BadOrder C_NoLine C_Lines C_Orders C_WORDS) : MkOK P w K mg base (L2.CX P w) 3 "Lines" C_Lines ["self", "texts", "at"] [.int (0)] (sp3  (p_linit C_Lines C_BadLine)) := by
  refine MkOK.mkX (k := 2) T.m_Lines___init__ sc_Lines___init__ len3 fun f cdv A outer s H vs Q E hr h => ?_
  obtain ⟨x, y, z, rfl, h⟩ := h
  refine ⟨_, (pss_cons (ps_if (pt_not (pt_val (pe_callB (cIsiT K) (by rfl) T.b_isinstance (by decide +kernel) (pa_cons (pv 1) (pa_cons (pe_tup (pa_cons (pe_bltn (v := .ty "list") (by rfl) T.b_list (by decide +kernel) rfl) (pa_cons (pe_bltn (v := .ty "tuple") (by rfl) T.b_tuple (by decide +kernel) rfl) pa_nil))) pa_nil))))) (pss_one (ps_raiseP rfl (takes_of rfl rfl rfl rfl) (pmk_E2 (k := 0) (okx_BadLine T) (hr.mono (by decide)) (pa_cons pe_int (pa_cons pe_int pa_nil))))) pss_nil) (pss_cons (psFld K (pv 0) (pe_callTy (cTup K) (by rfl) T.b_tuple (by decide +kernel) (pa_cons (pv 1) pa_nil))) (pss_one (psFld K (pv 0) (pv 2))))), ?_⟩
  show (_ : TS) { nx := fun _ H' => Q .non H', rt := Q } [some x, some y, some z] H
  obtain ⟨A0, p, dx, d, rfl, rfl, sa, np, ob, hd, q⟩ := h
  walk_at "go"
  refine i_new (by show 2 ≤ 100000; omega) fun tp ntp => ?_
  have s1 : Same H (upd H tp (.tup [.ty "list", .ty "tuple"])) := same_upd ntp
  have ob1 := s1 _ _ ob
  have fin : ∀ (A' H2 : Hp) (t : Addr) (ds : List PyData), seqOf d = some ds → Same A0 A' → Same A' H2 → Same H H2 → A' p = none → (∀ b, A0 b = none → A' b ≠ none → H b = none) → At A' (.ref t) (.tuple ds) →
      Q .non (upd (upd H2 p (.ins C_Lines dx (putF "texts" (.ref t) []))) p (.ins C_Lines dx (putF "now" (.int 0) (putF "texts" (.ref t) [])))) := fun A' H2 t ds e sA s2 s3 n2 nw at2 => by
    rw [e] at q
    refine q A' _ t sA (fun b o eb => ?_) (fun b o nb eb => ?_) nw upd_same at2
    · have nb := ne_of_none eb n2
      rw [upd_ne nb, upd_ne nb]; exact s2 b o eb
    · rw [upd_ne nb, upd_ne nb]; exact s3 b o eb
  walk_at "go"
  cases es : isSeqD d with
  | false =>
    refine i_isiSeq false ((hd.same sa).same s1) upd_same es ?_
    walk_at "go"
    intro dd nd
    have q' : Bl E H C_BadLine 0 0 := by
      cases d <;> first
        | exact q
        | cases es
    exact Bl.at (q'.mono s1) nd
  | true =>
    refine i_isiSeq true ((hd.same sa).same s1) upd_same es ?_
    walk_at "go"
    cases d
    case list ds =>
      obtain ⟨a, xs, rfl, hH, hl, al⟩ := hd.listed
      refine i_tuple_lst (.inl (.inl (s1 _ _ (sa _ _ hH)))) fun t nt => ?_
      have s2 := s1.trans (same_upd (o := .tup xs) nt)
      have nat0 : A0 t = none := sa.free (s1.free nt)
      have ob2 := s2 _ _ ob
      walk_at "go"
      refine i_put ob2 T.cl_Lines T.na_Lines_texts (by show 0 < 1000; decide) ?_
      walk_at "go"
      refine i_put upd_same T.cl_Lines T.na_Lines_now (by show 1 < 1000; decide) ?_
      refine fin (upd A0 t (.tup xs)) _ t ds rfl (same_upd nat0) (fun b o eb => ?_) s2 ?_ (fun b h1 h2 => ?_) (At.mkTup upd_same (al.same (same_upd nat0)) (by rw [← al.len]; exact hl))
      · by_cases hb : b = t
        · rw [hb, upd_same] at eb
          rw [hb, upd_same]; exact eb
        · rw [upd_ne hb] at eb
          rw [upd_ne hb]; exact s1 _ _ (sa _ _ eb)
      · have : p ≠ t := ne_of_none (s1 _ _ ob) nt
        rw [upd_ne this]; exact np
      · by_cases hb : b = t
        · rw [hb]; exact s1.free nt
        · rw [upd_ne hb] at h2
          exact absurd h1 h2
    case tuple ds =>
      obtain ⟨a, xs, rfl, hH, hl, al⟩ := hd.tupled
      refine ⟨a, xs, rfl, .inr ⟨.inl (.inl (s1 _ _ (sa _ _ hH))), ?_⟩⟩
      walk_at "go"
      refine i_put ob1 T.cl_Lines T.na_Lines_texts (by show 0 < 1000; decide) ?_
      walk_at "go"
      refine i_put upd_same T.cl_Lines T.na_Lines_now (by show 1 < 1000; decide) ?_
      exact fin A0 _ a ds rfl (Same.refl _) (sa.trans s1) s1 np (fun b h1 h2 => absurd h1 h2) hd
    all_goals cases es
end
end K43
namespace K43
open PySem PySem.Spec PyProof.Rows L2 Fg
local macro_rules | `(tactic| walk_at "sq") => `(tactic| first
  | assumption
  | exact .inl (.inl (by assumption))
  | exact .inl (.inl upd_same))
local macro_rules | `(tactic| walk_at "st") => `(tactic| first
  | assumption
  | exact .inl (.inl (by assumption))
  | exact .inl (.inl upd_same))
local macro_rules | `(tactic| walk_at "o") => `(tactic| first
  | omega
  | assumption
  | (simp only [List.length_append, List.length_take, List.length_drop, List.length_cons, List.length_nil, List.length_singleton, List.length_map, List.length_range, Int.toNat_natCast] ; omega))
local macro_rules | `(tactic| walk_at "s") => `(tactic| first
  | (with_reducible refine i_seq ?_)
  | (with_reducible refine i_asg ?_)
  | ((with_reducible refine' i_var ?h1 ?_); (case h1 => rfl))
  | (with_reducible refine i_c ?_)
  | ((with_reducible refine' i_gname' ?h1 ?_); (case h1 => (simp only [List.set_cons_zero, List.set_cons_succ]; rfl)))
  | (with_reducible refine i_op ?_)
  | (with_reducible refine i_ifS ?_)
  | (with_reducible refine i_for ?_)
  | (with_reducible refine i_test ?_)
  | (with_reducible refine i_B ?_)
  | (with_reducible refine i_exbl ?_)
  | (with_reducible refine i_exint ?_)
  | (with_reducible refine i_cb ?_)
  | (with_reducible refine i_nil ?_)
  | (with_reducible refine i_cons ?_)
  | (with_reducible refine i_ret ?_)
  | (with_reducible refine i_sl ?_)
  | (with_reducible refine i_nopart ?_)
  | (with_reducible refine i_part ?_)
  | (with_reducible refine i_add_int ?_)
  | (with_reducible refine i_sub ?_)
  | (with_reducible refine i_lt ?_)
  | ((with_reducible refine' i_mod ?h1 ?_); (case h1 => walk_at "o"))
  | ((with_reducible refine' i_fdiv ?h1 ?_); (case h1 => (refine cdiv_small ?_ ?_ <;> walk_at "o")))
  | ((with_reducible refine' i_sl_to ?h1 ?h2 ?_); (case h1 => walk_at "o"); (case h2 => walk_at "o"))
  | ((with_reducible refine' i_sl_from ?h1 ?h2 ?_); (case h1 => walk_at "o"); (case h2 => walk_at "o"))
  | ((with_reducible refine' i_add_str ?h1 ?_); (case h1 => walk_at "o"))
  | ((with_reducible refine' i_mul_int ?h1 ?_); (case h1 => first | (refine mul_small ?_ ?_ <;> walk_at "o") | (refine mul_smallR ?_ ?_ <;> walk_at "o")))
  | (with_reducible refine i_le ?_)
  | (with_reducible refine i_gt ?_)
  | (with_reducible refine i_ge ?_)
  | (with_reducible refine i_eq_int ?_)
  | (with_reducible refine i_eq_str ?_)
  | (with_reducible refine i_ne_int ?_)
  | (with_reducible refine i_ne_str ?_)
  | (with_reducible refine i_eq_bl ?_)
  | (with_reducible refine i_ne_bl ?_)
  | (with_reducible refine i_in_sg ?_)
  | (with_reducible refine i_notIn_sg ?_)
  | (with_reducible refine i_call ?_)
  | (with_reducible refine i_callS ?_)
  | (with_reducible refine i_sp1 ?_)
  | (with_reducible refine i_sp2 ?_)
  | (with_reducible refine i_sp3 ?_)
  | (with_reducible refine i_sp4 ?_)
  | (with_reducible refine i_sp1' ?_)
  | (with_reducible refine i_sp2' ?_)
  | (with_reducible refine i_sp3' ?_)
  | ((with_reducible refine' i_ix_lst ?h1 ?h2 ?_); (case h1 => walk_at "sq"); (case h2 => first | exact atI_nat rfl | rfl))
  | ((with_reducible refine' i_ix_tup ?h1 ?h2 ?_); (case h1 => walk_at "st"); (case h2 => first | exact atI_nat rfl | rfl))
  | (with_reducible refine i_gsub ?_)
  | (with_reducible refine i_par ?_)
  | (with_reducible refine i_lstRg1 ?_)
  | (with_reducible refine i_app ?_)
  | (with_reducible refine i_par2 ?_)
  | ((with_reducible refine' i_aug ?h1 ?_); (case h1 => rfl))
  | (with_reducible refine i_ipI ?_)
  | ((with_reducible refine' i_gtup2 ?h1 ?_); (case h1 => walk_at "st"))
  | (with_reducible refine i_int_bl ?_)
  | (with_reducible refine i_raise ?_)
  | (with_reducible refine i_mkE ?_)
  | (with_reducible refine i_ex1 ?_)
  | (with_reducible refine i_and ?_)
  | (with_reducible refine i_or ?_)
  | (with_reducible refine i_not ?_)
  | (with_reducible refine i_tt ?_)
  | (with_reducible refine i_ff ?_)
  | (with_reducible refine i_nott ?_)
  | (with_reducible refine i_notf ?_)
  | (with_reducible refine i_andV ?_)
  | (with_reducible refine i_orV ?_)
  | (with_reducible refine i_notV ?_)
  | (with_reducible refine i_ifE ?_)
  | (with_reducible refine i_tup ?_)
  | (with_reducible refine i_lst ?_)
  | (with_reducible refine i_un ?_)
  | (with_reducible refine i_neg ?_)
  | (with_reducible refine i_chain ?_)
  | (with_reducible refine i_next ?_)
  | (with_reducible refine i_retN ?_)
  | (with_reducible refine i_drop ?_)
  | (with_reducible refine i_int_int ?_)
  | (with_reducible refine i_abs ?_)
  | (with_reducible refine i_m1c ?_)
  | (with_reducible refine i_is_non ?_)
  | (with_reducible refine i_is_int ?_)
  | (with_reducible refine i_is_bl ?_)
  | (with_reducible refine i_isn_bl ?_)
  | (with_reducible refine i_is_str ?_)
  | (with_reducible refine i_is_ref ?_)
  | (with_reducible refine i_isn_non ?_)
  | (with_reducible refine i_isn_int ?_)
  | (with_reducible refine i_isn_str ?_)
  | (with_reducible refine i_isn_ref ?_)
  | (with_reducible refine i_len_str ?h1 ?_; (case h1 => walk_at "o"))
  | (with_reducible refine i_callD ?_)
  | (with_reducible refine i_spD2 ?_)
  | (with_reducible refine i_spM1 ?_)
  | (with_reducible refine i_spM2 ?_)
  | (with_reducible refine i_spM3 ?_)
  | (with_reducible refine i_spM4 ?_)
  | (with_reducible refine i_spM3d ?_)
  | (with_reducible refine i_tfld ?_)
  | (with_reducible refine i_sfld ?_)
  | (with_reducible refine i_meth ?_)
  | (with_reducible refine i_make ?_)
  | (with_reducible refine i_spl ?_)
  | (with_reducible refine i_mkE2 ?_)
  | (with_reducible refine i_ex2 ?_)
  | (with_reducible refine i_dget ?_)
  | (with_reducible refine i_tru ?_)
  | (with_reducible refine i_dput ?_)
  | (with_reducible refine i_dnotin ?_)
  | (with_reducible refine i_din ?_)
  | (with_reducible refine i_rev ?_)
  | (with_reducible refine i_isi_int_int ?_) | (with_reducible refine i_isi_int_bool ?_) | (with_reducible refine i_isi_int_str ?_) | (with_reducible refine i_isi_int_tuple ?_) | (with_reducible refine i_isi_int_list ?_)
  | (with_reducible refine i_isi_bl_int ?_) | (with_reducible refine i_isi_bl_bool ?_) | (with_reducible refine i_isi_bl_str ?_) | (with_reducible refine i_isi_bl_tuple ?_) | (with_reducible refine i_isi_bl_list ?_)
  | (with_reducible refine i_isi_str_int ?_) | (with_reducible refine i_isi_str_bool ?_) | (with_reducible refine i_isi_str_str ?_) | (with_reducible refine i_isi_str_tuple ?_) | (with_reducible refine i_isi_str_list ?_)
  | (with_reducible refine i_isi_non_int ?_) | (with_reducible refine i_isi_non_bool ?_) | (with_reducible refine i_isi_non_str ?_) | (with_reducible refine i_isi_non_tuple ?_) | (with_reducible refine i_isi_non_list ?_))
local macro_rules | `(tactic| walk_at "go") => `(tactic| (repeat' (walk_at "s")))
local macro_rules | `(tactic| walk_at "n") => `(tactic| simp only [wipe, List.map_cons, List.map_nil, List.set_cons_zero, List.set_cons_succ])
theorem i_ninT {K : PySem.W.Frag} {H : Hp} {Q : VK} {p : Addr} {ms : List (List Nat)} {l : List Nat} (h : SqT K H p (ms.map S)) (q : Q (.bl (!decide (l ∈ ms))) H) : notInP K (S l) (.ref p) H Q :=
  .inr ⟨p, _, rfl, .inr h, rfl, flat_S ms, by rw [if_pos rfl, inV_S]; exact q⟩
/-! ### a line as a line of orders -/
inductive Fm | t | l | sg | nm
def forms (w : List Nat) : Option (List Fm) :=
  if w = cWait then some [.sg, .t] else if w = cCount then some [.sg, .sg, .t] else if w = cPass then some [.t] else if w = cMore then some [.t, .l] else
  if w = cLast then some [.sg, .l] else if w = cGo then some [.l] else if w = cName then some [.nm] else if w = cSkip then some [] else none
def fmD : Fm → List Nat → Option PyData
  | .t, w => (numIn 1 9 w).map PyData.int
  | .l, w => (numIn 0 19 w).map PyData.int
  | .sg, w => if sgsL w = true then some (dS w) else none
  | .nm, w => if (isMkL w && decide (w ≠ [])) = true then some (dS w) else none
theorem forms_in {w : List Nat} (h : w ∈ [cWait, cCount, cPass, cMore, cLast, cGo, cName, cSkip]) : ∃ fs, forms w = some fs := by
  simp only [List.mem_cons, List.not_mem_nil, or_false] at h
  rcases h with rfl | rfl | rfl | rfl | rfl | rfl | rfl | rfl <;> exact ⟨_, rfl⟩
theorem forms_out {w : List Nat} (h : w ∉ [cWait, cCount, cPass, cMore, cLast, cGo, cName, cSkip]) : forms w = none := by
  simp only [List.mem_cons, List.not_mem_nil, or_false, not_or] at h
  unfold forms
  rw [if_neg h.1, if_neg h.2.1, if_neg h.2.2.1, if_neg h.2.2.2.1, if_neg h.2.2.2.2.1, if_neg h.2.2.2.2.2.1, if_neg h.2.2.2.2.2.2.1, if_neg h.2.2.2.2.2.2.2]
section
variable {P : Program} {w : World} {K : PySem.W.Frag} {mg : Str → Option Value} {base : Heap} {C_GlimError C_BadLine C_BadOrder C_NoLine C_Lines C_Orders C_WORDS : Addr}
def p_signs_at (C CB : Addr) : P2 := fun x y H Q E => ∃ A p t n ds, ∃ k : Nat, x = .ref p ∧ y = .int (k : Int) ∧ Rdr C A H p t n ds ∧
  (match wd ds n k with | .inl w => if sgsL w = true then ∀ H', Same H H' → Q (S w) H' else Bl E H CB n k | .inr e => Bl E H CB n e)
theorem ok_signs_at (T : Txt K mg C_GlimError C_BadLine C_BadOrder C_NoLine C_Lines C_Orders C_WORDS) : OK P w K mg base (L2.CX P w) 5 "signs_at" ["reader", "number"] (sp2  (p_signs_at C_Lines C_BadLine)) := by
  refine OK.mkX (k := 4) T.d_signs_at sc_signs_at len2 fun f cdv A outer s H vs Q E hr h => ?_
  obtain ⟨x, y, rfl, h⟩ := h
  refine ⟨_, (pss_cons (ps_set (i := 2) sc_signs_at.nd rfl (Or.inl rfl) (pe_m (pv 0) T.cl_Lines (ok_Lines_word_at (K := K) T) (hr.mono (by decide)) (passes_call (takes_of rfl rfl rfl rfl) (fun _ _ _ _ h => h)) (pa_cons (pv 1) pa_nil))) (pss_cons (ps_if (pt_not (pt_val (pe_f (ok_is_signs (K := K) T) (hr.mono (by decide)) pass0 (pa_cons (pv 2) pa_nil)))) (pss_one (ps_expr (pe_m (pv 0) T.cl_Lines (ok_Lines_fail_at (K := K) T) (hr.mono (by decide)) (passes_call (takes_of rfl rfl rfl rfl) (fun _ _ _ _ h => h)) (pa_cons (pv 1) pa_nil)))) pss_nil) (pss_one (ps_ret (pv 2))))), ?_⟩
  show (_ : TS) { nx := fun _ H' => Q .non H', rt := Q } [some x, some y, none] H
  obtain ⟨A0, p, t, n, ds, k, rfl, rfl, R, q⟩ := h
  obtain ⟨sa, tx, dx, ob⟩ := id R
  walk_at "go"
  refine i_self ob (LF_no t n (by decide +kernel) (by decide +kernel)) ?_
  walk_at "go"
  refine ⟨A0, p, t, n, ds, k, rfl, rfl, R, ?_⟩
  cases e : wd ds n k with
  | inr e1 => rw [e] at q; exact q
  | inl w =>
  rw [e] at q
  have wl := wd_len tx e
  have q : if sgsL w = true then ∀ H', Same H H' → Q (S w) H' else Bl E H C_BadLine n k := q
  intro H1 s1
  walk_at "go"
  refine ⟨dS w, .str _ wl, fun H2 s2 => ?_⟩
  change ∃ c, V.bl (sgsL w) = .bl c ∧ _
  refine ⟨_, rfl, ?_⟩
  have s12 := s1.trans s2
  cases es : sgsL w with
  | true =>
    rw [es, if_pos rfl] at q
    walk_at "go"
    exact q _ s12
  | false =>
    rw [es, if_neg (by decide)] at q
    walk_at "go"
    refine i_self (s12 _ _ ob) (LF_no t n (by decide +kernel) (by decide +kernel)) ?_
    walk_at "go"
    exact ⟨A0, p, t, n, ds, k, rfl, rfl, R.same s12, q.mono s12⟩
def p_name_at (C CB : Addr) : P2 := fun x y H Q E => ∃ A p t n ds, ∃ k : Nat, x = .ref p ∧ y = .int (k : Int) ∧ Rdr C A H p t n ds ∧
  (match wd ds n k with | .inl w => if (isMkL w && decide (w ≠ [])) = true then ∀ H', Same H H' → Q (S w) H' else Bl E H CB n k | .inr e => Bl E H CB n e)
theorem ok_Lines_name_at (T : Txt K mg C_GlimError C_BadLine C_BadOrder C_NoLine C_Lines C_Orders C_WORDS) : MOK P w K mg base (L2.CX P w) 5 C_Lines "name_at" ["self", "number"] [] (sp2  (p_name_at C_Lines C_BadLine)) := by
  refine MOK.mkX (k := 4) T.m_Lines_name_at sc_Lines_name_at len2 fun f cdv A outer s H vs Q E hr h => ?_
  obtain ⟨x, y, rfl, h⟩ := h
  refine ⟨_, (pss_cons (ps_set (i := 2) sc_Lines_name_at.nd rfl (Or.inl rfl) (pe_m (pv 0) T.cl_Lines (ok_Lines_word_at (K := K) T) (hr.mono (by decide)) (passes_call (takes_of rfl rfl rfl rfl) (fun _ _ _ _ h => h)) (pa_cons (pv 1) pa_nil))) (pss_cons (ps_if (pt_not (pt_val (pe_f (ok_is_name (K := K) T) (hr.mono (by decide)) pass0 (pa_cons (pv 2) pa_nil)))) (pss_one (ps_raiseP rfl (takes_of rfl rfl rfl rfl) (pmk_E2 (k := 0) (okx_BadLine T) (hr.mono (by decide)) (pa_cons (peFld K (pv 0)) (pa_cons (pv 1) pa_nil))))) pss_nil) (pss_one (ps_ret (pv 2))))), ?_⟩
  show (_ : TS) { nx := fun _ H' => Q .non H', rt := Q } [some x, some y, none] H
  obtain ⟨A0, p, t, n, ds, k, rfl, rfl, R, q⟩ := h
  obtain ⟨sa, tx, dx, ob⟩ := id R
  walk_at "go"
  refine i_self ob (LF_no t n (by decide +kernel) (by decide +kernel)) ?_
  walk_at "go"
  refine ⟨A0, p, t, n, ds, k, rfl, rfl, R, ?_⟩
  cases e : wd ds n k with
  | inr e1 => rw [e] at q; exact q
  | inl w =>
  rw [e] at q
  have wl := wd_len tx e
  have q : if (isMkL w && decide (w ≠ [])) = true then ∀ H', Same H H' → Q (S w) H' else Bl E H C_BadLine n k := q
  intro H1 s1
  walk_at "go"
  refine ⟨dS w, .str _ wl, ?_⟩
  change ∃ c, V.bl (isMkL w && decide (w ≠ [])) = .bl c ∧ _
  refine ⟨_, rfl, ?_⟩
  cases es : (isMkL w && decide (w ≠ [])) with
  | true =>
    rw [es, if_pos rfl] at q
    walk_at "go"
    exact q _ s1
  | false =>
    rw [es, if_neg (by decide)] at q
    walk_at "go"
    refine i_fld (s1 _ _ ob) T.cl_Lines T.na_Lines_now (LF_now t n) ?_
    walk_at "go"
    intro dd nd
    exact Bl.at (q.mono s1) nd
def p_order_at (C CB : Addr) : P1 := fun x H Q E => ∃ A p t n ds dx d, x = .ref p ∧ Same A H ∧ A p = none ∧ At A (.ref t) (.tuple ds) ∧ H p = some (.ins C dx (LF t n)) ∧ ds[n]? = some d ∧
  (match readLn fmD forms d with
    | .inr e => Bl E H CB n e
    | .inl es => ∀ H1 H' a xs, Same H H1 → But p H1 H' → H' p = some (.ins C dx (LF t (n + 1))) → H a = none → a ≠ p → H' a = some (.tup xs) → AtAll A xs es → Q (.ref a) H')
theorem ok_order_at (T : Txt K mg C_GlimError C_BadLine C_BadOrder C_NoLine C_Lines C_Orders C_WORDS) : OK P w K mg base (L2.CX P w) 6 "order_at" ["reader"] (sp1  (p_order_at C_Lines C_BadLine)) := by
  refine OK.mkX (k := 5) T.d_order_at sc_order_at len1 fun f cdv A outer s H vs Q E hr h => ?_
  obtain ⟨x, rfl, h⟩ := h
  refine ⟨_, (pss_cons (ps_set (i := 1) sc_order_at.nd rfl (Or.inl rfl) (pe_m0 (pv 0) T.cl_Lines (ok_Lines_first_word (K := K) T) (hr.mono (by decide)) (passes_call (takes_of rfl rfl rfl rfl) (fun _ _ _ _ h => h)))) (pss_cons (ps_set (i := 2) sc_order_at.nd rfl (Or.inl rfl) (pe_tup (pa_cons (pe_S [115, 107, 105, 112]) pa_nil))) (pss_cons (ps_if (pt_cmpR (opNotIn K) (pv 1) (pe_gR _ T.c_WORDS) (by with_unfolding_all rfl)) (pss_one (ps_expr (pe_m (pv 0) T.cl_Lines (ok_Lines_fail_at (K := K) T) (hr.mono (by decide)) (passes_call (takes_of rfl rfl rfl rfl) (fun _ _ _ _ h => h)) (pa_cons pe_int pa_nil)))) pss_nil) (Evl.pss_cut (ps_if (pt_cmpR (opEq K hr.units) (pv 1) (pe_S [119, 97, 105, 116]) (nomark _)) (pss_one (ps_set (i := 2) sc_order_at.nd rfl (Or.inl rfl) (pe_tup (pa_cons (pv 1) (pa_cons (pe_f (ok_signs_at (K := K) T) (hr.mono (by decide)) (passes_call (takes_of rfl rfl rfl rfl) (fun _ _ _ _ h => h)) (pa_cons (pv 0) (pa_cons pe_int pa_nil))) (pa_cons (pe_m (pv 0) T.cl_Lines (ok_Lines_number_at (K := K) T) (hr.mono (by decide)) (passes_call (takes_of rfl rfl rfl rfl) (fun _ _ _ _ h => h)) (pa_cons pe_int (pa_cons pe_int (pa_cons pe_int pa_nil)))) pa_nil)))))) (pss_one (ps_if (pt_cmpR (opEq K hr.units) (pv 1) (pe_S [99, 111, 117, 110, 116]) (nomark _)) (pss_one (ps_set (i := 2) sc_order_at.nd rfl (Or.inl rfl) (pe_tup (pa_cons (pv 1) (pa_cons (pe_f (ok_signs_at (K := K) T) (hr.mono (by decide)) (passes_call (takes_of rfl rfl rfl rfl) (fun _ _ _ _ h => h)) (pa_cons (pv 0) (pa_cons pe_int pa_nil))) (pa_cons (pe_f (ok_signs_at (K := K) T) (hr.mono (by decide)) (passes_call (takes_of rfl rfl rfl rfl) (fun _ _ _ _ h => h)) (pa_cons (pv 0) (pa_cons pe_int pa_nil))) (pa_cons (pe_m (pv 0) T.cl_Lines (ok_Lines_number_at (K := K) T) (hr.mono (by decide)) (passes_call (takes_of rfl rfl rfl rfl) (fun _ _ _ _ h => h)) (pa_cons pe_int (pa_cons pe_int (pa_cons pe_int pa_nil)))) pa_nil))))))) (pss_one (ps_if (pt_cmpR (opEq K hr.units) (pv 1) (pe_S [112, 97, 115, 115]) (nomark _)) (pss_one (ps_set (i := 2) sc_order_at.nd rfl (Or.inl rfl) (pe_tup (pa_cons (pv 1) (pa_cons (pe_m (pv 0) T.cl_Lines (ok_Lines_number_at (K := K) T) (hr.mono (by decide)) (passes_call (takes_of rfl rfl rfl rfl) (fun _ _ _ _ h => h)) (pa_cons pe_int (pa_cons pe_int (pa_cons pe_int pa_nil)))) pa_nil))))) (pss_one (ps_if (pt_cmpR (opEq K hr.units) (pv 1) (pe_S [109, 111, 114, 101]) (nomark _)) (pss_one (ps_set (i := 2) sc_order_at.nd rfl (Or.inl rfl) (pe_tup (pa_cons (pv 1) (pa_cons (pe_m (pv 0) T.cl_Lines (ok_Lines_number_at (K := K) T) (hr.mono (by decide)) (passes_call (takes_of rfl rfl rfl rfl) (fun _ _ _ _ h => h)) (pa_cons pe_int (pa_cons pe_int (pa_cons pe_int pa_nil)))) (pa_cons (pe_m (pv 0) T.cl_Lines (ok_Lines_number_at (K := K) T) (hr.mono (by decide)) (passes_call (takes_of rfl rfl rfl rfl) (fun _ _ _ _ h => h)) (pa_cons pe_int (pa_cons pe_int (pa_cons (pe_op op_subP (pe_gI (20) T.g_MOST_LINES) pe_int) pa_nil)))) pa_nil)))))) (pss_one (ps_if (pt_cmpR (opEq K hr.units) (pv 1) (pe_S [108, 97, 115, 116]) (nomark _)) (pss_one (ps_set (i := 2) sc_order_at.nd rfl (Or.inl rfl) (pe_tup (pa_cons (pv 1) (pa_cons (pe_f (ok_signs_at (K := K) T) (hr.mono (by decide)) (passes_call (takes_of rfl rfl rfl rfl) (fun _ _ _ _ h => h)) (pa_cons (pv 0) (pa_cons pe_int pa_nil))) (pa_cons (pe_m (pv 0) T.cl_Lines (ok_Lines_number_at (K := K) T) (hr.mono (by decide)) (passes_call (takes_of rfl rfl rfl rfl) (fun _ _ _ _ h => h)) (pa_cons pe_int (pa_cons pe_int (pa_cons (pe_op op_subP (pe_gI (20) T.g_MOST_LINES) pe_int) pa_nil)))) pa_nil)))))) (pss_one (ps_if (pt_cmpR (opEq K hr.units) (pv 1) (pe_S [103, 111]) (nomark _)) (pss_one (ps_set (i := 2) sc_order_at.nd rfl (Or.inl rfl) (pe_tup (pa_cons (pv 1) (pa_cons (pe_m (pv 0) T.cl_Lines (ok_Lines_number_at (K := K) T) (hr.mono (by decide)) (passes_call (takes_of rfl rfl rfl rfl) (fun _ _ _ _ h => h)) (pa_cons pe_int (pa_cons pe_int (pa_cons (pe_op op_subP (pe_gI (20) T.g_MOST_LINES) pe_int) pa_nil)))) pa_nil))))) (pss_one (ps_if (pt_cmpR (opEq K hr.units) (pv 1) (pe_S [110, 97, 109, 101]) (nomark _)) (pss_one (ps_set (i := 2) sc_order_at.nd rfl (Or.inl rfl) (pe_tup (pa_cons (pv 1) (pa_cons (pe_m (pv 0) T.cl_Lines (ok_Lines_name_at (K := K) T) (hr.mono (by decide)) (passes_call (takes_of rfl rfl rfl rfl) (fun _ _ _ _ h => h)) (pa_cons pe_int pa_nil)) pa_nil))))) pss_nil))))))))))))) (pss_cons (ps_expr (pe_m (pv 0) T.cl_Lines (ok_Lines_close_at (K := K) T) (hr.mono (by decide)) (passes_call (takes_of rfl rfl rfl rfl) (fun _ _ _ _ h => h)) (pa_cons (pe_callB (cLen K) (by rfl) T.b_len (by decide +kernel) (pa_cons (pv 2) pa_nil)) pa_nil))) (pss_one (ps_ret (pv 2)))))))), ?_⟩
  show (_ : TS) { nx := fun _ H' => Q .non H', rt := Q } [some x, none, none] H
  obtain ⟨A0, p, t, n, ds, dx, d, rfl, sa, np, tx, ob, hd, q⟩ := h
  have hn : n < ds.length := (List.getElem?_eq_some_iff.mp hd).1
  have R : ∀ {H1 : Hp}, Same H H1 → Rdr C_Lines A0 H1 p t n ds := fun s => ⟨sa.trans s, tx, dx, s _ _ ob⟩
  have me : ∀ {H1 : Hp} {m : Str} {P : Prop}, Same H H1 → ¬ m = "now" → ¬ m = "texts" → P → ∃ a' dx fs, V.ref p = .ref a' ∧ H1 a' = some (.ins C_Lines dx fs) ∧ fs.lookup m = none ∧ P := fun s h1 h2 k => i_self (s _ _ ob) (LF_no t n h1 h2) k
  walk_at "go"
  refine me (Same.refl H) (by decide +kernel) (by decide +kernel) ?_
  walk_at "go"
  refine ⟨A0, p, t, n, ds, rfl, R (Same.refl H), hn, ?_⟩
  rw [hd]
  cases d with
  | str z =>
    intro H1 s1
    have zl := line_len tx hd
    have wp := words_pos z
    have wdk : ∀ k, wd ds n k = if k < (wrds z).length then .inl ((wrds z).getD k []) else .inr (wrds z).length := fun k => by
      unfold wd
      rw [hd]
    have wkl : ∀ k, k < (wrds z).length → ((wrds z).getD k []).length ≤ 10000 := fun k hk => wd_len (k := k) tx (by rw [wdk, if_pos hk])
    have bad : ∀ (e : Nat) {H2 : Hp}, Same H H2 → readLn fmD forms (.str z) = .inr e → Bl E H2 C_BadLine n e := fun e H2 s2 z1 => by
      rw [z1] at q
      exact Bl.mono q s2
    have rl := readLn_str fmD forms z
    generalize hws : wrds z = ws at *
    generalize readLn fmD forms (.str z) = rd at *
    have num : ∀ {f : Fm} {lo hi : Int} {k : Nat} {dn : List PyData} {fs : List Fm} {H2 : Hp} {Q1 : VK}, (∀ w, fmD f w = (numIn lo hi w).map PyData.int) → rd = rdk fmD ws k dn (f :: fs) → Same H H2 →
        (∀ v H3, Same H2 H3 → rd = rdk fmD ws (k + 1) (dn ++ [.int v]) fs → Q1 (.int v) H3) → p_number_at C_Lines C_BadLine (.ref p) (.int (k : Int)) (.int lo) (.int hi) H2 Q1 E := fun {f lo hi k dn fs H2 Q1} hf r s2 h3 => by
      refine ⟨A0, p, t, n, ds, k, lo, hi, rfl, rfl, rfl, rfl, R s2, ?_⟩
      rw [wdk]
      by_cases hk : k < ws.length
      · rw [if_pos hk]
        cases e : numIn lo hi (ws.getD k []) with
        | none => simp only [e]; exact bad k s2 (by rw [r, rdk_bad hk (by rw [hf, e]; rfl)])
        | some v => simp only [e]; exact fun H3 s3 => h3 v H3 s3 (by rw [r, rdk_ok hk (by rw [hf, e]; rfl)])
      · rw [if_neg hk]
        exact bad _ s2 (by rw [r, rdk_short hk])
    have sgn : ∀ {k : Nat} {dn : List PyData} {fs : List Fm} {H2 : Hp} {Q1 : VK}, rd = rdk fmD ws k dn (.sg :: fs) → Same H H2 →
        (∀ w H3, w.length ≤ 10000 → Same H2 H3 → rd = rdk fmD ws (k + 1) (dn ++ [dS w]) fs → Q1 (S w) H3) → p_signs_at C_Lines C_BadLine (.ref p) (.int (k : Int)) H2 Q1 E := fun {k dn fs H2 Q1} r s2 h3 => by
      refine ⟨A0, p, t, n, ds, k, rfl, rfl, R s2, ?_⟩
      rw [wdk]
      by_cases hk : k < ws.length
      · rw [if_pos hk]
        show if sgsL (ws.getD k []) = true then _ else _
        cases e : sgsL (ws.getD k []) with
        | false => rw [if_neg (by decide)]; exact bad k s2 (by rw [r, rdk_bad hk (by show (if sgsL (ws.getD k []) = true then _ else _) = _; rw [if_neg (by rw [e]; decide)])])
        | true => rw [if_pos rfl]; exact fun H3 s3 => h3 _ H3 (wkl k hk) s3 (by rw [r, rdk_ok hk (by show (if sgsL (ws.getD k []) = true then _ else _) = _; rw [if_pos e])])
      · rw [if_neg hk]
        exact bad _ s2 (by rw [r, rdk_short hk])
    have nam : ∀ {k : Nat} {dn : List PyData} {fs : List Fm} {H2 : Hp} {Q1 : VK}, rd = rdk fmD ws k dn (.nm :: fs) → Same H H2 →
        (∀ w H3, w.length ≤ 10000 → Same H2 H3 → rd = rdk fmD ws (k + 1) (dn ++ [dS w]) fs → Q1 (S w) H3) → p_name_at C_Lines C_BadLine (.ref p) (.int (k : Int)) H2 Q1 E := fun {k dn fs H2 Q1} r s2 h3 => by
      refine ⟨A0, p, t, n, ds, k, rfl, rfl, R s2, ?_⟩
      rw [wdk]
      by_cases hk : k < ws.length
      · rw [if_pos hk]
        show if (isMkL (ws.getD k []) && decide (ws.getD k [] ≠ [])) = true then _ else _
        cases e : (isMkL (ws.getD k []) && decide (ws.getD k [] ≠ [])) with
        | false => rw [if_neg (by decide)]; exact bad k s2 (by rw [r, rdk_bad hk (by show (if (isMkL (ws.getD k []) && decide (ws.getD k [] ≠ [])) = true then _ else _) = _; rw [if_neg (by rw [e]; decide)])])
        | true => rw [if_pos rfl]; exact fun H3 s3 => h3 _ H3 (wkl k hk) s3 (by rw [r, rdk_ok hk (by show (if (isMkL (ws.getD k []) && decide (ws.getD k [] ≠ [])) = true then _ else _) = _; rw [if_pos e])])
      · rw [if_neg hk]
        exact bad _ s2 (by rw [r, rdk_short hk])
    have w0l : (ws.getD 0 []).length ≤ 10000 := wkl 0 (by omega)
    generalize hw : ws.getD 0 [] = w at *
    walk_at "go"
    refine i_new (by show 1 ≤ 100000; omega) fun a1 na1 => ?_
    have na1' : H a1 = none := s1.free na1
    have s2 : Same H (upd H1 a1 (.tup [S [115, 107, 105, 112]])) := s1.trans (same_upd na1)
    have ha1 : (upd H1 a1 (.tup [S [115, 107, 105, 112]])) a1 = some (.tup [S [115, 107, 105, 112]]) := upd_same
    generalize upd H1 a1 (.tup [S [115, 107, 105, 112]]) = H2 at *
    walk_at "go"
    refine i_ninT (ms := [cWait, cCount, cPass, cMore, cLast, cGo, cName, cSkip]) (T.q_WORDS H2) ?_
    walk_at "go"
    refine i_decN (fun e0 => ?_) (fun e0 => ?_)
    · rw [forms_out e0] at rl
      walk_at "go"
      refine me s2 (by decide +kernel) (by decide +kernel) ?_
      walk_at "go"
      exact ⟨A0, p, t, n, ds, 0, rfl, rfl, R s2, bad 0 s2 rl⟩
    walk_at "go"
    refine i_cut (fun σ H' => ∃ a xs es, σ = [some (.ref p), some (S w), some (.ref a)] ∧ Same H H' ∧ H a = none ∧ H' a = some (.tup xs) ∧ AtAll A0 xs es ∧ xs.length ≤ 4 ∧ rd = rdk fmD ws xs.length es []) ?_ ?_
    · have fin : ∀ {G : Hp} {a : Addr} {xs : List V} {es : List PyData}, Same H G → G a = none → AtAll A0 xs es → xs.length ≤ 4 → rd = rdk fmD ws xs.length es [] → ∃ a' xs' es, ([some (.ref p), some (S w), some (.ref a)] : L2.St) = [some (.ref p), some (S w), some (.ref a')] ∧ Same H (upd G a (.tup xs)) ∧ H a' = none ∧ (upd G a (.tup xs)) a' = some (.tup xs') ∧ AtAll A0 xs' es ∧ xs'.length ≤ 4 ∧ rd = rdk fmD ws xs'.length es [] :=
        fun s n al l r => ⟨_, _, _, rfl, s.trans (same_upd n), s.free n, upd_same, al, l, r⟩
      walk_at "go"
      refine i_dec (fun e1 => ?_) (fun e1 => ?_)
      · have hf : forms w = some [.sg, .t] := by unfold forms; rw [if_pos e1]
        rw [hf] at rl
        walk_at "go"
        refine sgn rl s2 fun w1 H3 l1 s3 r3 => ?_
        walk_at "go"
        refine me (s2.trans s3) (by decide +kernel) (by decide +kernel) ?_
        walk_at "go"
        refine num (f := .t) (fun _ => rfl) r3 (s2.trans s3) fun v H4 s4 r4 => ?_
        walk_at "go"
        refine i_new (by show 3 ≤ 100000; omega) fun a na => ?_
        exact fin ((s2.trans s3).trans s4) na (.cons (.str _ w0l) (.cons (.str _ l1) (.one (.int _)))) (by simp) r4
      walk_at "go"
      refine i_dec (fun e2 => ?_) (fun e2 => ?_)
      · have hf : forms w = some [.sg, .sg, .t] := by unfold forms; rw [if_neg e1, if_pos e2]
        rw [hf] at rl
        walk_at "go"
        refine sgn rl s2 fun w1 H3 l1 s3 r3 => ?_
        walk_at "go"
        refine sgn r3 (s2.trans s3) fun w2 H4 l2 s4 r4 => ?_
        have s24 := (s2.trans s3).trans s4
        walk_at "go"
        refine me s24 (by decide +kernel) (by decide +kernel) ?_
        walk_at "go"
        refine num (f := .t) (fun _ => rfl) r4 s24 fun v H5 s5 r5 => ?_
        walk_at "go"
        refine i_new (by show 4 ≤ 100000; omega) fun a na => ?_
        exact fin (s24.trans s5) na (.cons (.str _ w0l) (.cons (.str _ l1) (.cons (.str _ l2) (.one (.int _))))) (by simp) r5
      walk_at "go"
      refine i_dec (fun e3 => ?_) (fun e3 => ?_)
      · have hf : forms w = some [.t] := by unfold forms; rw [if_neg e1, if_neg e2, if_pos e3]
        rw [hf] at rl
        walk_at "go"
        refine me s2 (by decide +kernel) (by decide +kernel) ?_
        walk_at "go"
        refine num (f := .t) (fun _ => rfl) rl s2 fun v H4 s4 r4 => ?_
        walk_at "go"
        refine i_new (by show 2 ≤ 100000; omega) fun a na => ?_
        exact fin (s2.trans s4) na (.cons (.str _ w0l) (.one (.int _))) (by simp) r4
      walk_at "go"
      refine i_dec (fun e4 => ?_) (fun e4 => ?_)
      · have hf : forms w = some [.t, .l] := by unfold forms; rw [if_neg e1, if_neg e2, if_neg e3, if_pos e4]
        rw [hf] at rl
        walk_at "go"
        refine me s2 (by decide +kernel) (by decide +kernel) ?_
        walk_at "go"
        refine num (f := .t) (fun _ => rfl) rl s2 fun v H4 s4 r4 => ?_
        walk_at "go"
        refine me (s2.trans s4) (by decide +kernel) (by decide +kernel) ?_
        walk_at "go"
        refine num (f := .l) (fun _ => rfl) r4 (s2.trans s4) fun v5 H5 s5 r5 => ?_
        walk_at "go"
        refine i_new (by show 3 ≤ 100000; omega) fun a na => ?_
        exact fin ((s2.trans s4).trans s5) na (.cons (.str _ w0l) (.cons (.int _) (.one (.int _)))) (by simp) r5
      walk_at "go"
      refine i_dec (fun e5 => ?_) (fun e5 => ?_)
      · have hf : forms w = some [.sg, .l] := by unfold forms; rw [if_neg e1, if_neg e2, if_neg e3, if_neg e4, if_pos e5]
        rw [hf] at rl
        walk_at "go"
        refine sgn rl s2 fun w1 H3 l1 s3 r3 => ?_
        walk_at "go"
        refine me (s2.trans s3) (by decide +kernel) (by decide +kernel) ?_
        walk_at "go"
        refine num (f := .l) (fun _ => rfl) r3 (s2.trans s3) fun v H4 s4 r4 => ?_
        walk_at "go"
        refine i_new (by show 3 ≤ 100000; omega) fun a na => ?_
        exact fin ((s2.trans s3).trans s4) na (.cons (.str _ w0l) (.cons (.str _ l1) (.one (.int _)))) (by simp) r4
      walk_at "go"
      refine i_dec (fun e6 => ?_) (fun e6 => ?_)
      · have hf : forms w = some [.l] := by unfold forms; rw [if_neg e1, if_neg e2, if_neg e3, if_neg e4, if_neg e5, if_pos e6]
        rw [hf] at rl
        walk_at "go"
        refine me s2 (by decide +kernel) (by decide +kernel) ?_
        walk_at "go"
        refine num (f := .l) (fun _ => rfl) rl s2 fun v H4 s4 r4 => ?_
        walk_at "go"
        refine i_new (by show 2 ≤ 100000; omega) fun a na => ?_
        exact fin (s2.trans s4) na (.cons (.str _ w0l) (.one (.int _))) (by simp) r4
      walk_at "go"
      refine i_dec (fun e7 => ?_) (fun e7 => ?_)
      · have hf : forms w = some [.nm] := by unfold forms; rw [if_neg e1, if_neg e2, if_neg e3, if_neg e4, if_neg e5, if_neg e6, if_pos e7]
        rw [hf] at rl
        walk_at "go"
        refine me s2 (by decide +kernel) (by decide +kernel) ?_
        walk_at "go"
        refine nam rl s2 fun w1 H3 l1 s3 r3 => ?_
        walk_at "go"
        refine i_new (by show 2 ≤ 100000; omega) fun a na => ?_
        exact fin (s2.trans s3) na (.cons (.str _ w0l) (.one (.str _ l1))) (by simp) r3
      · have e8 : w = cSkip := by
          simp only [List.mem_cons, List.not_mem_nil, or_false] at e0
          rcases e0 with h | h | h | h | h | h | h | h
          · exact absurd h e1
          · exact absurd h e2
          · exact absurd h e3
          · exact absurd h e4
          · exact absurd h e5
          · exact absurd h e6
          · exact absurd h e7
          · exact h
        subst e8
        have rl : rd = rdk fmD ws 1 [dS cSkip] [] := rl
        walk_at "go"
        exact ⟨a1, _, _, rfl, s2, na1', ha1, .one (.str _ w0l), by decide, rl⟩
    · rintro σ H' ⟨a, xs, es, rfl, s3, na, ha, al, l3, e⟩
      have nap : a ≠ p := fun z => by rw [z, ob] at na; cases na
      rw [rdk_end] at e
      walk_at "go"
      refine me s3 (by decide +kernel) (by decide +kernel) ?_
      walk_at "go"
      refine i_len_tup (.inl (.inl ha)) ?_
      walk_at "go"
      refine ⟨A0, p, t, n, ds, dx, z, xs.length, rfl, rfl, sa.trans s3, tx, s3 _ _ ob, hd, ?_⟩
      rw [hws]
      by_cases hk : xs.length < ws.length
      · rw [if_pos hk] at e ⊢
        exact bad _ s3 e
      · rw [if_neg hk] at e ⊢
        intro H4 b4 o4
        rw [e] at q
        walk_at "go"
        exact q H' H4 a xs s3 b4 o4 na nap (b4 _ _ nap ha) al
  | _ => exact q
end
end K43
namespace K43
open PySem PySem.Spec PyProof.Rows L2 Fg
local macro_rules | `(tactic| walk_at "sq") => `(tactic| first
  | assumption
  | exact .inl (.inl (by assumption))
  | exact .inl (.inl upd_same))
local macro_rules | `(tactic| walk_at "st") => `(tactic| first
  | assumption
  | exact .inl (.inl (by assumption))
  | exact .inl (.inl upd_same))
local macro_rules | `(tactic| walk_at "o") => `(tactic| first
  | omega
  | assumption
  | (simp only [List.length_append, List.length_take, List.length_drop, List.length_cons, List.length_nil, List.length_singleton, List.length_map, List.length_range, Int.toNat_natCast] ; omega))
local macro_rules | `(tactic| walk_at "s") => `(tactic| first
  | (with_reducible refine i_seq ?_)
  | (with_reducible refine i_asg ?_)
  | ((with_reducible refine' i_var ?h1 ?_); (case h1 => rfl))
  | (with_reducible refine i_c ?_)
  | ((with_reducible refine' i_gname' ?h1 ?_); (case h1 => (simp only [List.set_cons_zero, List.set_cons_succ]; rfl)))
  | (with_reducible refine i_op ?_)
  | (with_reducible refine i_ifS ?_)
  | (with_reducible refine i_for ?_)
  | (with_reducible refine i_test ?_)
  | (with_reducible refine i_B ?_)
  | (with_reducible refine i_exbl ?_)
  | (with_reducible refine i_exint ?_)
  | (with_reducible refine i_cb ?_)
  | (with_reducible refine i_nil ?_)
  | (with_reducible refine i_cons ?_)
  | (with_reducible refine i_ret ?_)
  | (with_reducible refine i_sl ?_)
  | (with_reducible refine i_nopart ?_)
  | (with_reducible refine i_part ?_)
  | (with_reducible refine i_add_int ?_)
  | (with_reducible refine i_sub ?_)
  | (with_reducible refine i_lt ?_)
  | ((with_reducible refine' i_mod ?h1 ?_); (case h1 => walk_at "o"))
  | ((with_reducible refine' i_fdiv ?h1 ?_); (case h1 => (refine cdiv_small ?_ ?_ <;> walk_at "o")))
  | ((with_reducible refine' i_sl_to ?h1 ?h2 ?_); (case h1 => walk_at "o"); (case h2 => walk_at "o"))
  | ((with_reducible refine' i_sl_from ?h1 ?h2 ?_); (case h1 => walk_at "o"); (case h2 => walk_at "o"))
  | ((with_reducible refine' i_add_str ?h1 ?_); (case h1 => walk_at "o"))
  | ((with_reducible refine' i_mul_int ?h1 ?_); (case h1 => first | (refine mul_small ?_ ?_ <;> walk_at "o") | (refine mul_smallR ?_ ?_ <;> walk_at "o")))
  | (with_reducible refine i_le ?_)
  | (with_reducible refine i_gt ?_)
  | (with_reducible refine i_ge ?_)
  | (with_reducible refine i_eq_int ?_)
  | (with_reducible refine i_eq_str ?_)
  | (with_reducible refine i_ne_int ?_)
  | (with_reducible refine i_ne_str ?_)
  | (with_reducible refine i_eq_bl ?_)
  | (with_reducible refine i_ne_bl ?_)
  | (with_reducible refine i_in_sg ?_)
  | (with_reducible refine i_notIn_sg ?_)
  | (with_reducible refine i_call ?_)
  | (with_reducible refine i_callS ?_)
  | (with_reducible refine i_sp1 ?_)
  | (with_reducible refine i_sp2 ?_)
  | (with_reducible refine i_sp3 ?_)
  | (with_reducible refine i_sp4 ?_)
  | (with_reducible refine i_sp1' ?_)
  | (with_reducible refine i_sp2' ?_)
  | (with_reducible refine i_sp3' ?_)
  | ((with_reducible refine' i_ix_lst ?h1 ?h2 ?_); (case h1 => walk_at "sq"); (case h2 => first | exact atI_nat rfl | rfl))
  | ((with_reducible refine' i_ix_tup ?h1 ?h2 ?_); (case h1 => walk_at "st"); (case h2 => first | exact atI_nat rfl | rfl))
  | (with_reducible refine i_gsub ?_)
  | (with_reducible refine i_par ?_)
  | (with_reducible refine i_lstRg1 ?_)
  | (with_reducible refine i_app ?_)
  | (with_reducible refine i_par2 ?_)
  | ((with_reducible refine' i_aug ?h1 ?_); (case h1 => rfl))
  | (with_reducible refine i_ipI ?_)
  | ((with_reducible refine' i_gtup2 ?h1 ?_); (case h1 => walk_at "st"))
  | (with_reducible refine i_int_bl ?_)
  | (with_reducible refine i_raise ?_)
  | (with_reducible refine i_mkE ?_)
  | (with_reducible refine i_ex1 ?_)
  | (with_reducible refine i_and ?_)
  | (with_reducible refine i_or ?_)
  | (with_reducible refine i_not ?_)
  | (with_reducible refine i_tt ?_)
  | (with_reducible refine i_ff ?_)
  | (with_reducible refine i_nott ?_)
  | (with_reducible refine i_notf ?_)
  | (with_reducible refine i_andV ?_)
  | (with_reducible refine i_orV ?_)
  | (with_reducible refine i_notV ?_)
  | (with_reducible refine i_ifE ?_)
  | (with_reducible refine i_tup ?_)
  | (with_reducible refine i_lst ?_)
  | (with_reducible refine i_un ?_)
  | (with_reducible refine i_neg ?_)
  | (with_reducible refine i_chain ?_)
  | (with_reducible refine i_next ?_)
  | (with_reducible refine i_retN ?_)
  | (with_reducible refine i_drop ?_)
  | (with_reducible refine i_int_int ?_)
  | (with_reducible refine i_abs ?_)
  | (with_reducible refine i_m1c ?_)
  | (with_reducible refine i_is_non ?_)
  | (with_reducible refine i_is_int ?_)
  | (with_reducible refine i_is_bl ?_)
  | (with_reducible refine i_isn_bl ?_)
  | (with_reducible refine i_is_str ?_)
  | (with_reducible refine i_is_ref ?_)
  | (with_reducible refine i_isn_non ?_)
  | (with_reducible refine i_isn_int ?_)
  | (with_reducible refine i_isn_str ?_)
  | (with_reducible refine i_isn_ref ?_)
  | (with_reducible refine i_len_str ?h1 ?_; (case h1 => walk_at "o"))
  | (with_reducible refine i_callD ?_)
  | (with_reducible refine i_spD2 ?_)
  | (with_reducible refine i_spM1 ?_)
  | (with_reducible refine i_spM2 ?_)
  | (with_reducible refine i_spM3 ?_)
  | (with_reducible refine i_spM4 ?_)
  | (with_reducible refine i_spM3d ?_)
  | (with_reducible refine i_tfld ?_)
  | (with_reducible refine i_sfld ?_)
  | (with_reducible refine i_meth ?_)
  | (with_reducible refine i_make ?_)
  | (with_reducible refine i_spl ?_)
  | (with_reducible refine i_mkE2 ?_)
  | (with_reducible refine i_ex2 ?_)
  | (with_reducible refine i_dget ?_)
  | (with_reducible refine i_tru ?_)
  | (with_reducible refine i_dput ?_)
  | (with_reducible refine i_dnotin ?_)
  | (with_reducible refine i_din ?_)
  | (with_reducible refine i_rev ?_)
  | (with_reducible refine i_isi_int_int ?_) | (with_reducible refine i_isi_int_bool ?_) | (with_reducible refine i_isi_int_str ?_) | (with_reducible refine i_isi_int_tuple ?_) | (with_reducible refine i_isi_int_list ?_)
  | (with_reducible refine i_isi_bl_int ?_) | (with_reducible refine i_isi_bl_bool ?_) | (with_reducible refine i_isi_bl_str ?_) | (with_reducible refine i_isi_bl_tuple ?_) | (with_reducible refine i_isi_bl_list ?_)
  | (with_reducible refine i_isi_str_int ?_) | (with_reducible refine i_isi_str_bool ?_) | (with_reducible refine i_isi_str_str ?_) | (with_reducible refine i_isi_str_tuple ?_) | (with_reducible refine i_isi_str_list ?_)
  | (with_reducible refine i_isi_non_int ?_) | (with_reducible refine i_isi_non_bool ?_) | (with_reducible refine i_isi_non_str ?_) | (with_reducible refine i_isi_non_tuple ?_) | (with_reducible refine i_isi_non_list ?_))
local macro_rules | `(tactic| walk_at "go") => `(tactic| (repeat' (walk_at "s")))
local macro_rules | `(tactic| walk_at "n") => `(tactic| simp only [wipe, List.map_cons, List.map_nil, List.set_cons_zero, List.set_cons_succ])
/-- what is known once an instance is made -/
theorem made_ext {A H A1 H' : Hp} {C p dx t : Addr} (sa : Same A H) (np : H p = none) (ndx : H dx = none) (ne : dx ≠ p) (s1 : Same A A1) (s2 : Same A1 H') (b : But p (upd (upd H dx (.own p)) p (.ins C dx [])) H')
    (nw : ∀ c, A c = none → A1 c ≠ none → (upd (upd H dx (.own p)) p (.ins C dx [])) c = none) (n1 : A1 p = none) (hp : H' p = some (.ins C dx (OF t))) :
    Ext A H (upd (upd A1 dx (.own p)) p (.ins C dx (OF t))) H' ∧ Same A1 (upd (upd A1 dx (.own p)) p (.ins C dx (OF t))) := by
  have ndxA1 : A1 dx = none := by
    cases e : A1 dx with
    | none => rfl
    | some o =>
      have := nw dx (sa.free ndx) (by rw [e]; simp)
      rw [upd_ne ne, upd_same] at this
      cases this
  have hdx : H' dx = some (.own p) := b dx _ ne ((upd_ne ne).trans upd_same)
  have s3 : Same A1 (upd (upd A1 dx (.own p)) p (.ins C dx (OF t))) := (same_upd ndxA1).trans (same_upd ((upd_ne ne.symm).trans n1))
  refine ⟨⟨s1.trans s3, fun c o e => ?_, fun c o e => ?_, fun c h1 h2 => ?_⟩, s3⟩
  · by_cases h : c = p
    · rw [h, upd_same] at e; rw [h, hp]; exact e
    · rw [upd_ne h] at e
      by_cases h' : c = dx
      · rw [h', upd_same] at e; rw [h', hdx]; exact e
      · rw [upd_ne h'] at e; exact s2 _ _ e
  · have hc : c ≠ p := ne_of_none e np
    have hc2 : c ≠ dx := ne_of_none e ndx
    exact b c o hc ((upd_ne hc).trans ((upd_ne hc2).trans e))
  · by_cases h : c = p
    · rw [h]; exact np
    · by_cases h' : c = dx
      · rw [h']; exact ndx
      · rw [upd_ne h, upd_ne h'] at h2
        have := nw c h1 h2
        rw [upd_ne h, upd_ne h'] at this
        exact this
/-- a part of a line that is read -/
def PartF (e : PyData) : Prop := (∃ l, e = dS l ∧ l.length ≤ 10 ∧ ∀ c ∈ l, c < 256) ∨ ∃ i : Int, e = .int i ∧ 0 ≤ i ∧ i ≤ 100
theorem PartF.lay {e : PyData} (h : PartF e) : e.canLay0 = true := by
  rcases h with ⟨l, rfl, _, h⟩ | ⟨i, rfl, _⟩
  · simp only [PyData.canLay0]
    exact strOk_small fun c hc => Nat.lt_trans (h c hc) (by decide)
  · rfl
theorem PartF.dep {e : PyData} (h : PartF e) : e.depth = 0 := by
  rcases h with ⟨l, rfl, _⟩ | ⟨i, rfl, _⟩ <;> rfl
theorem PartF.deep {e : PyData} (h : PartF e) : deepD e = e := by
  rcases h with ⟨l, rfl, _, _⟩ | ⟨i, rfl, _, _⟩ <;> rfl
theorem sgs_part {l : List Nat} (h : sgsL l = true) : PartF (dS l) := by
  unfold sgsL at h
  rw [Bool.and_eq_true, decide_eq_true_eq, decide_eq_true_eq] at h
  refine .inl ⟨l, rfl, ?_, fun c hc => ?_⟩
  · rw [h.2]
    have := List.length_filter_le (fun c => decide (c ∈ l)) SG
    have : SG.length = 4 := rfl
    omega
  · rw [h.2] at hc
    have : ∀ c ∈ SG, c < 256 := by decide
    exact this c (List.mem_filter.mp hc).1
theorem mk_part {l : List Nat} (h : isMkL l = true) : PartF (dS l) := by
  unfold isMkL at h
  rw [Bool.and_eq_true, decide_eq_true_eq, List.all_eq_true] at h
  refine .inl ⟨l, rfl, by omega, fun c hc => ?_⟩
  have : ∀ c ∈ MK, c < 256 := by decide
  exact this c (of_decide_eq_true (h.2 c hc))
theorem fmD_part {f : Fm} {w : List Nat} {d : PyData} (h : fmD f w = some d) : PartF d := by
  have num : ∀ {lo hi : Int}, 0 ≤ lo → hi ≤ 100 → (numIn lo hi w).map PyData.int = some d → PartF d := fun h0 h1 h => by
    obtain ⟨v, hv, rfl⟩ := Option.map_eq_some_iff.mp h
    unfold numIn at hv
    split at hv
    · rename_i z
      cases hv
      exact .inr ⟨_, rfl, by omega, by omega⟩
    · cases hv
  cases f with
  | t => exact num (by decide) (by decide) h
  | l => exact num (by decide) (by decide) h
  | sg =>
    have h' : (if sgsL w = true then some (dS w) else none) = some d := h
    split at h'
    · rename_i z; cases h'; exact sgs_part z
    · cases h'
  | nm =>
    have h' : (if (isMkL w && decide (w ≠ [])) = true then some (dS w) else none) = some d := h
    split at h'
    · rename_i z; cases h'
      rw [Bool.and_eq_true] at z
      exact mk_part z.1
    · cases h'
theorem forms_some {w : List Nat} {fs : List Fm} (h : forms w = some fs) : PartF (dS w) ∧ fs.length ≤ 3 := by
  by_cases hw : w ∈ [cWait, cCount, cPass, cMore, cLast, cGo, cName, cSkip]
  · refine ⟨.inl ⟨w, rfl, ?_, ?_⟩, ?_⟩
    · have : ∀ w ∈ [cWait, cCount, cPass, cMore, cLast, cGo, cName, cSkip], w.length ≤ 10 := by decide
      exact this w hw
    · have : ∀ w ∈ [cWait, cCount, cPass, cMore, cLast, cGo, cName, cSkip], ∀ c ∈ w, c < 256 := by decide
      exact this w hw
    · simp only [List.mem_cons, List.not_mem_nil, or_false] at hw
      rcases hw with rfl | rfl | rfl | rfl | rfl | rfl | rfl | rfl <;> (cases h; decide)
  · rw [forms_out hw] at h; cases h
theorem ln_part {d : PyData} {es : List PyData} (h : readLn fmD forms d = .inl es) : (∀ e ∈ es, PartF e) ∧ es.length ≤ 4 ∧ es ≠ [] := by
  cases d with
  | str z =>
    rw [readLn_str] at h
    cases hf : forms ((wrds z).getD 0 []) with
    | none => rw [hf] at h; cases h
    | some fs =>
      rw [hf] at h
      have h : rdk fmD (wrds z) 1 [dS ((wrds z).getD 0 [])] fs = .inl es := h
      obtain ⟨p0, l0⟩ := forms_some hf
      obtain ⟨a, b, c⟩ := rdk_all (P := PartF) (fun f w d e => fmD_part e) h (fun x hx => by rw [List.mem_singleton.mp hx]; exact p0)
      have b : es.length = 1 + fs.length := b
      exact ⟨a, by omega, fun z => by rw [z] at b; simp at b; omega⟩
  | _ => cases h
theorem lays_of {ds : List PyData} (h : ∀ d ∈ ds, d.canLay0 = true) : PyData.canLayAll0 ds = true := by
  induction ds with
  | nil => rfl
  | cons d r ih =>
    simp only [PyData.canLayAll0, h d (List.mem_cons_self ..), ih fun e he => h e (List.mem_cons_of_mem _ he), Bool.and_self]
theorem deps_of {ds : List PyData} {n : Nat} (h : ∀ d ∈ ds, d.depth ≤ n) : PyData.depthAll ds ≤ n := by
  induction ds with
  | nil => exact Nat.zero_le _
  | cons d r ih =>
    have h1 := h d (List.mem_cons_self ..)
    have h2 := ih fun e he => h e (List.mem_cons_of_mem _ he)
    show max d.depth (PyData.depthAll r) ≤ n
    omega
theorem deeps_id {ds : List PyData} (h : ∀ d ∈ ds, deepD d = d) : deepD.deepDs ds = ds := by
  rw [deepDs_map]
  exact (List.map_congr_left h).trans (List.map_id _)
/-- a line that is read, as a tuple -/
def LineF (d : PyData) : Prop := ∃ es, d = .tuple es ∧ (∀ e ∈ es, PartF e) ∧ es.length ≤ 4
theorem LineF.lay {d : PyData} (h : LineF d) : d.canLay0 = true := by
  obtain ⟨es, rfl, p, _⟩ := h
  simp only [PyData.canLay0]
  exact lays_of fun e he => (p e he).lay
theorem LineF.dep {d : PyData} (h : LineF d) : d.depth ≤ 1 := by
  obtain ⟨es, rfl, p, _⟩ := h
  have := deps_of (n := 0) fun e he => Nat.le_of_eq (p e he).dep
  show PyData.depthAll es + 1 ≤ 1
  omega
theorem LineF.deep {d : PyData} (h : LineF d) : deepD d = d := by
  obtain ⟨es, rfl, p, _⟩ := h
  exact congrArg PyData.tuple (deeps_id fun e he => (p e he).deep)
/-- what lines of text tell -/
inductive Res
  | line (n k : Nat)
  | order (k : Int)
  | good (ws : List PyData)
def resW (ws : List PyData) : Res := match badO (.tuple ws) with
  | some k => .order k
  | none => .good ws
def resA (ds : List PyData) : Res := match readAll (readLn fmD forms) ds 0 with
  | .inr (n, k) => .line n k
  | .inl ws => resW ws
def resD (d : PyData) : Res := match seqOf d with
  | none => .line 0 0
  | some ds => resA ds
section
variable {P : Program} {w : World} {K : PySem.W.Frag} {mg : Str → Option Value} {base : Heap} {C_GlimError C_BadLine C_BadOrder C_NoLine C_Lines C_Orders C_WORDS : Addr}
def wish (E : XK) (A H : Hp) (CB CO C : Addr) (Q : VK) : Res → Prop
  | .line n k => Bl E H CB n k
  | .order k => Rz E H CO "number" (.int k)
  | .good ws => ∀ A' H' p dx t, Ext A H A' H' → A' p = some (.ins C dx (OF t)) → At A' (.ref t) (.tuple ws) → Q (.ref p) H'
def p_read_orders (CB CO C : Addr) : P1 := fun x H Q E => ∃ A d, Same A H ∧ At A x d ∧ wish E A H CB CO C Q (resD d)
theorem ok_read_orders (T : Txt K mg C_GlimError C_BadLine C_BadOrder C_NoLine C_Lines C_Orders C_WORDS) : OK P w K mg base (L2.CX P w) 9 "read_orders" ["lines"] (sp1  (p_read_orders C_BadLine C_BadOrder C_Orders)) := by
  refine OK.mkX (k := 8) T.d_read_orders sc_read_orders len1 fun f cdv A outer s H vs Q E hr h => ?_
  obtain ⟨x, rfl, h⟩ := h
  refine ⟨_, (pss_cons (ps_set (i := 1) sc_read_orders.nd rfl (Or.inl rfl) (pe_mkd (ok_Lines___init__ (K := K) T) (hr.mono (by decide)) (passes_call (takes_of rfl rfl rfl rfl) (fun _ _ _ _ h => h)) (pa_cons (pv 0) pa_nil))) (pss_cons (ps_set (i := 2) sc_read_orders.nd rfl (Or.inl rfl) (pe_lst pa_nil)) (pss_cons (ps_while (passes_of rfl) (pt_not (pt_val (pe_m0 (pv 1) T.cl_Lines (ok_Lines_is_over (K := K) T) (hr.mono (by decide)) pass0))) (pss_one (ps_expr (peApp K (pv 2) (pa_cons (pe_f (ok_order_at (K := K) T) (hr.mono (by decide)) (passes_call (takes_of rfl rfl rfl rfl) (fun _ _ _ _ h => h)) (pa_cons (pv 1) pa_nil)) pa_nil))))) (pss_one (ps_ret (pe_mk (ok_Orders___init__ (K := K) T) (hr.mono (by decide)) (passes_call (takes_of rfl rfl rfl rfl) (fun _ _ _ _ h => h)) (pa_cons (pv 2) pa_nil))))))), ?_⟩
  show (_ : TS) { nx := fun _ H' => Q .non H', rt := Q } [some x, none, none] H
  obtain ⟨A0, d, sa, hx, q⟩ := h
  walk_at "go"
  intro p dx np ndx nex
  have sp : Same H (upd (upd H dx (.own p)) p (.ins C_Lines dx [])) := (same_upd ndx).trans (same_upd (by rw [upd_ne nex.symm]; exact np))
  have np0 : H p = none := np
  have a0p : A0 p = none := sa.free np
  walk_at "go"
  refine ⟨A0, p, dx, d, rfl, rfl, sa.trans sp, a0p, upd_same, hx, ?_⟩
  unfold resD at q
  cases e0 : seqOf d with
  | none =>
    rw [e0] at q
    exact Bl.mono q sp
  | some ds =>
  rw [e0] at q
  have q : wish E A0 H C_BadLine C_BadOrder C_Orders Q (resA ds) := q
  unfold resA at q
  intro A1 H1 t sA1 sH1 but1 nw1 ob1 tx1
  refine ⟨rfl, ?_⟩
  have a1p : A1 p = none := by
    by_cases h : A1 p = none
    · exact h
    · have := nw1 p a0p h
      rw [upd_same] at this
      cases this
  have x1 : Ext A0 H A1 H1 := by
    refine ⟨sA1, sH1, fun b o e => ?_, fun b h1 h2 => ?_⟩
    · exact but1 b o (ne_of_none e np) (sp b o e)
    · have h3 := nw1 b h1 h2
      have hbp : b ≠ p := fun z => by rw [z, upd_same] at h3; cases h3
      rw [upd_ne hbp] at h3
      have hbd : b ≠ dx := fun z => by rw [z, upd_same] at h3; cases h3
      rw [upd_ne hbd] at h3
      exact h3
  have dl : ds.length ≤ 10000 := by
    obtain ⟨_, _, _, _, l, al⟩ := tx1.tupled
    rw [← al.len]; exact l
  walk_at "go"
  refine i_new (by show 0 ≤ 100000; omega) fun wl nwl => ?_
  have hwl : H wl = none := x1.gg.free nwl
  have a1wl : A1 wl = none := x1.ag.free nwl
  have pwl : p ≠ wl := fun z => by rw [← z, ob1] at nwl; cases nwl
  refine i_while (fun m σ H' => ∃ n xs ws A', m = ds.length - n ∧ n ≤ ds.length ∧ σ = [some x, some (.ref p), some (.ref wl)] ∧ Ext A0 H A' H' ∧ Same A1 A' ∧ A' p = none ∧ A' wl = none ∧
    H' p = some (.ins C_Lines dx (LF t n)) ∧ H' wl = some (.lst xs) ∧ AtAll A' xs ws ∧ ws.length = n ∧ (∀ w ∈ ws, LineF w) ∧ readAll (readLn fmD forms) ds 0 = comb ws (readAll (readLn fmD forms) (ds.drop n) n)) ds.length ⟨0, [], [], A1, rfl, Nat.zero_le _, rfl, x1.hid nwl, Same.refl _, a1p, a1wl, by rw [upd_ne pwl]; exact ob1, upd_same, .nil, rfl, fun w h => absurd h (by simp), ?_⟩ ?_
  · show readAll (readLn fmD forms) ds 0 = comb [] (readAll (readLn fmD forms) ds 0)
    cases readAll (readLn fmD forms) ds 0 <;> rfl
  rintro m σ H2 ⟨n, xs, ws, A2, rfl, hn, rfl, x2, sA2, a2p, a2wl, ob2, hwl2, al2, wl2, dep2, ra⟩
  have tx2 := tx1.same sA2
  have R2 : Rdr C_Lines A2 H2 p t n ds := ⟨x2.ag, tx2, dx, ob2⟩
  walk_at "go"
  refine i_self ob2 (LF_no t n (by decide +kernel) (by decide +kernel)) ?_
  walk_at "go"
  refine ⟨A2, p, t, n, ds, rfl, R2, ?_⟩
  walk_at "go"
  refine i_decN (fun e1 => ?_) (fun e1 => ?_)
  · have hlt : n < ds.length := by omega
    have hd : ds[n]? = some ds[n] := List.getElem?_eq_getElem hlt
    generalize ds[n] = c at hd
    refine i_turn ?_
    walk_at "go"
    refine i_appAt hwl2 ?_
    walk_at "go"
    refine ⟨A2, p, t, n, ds, dx, c, rfl, x2.ag, a2p, tx2, ob2, hd, ?_⟩
    cases er : readLn fmD forms c with
    | inr e =>
      rw [readAll_bad ra hd er] at q
      exact Bl.mono q x2.gg
    | inl es =>
      intro H3 H4 a ys s3 b4 ob4 na nap ha al4
      have hwa : wl ≠ a := fun z => by rw [z, na] at hwl2; cases hwl2
      have wl4 : H4 wl = some (.lst xs) := b4 _ _ pwl.symm (s3 _ _ hwl2)
      have a2a : A2 a = none := x2.ag.free na
      obtain ⟨lp, l4, _⟩ := ln_part er
      have ylen : ys.length ≤ 10000 := by
        rw [al4.len]
        omega
      walk_at "go"
      refine i_appEnd wl4 (by rw [al2.len]; omega) ?_
      refine ⟨ds.length - (n + 1), by omega, n + 1, xs ++ [.ref a], ws ++ [.tuple es], upd A2 a (.tup ys), rfl, by omega, rfl, ?_, sA2.trans (same_upd a2a), ?_, ?_, ?_, upd_same, ?_, ?_, ?_, readAll_turn ra hd er⟩
      · refine ⟨x2.aa.trans (same_upd a2a), fun b o eb => ?_, fun b o eb => ?_, fun b h1 h2 => ?_⟩
        · by_cases hb : b = a
          · rw [hb, upd_same] at eb
            rw [hb, upd_ne hwa.symm, ha]; exact eb
          · rw [upd_ne hb] at eb
            have n1 : b ≠ wl := ne_of_none eb a2wl
            have n2 : b ≠ p := ne_of_none eb a2p
            rw [upd_ne n1]
            exact b4 _ _ n2 (s3 _ _ (x2.ag _ _ eb))
        · have n1 : b ≠ wl := ne_of_none eb hwl
          have n2 : b ≠ p := ne_of_none eb np0
          rw [upd_ne n1]
          exact b4 _ _ n2 (s3 _ _ (x2.gg _ _ eb))
        · by_cases hb : b = a
          · rw [hb]; exact x2.gg.free na
          · rw [upd_ne hb] at h2
            exact x2.nw b h1 h2
      · rw [upd_ne nap.symm]; exact a2p
      · rw [upd_ne hwa]; exact a2wl
      · rw [upd_ne pwl]; exact ob4
      · exact (al2.same (same_upd a2a)).app (.one (.tup upd_same ylen (al4.same (same_upd a2a))))
      · rw [List.length_append, wl2]; rfl
      · intro w hw
        rcases List.mem_append.mp hw with h | h
        · exact dep2 w h
        · rw [List.mem_singleton.mp h]; exact ⟨es, rfl, lp, l4⟩
  · have en : n = ds.length := by omega
    have e2 : readAll (readLn fmD forms) ds 0 = .inl ws := by
      rw [ra, en, List.drop_length]
      show Sum.inl (ws ++ []) = _
      rw [List.append_nil]
    rw [e2] at q
    have q : wish E A0 H C_BadLine C_BadOrder C_Orders Q (resW ws) := q
    unfold resW at q
    have deep : deepD (.list ws) = .tuple ws := congrArg PyData.tuple (deeps_id fun d hd => (dep2 d hd).deep)
    have dp : (PyData.list ws).depth ≤ 2 := by
      have := deps_of fun d hd => (dep2 d hd).dep
      show PyData.depthAll ws + 1 ≤ 2
      omega
    have lay : (PyData.list ws).canLay0 = true := by
      simp only [PyData.canLay0]
      exact lays_of fun d hd => (dep2 d hd).lay
    have x3 := x2.show hwl sa hwl2
    have at3 : At (upd A2 wl (.lst xs)) (.ref wl) (.list ws) := At.mkLst upd_same (al2.same (same_upd a2wl)) (by omega)
    generalize upd A2 wl (.lst xs) = A3 at *
    walk_at "go"
    intro p5 dx5 np5 ndx5 ne5
    walk_at "go"
    have sH : Same H2 (upd (upd H2 dx5 (.own p5)) p5 (.ins C_Orders dx5 [])) := (same_upd ndx5).trans (same_upd ((upd_ne ne5.symm).trans np5))
    refine ⟨A3, p5, dx5, _, rfl, x3.ag.trans sH, x3.ag.free np5, upd_same, at3, by omega, lay, ?_⟩
    rw [deep]
    cases eb : badO (.tuple ws) with
    | some k =>
      rw [eb] at q
      exact Rz.mono q (x3.gg.trans sH)
    | none =>
      rw [eb] at q
      intro A4 H4 t4 ds4 ed s4 s5 b4 nw4 n4 hp4 at4
      cases ed
      obtain ⟨x4, s6⟩ := made_ext x3.ag np5 ndx5 ne5 s4 s5 b4 nw4 n4 hp4
      exact ⟨rfl, q _ _ p5 dx5 t4 (x3.trans x4) upd_same (at4.same s6)⟩
end
end K43
namespace K43
open PySem PySem.Spec PyProof.Rows L2 Fg
local macro_rules | `(tactic| walk_at "sq") => `(tactic| first
  | assumption
  | exact .inl (.inl (by assumption))
  | exact .inl (.inl upd_same))
local macro_rules | `(tactic| walk_at "st") => `(tactic| first
  | assumption
  | exact .inl (.inl (by assumption))
  | exact .inl (.inl upd_same))
local macro_rules | `(tactic| walk_at "o") => `(tactic| first
  | omega
  | assumption
  | (simp only [List.length_append, List.length_take, List.length_drop, List.length_cons, List.length_nil, List.length_singleton, List.length_map, List.length_range, Int.toNat_natCast] ; omega))
local macro_rules | `(tactic| walk_at "s") => `(tactic| first
  | (with_reducible refine i_seq ?_)
  | (with_reducible refine i_asg ?_)
  | ((with_reducible refine' i_var ?h1 ?_); (case h1 => rfl))
  | (with_reducible refine i_c ?_)
  | ((with_reducible refine' i_gname' ?h1 ?_); (case h1 => (simp only [List.set_cons_zero, List.set_cons_succ]; rfl)))
  | (with_reducible refine i_op ?_)
  | (with_reducible refine i_ifS ?_)
  | (with_reducible refine i_for ?_)
  | (with_reducible refine i_test ?_)
  | (with_reducible refine i_B ?_)
  | (with_reducible refine i_exbl ?_)
  | (with_reducible refine i_exint ?_)
  | (with_reducible refine i_cb ?_)
  | (with_reducible refine i_nil ?_)
  | (with_reducible refine i_cons ?_)
  | (with_reducible refine i_ret ?_)
  | (with_reducible refine i_sl ?_)
  | (with_reducible refine i_nopart ?_)
  | (with_reducible refine i_part ?_)
  | (with_reducible refine i_add_int ?_)
  | (with_reducible refine i_sub ?_)
  | (with_reducible refine i_lt ?_)
  | ((with_reducible refine' i_mod ?h1 ?_); (case h1 => walk_at "o"))
  | ((with_reducible refine' i_fdiv ?h1 ?_); (case h1 => (refine cdiv_small ?_ ?_ <;> walk_at "o")))
  | ((with_reducible refine' i_sl_to ?h1 ?h2 ?_); (case h1 => walk_at "o"); (case h2 => walk_at "o"))
  | ((with_reducible refine' i_sl_from ?h1 ?h2 ?_); (case h1 => walk_at "o"); (case h2 => walk_at "o"))
  | ((with_reducible refine' i_add_str ?h1 ?_); (case h1 => walk_at "o"))
  | ((with_reducible refine' i_mul_int ?h1 ?_); (case h1 => first | (refine mul_small ?_ ?_ <;> walk_at "o") | (refine mul_smallR ?_ ?_ <;> walk_at "o")))
  | (with_reducible refine i_le ?_)
  | (with_reducible refine i_gt ?_)
  | (with_reducible refine i_ge ?_)
  | (with_reducible refine i_eq_int ?_)
  | (with_reducible refine i_eq_str ?_)
  | (with_reducible refine i_ne_int ?_)
  | (with_reducible refine i_ne_str ?_)
  | (with_reducible refine i_eq_bl ?_)
  | (with_reducible refine i_ne_bl ?_)
  | (with_reducible refine i_in_sg ?_)
  | (with_reducible refine i_notIn_sg ?_)
  | (with_reducible refine i_call ?_)
  | (with_reducible refine i_callS ?_)
  | (with_reducible refine i_sp1 ?_)
  | (with_reducible refine i_sp2 ?_)
  | (with_reducible refine i_sp3 ?_)
  | (with_reducible refine i_sp4 ?_)
  | (with_reducible refine i_sp1' ?_)
  | (with_reducible refine i_sp2' ?_)
  | (with_reducible refine i_sp3' ?_)
  | ((with_reducible refine' i_ix_lst ?h1 ?h2 ?_); (case h1 => walk_at "sq"); (case h2 => first | exact atI_nat rfl | rfl))
  | ((with_reducible refine' i_ix_tup ?h1 ?h2 ?_); (case h1 => walk_at "st"); (case h2 => first | exact atI_nat rfl | rfl))
  | (with_reducible refine i_gsub ?_)
  | (with_reducible refine i_par ?_)
  | (with_reducible refine i_lstRg1 ?_)
  | (with_reducible refine i_app ?_)
  | (with_reducible refine i_par2 ?_)
  | ((with_reducible refine' i_aug ?h1 ?_); (case h1 => rfl))
  | (with_reducible refine i_ipI ?_)
  | ((with_reducible refine' i_gtup2 ?h1 ?_); (case h1 => walk_at "st"))
  | (with_reducible refine i_int_bl ?_)
  | (with_reducible refine i_raise ?_)
  | (with_reducible refine i_mkE ?_)
  | (with_reducible refine i_ex1 ?_)
  | (with_reducible refine i_and ?_)
  | (with_reducible refine i_or ?_)
  | (with_reducible refine i_not ?_)
  | (with_reducible refine i_tt ?_)
  | (with_reducible refine i_ff ?_)
  | (with_reducible refine i_nott ?_)
  | (with_reducible refine i_notf ?_)
  | (with_reducible refine i_andV ?_)
  | (with_reducible refine i_orV ?_)
  | (with_reducible refine i_notV ?_)
  | (with_reducible refine i_ifE ?_)
  | (with_reducible refine i_tup ?_)
  | (with_reducible refine i_lst ?_)
  | (with_reducible refine i_un ?_)
  | (with_reducible refine i_neg ?_)
  | (with_reducible refine i_chain ?_)
  | (with_reducible refine i_next ?_)
  | (with_reducible refine i_retN ?_)
  | (with_reducible refine i_drop ?_)
  | (with_reducible refine i_int_int ?_)
  | (with_reducible refine i_abs ?_)
  | (with_reducible refine i_m1c ?_)
  | (with_reducible refine i_is_non ?_)
  | (with_reducible refine i_is_int ?_)
  | (with_reducible refine i_is_bl ?_)
  | (with_reducible refine i_isn_bl ?_)
  | (with_reducible refine i_is_str ?_)
  | (with_reducible refine i_is_ref ?_)
  | (with_reducible refine i_isn_non ?_)
  | (with_reducible refine i_isn_int ?_)
  | (with_reducible refine i_isn_str ?_)
  | (with_reducible refine i_isn_ref ?_)
  | (with_reducible refine i_len_str ?h1 ?_; (case h1 => walk_at "o"))
  | (with_reducible refine i_callD ?_)
  | (with_reducible refine i_spD2 ?_)
  | (with_reducible refine i_spM1 ?_)
  | (with_reducible refine i_spM2 ?_)
  | (with_reducible refine i_spM3 ?_)
  | (with_reducible refine i_spM4 ?_)
  | (with_reducible refine i_spM3d ?_)
  | (with_reducible refine i_tfld ?_)
  | (with_reducible refine i_sfld ?_)
  | (with_reducible refine i_meth ?_)
  | (with_reducible refine i_make ?_)
  | (with_reducible refine i_spl ?_)
  | (with_reducible refine i_mkE2 ?_)
  | (with_reducible refine i_ex2 ?_)
  | (with_reducible refine i_dget ?_)
  | (with_reducible refine i_tru ?_)
  | (with_reducible refine i_dput ?_)
  | (with_reducible refine i_dnotin ?_)
  | (with_reducible refine i_din ?_)
  | (with_reducible refine i_rev ?_)
  | (with_reducible refine i_isi_int_int ?_) | (with_reducible refine i_isi_int_bool ?_) | (with_reducible refine i_isi_int_str ?_) | (with_reducible refine i_isi_int_tuple ?_) | (with_reducible refine i_isi_int_list ?_)
  | (with_reducible refine i_isi_bl_int ?_) | (with_reducible refine i_isi_bl_bool ?_) | (with_reducible refine i_isi_bl_str ?_) | (with_reducible refine i_isi_bl_tuple ?_) | (with_reducible refine i_isi_bl_list ?_)
  | (with_reducible refine i_isi_str_int ?_) | (with_reducible refine i_isi_str_bool ?_) | (with_reducible refine i_isi_str_str ?_) | (with_reducible refine i_isi_str_tuple ?_) | (with_reducible refine i_isi_str_list ?_)
  | (with_reducible refine i_isi_non_int ?_) | (with_reducible refine i_isi_non_bool ?_) | (with_reducible refine i_isi_non_str ?_) | (with_reducible refine i_isi_non_tuple ?_) | (with_reducible refine i_isi_non_list ?_))
local macro_rules | `(tactic| walk_at "go") => `(tactic| (repeat' (walk_at "s")))
local macro_rules | `(tactic| walk_at "n") => `(tactic| simp only [wipe, List.map_cons, List.map_nil, List.set_cons_zero, List.set_cons_succ])
theorem PartF.ok {e : PyData} (h : PartF e) (k : ∀ i, e = .int i → i < 100) : okT e := by
  rcases h with ⟨l, rfl, h1, _⟩ | ⟨i, rfl, h0, _⟩
  · show l.length ≤ 100
    omega
  · exact ⟨h0, k i rfl⟩
/-- lines whose parts can be written -/
def LineT (d : PyData) : Prop := ∃ es, d = .tuple es ∧ (∀ e ∈ es, okT e) ∧ es.length ≤ 4
def lineW : PyData → List Nat
  | .tuple ds => lineD ds
  | _ => []
section
variable {P : Program} {w : World} {K : PySem.W.Frag} {mg : Str → Option Value} {base : Heap} {C_GlimError C_BadLine C_BadOrder C_NoLine C_Lines C_Orders C_WORDS : Addr}
def p_order_line : P1 := fun x H Q _ => ∃ A es, Same A H ∧ At A x (.tuple es) ∧ es.length ≤ 4 ∧ (∀ e ∈ es, okT e) ∧ ∀ H', Same H H' → Q (S (lineD es)) H'
theorem ok_order_line (T : Txt K mg C_GlimError C_BadLine C_BadOrder C_NoLine C_Lines C_Orders C_WORDS) : OK P w K mg base CX0 1 "order_line" ["order"] (sp1  p_order_line) := by
  refine OK.mk (k := 0) T.d_order_line sc_order_line len1 fun f cdv A outer s H vs Q E hr h => ?_
  obtain ⟨x, rfl, h⟩ := h
  refine ⟨_, (pss_one (ps_ret (peJoin K (pe_S [32]) (pe_lc (own := [("part", 1)]) (g := gName 1) (tt := tYes) (by rfl) sc_order_line.nd (piAny K (pv 0)) (blkOk_by (own := [("part", 1)]) (N := ["order", "part"]) (sc := (defScope s_order_line)) (by decide +kernel)) (fun _ _ _ _ _ => (pg_name (i := 1) sc_order_line.nd rfl (Or.inl rfl))) (fun _ _ _ _ _ => pts_nil) (fun _ _ _ _ _ => (pe_callTy call_strP (by rfl) T.b_str (by decide +kernel) (pa_cons (pv 1) pa_nil))))))), ?_⟩
  show (_ : TS) { nx := fun _ H' => Q .non H', rt := Q } [some x, none] H
  obtain ⟨A0, ds, sa, hx, hl3, hok, q⟩ := h
  obtain ⟨a, xs, rfl, hH, hl, al⟩ := hx.tupled
  walk_at "go"
  refine c_tupD sa (fun R k => by walk_at "go"; exact k) (.inl (.inl (sa _ _ hH))) al hl (fun d => dS (txD d)) (fun _ => rfl) (fun y d A1 G1 hd hy y1 QV k => ?_) (fun Dl A1 G1 l y1 e ea al2 ll => ?_)
  · show (_ : TE) [some (.ref a), some y] G1 QV
    have ok := hok d hd
    have len := okT_len ok
    walk_at "go"
    exact i_strPt ok (hy.same y1.ag) (k _ _ _ (Ext.refl y1.ag) (.str _ (by omega)))
  · have el : l = (ds.map txD).map S := by
      have al3 : AtAll A1 l ((ds.map txD).map dS) := by rw [List.map_map]; exact al2
      exact strs_of al3
    rw [el] at e
    walk_at "go"
    refine i_joinG (.inl (.inl e)) ?_ ?_
    · have := tx_sum ds hok
      rw [List.length_map]
      show _ + ds.length * 1 ≤ 100000
      omega
    · exact q _ y1.gg
def p_write_orders (C : Addr) : P1 := fun x H Q _ => ∃ A p dx t ds, x = .ref p ∧ Same A H ∧ H p = some (.ins C dx (OF t)) ∧ At A (.ref t) (.tuple ds) ∧ (∀ d ∈ ds, LineT d) ∧ ds.length ≤ 100 ∧
  ∀ A' H' v, Ext A H A' H' → At A' v (.tuple (ds.map fun d => dS (lineW d))) → Q v H'
theorem ok_write_orders (T : Txt K mg C_GlimError C_BadLine C_BadOrder C_NoLine C_Lines C_Orders C_WORDS) : OK P w K mg base CX0 2 "write_orders" ["orders"] (sp1  (p_write_orders C_Orders)) := by
  refine OK.mk (k := 1) T.d_write_orders sc_write_orders len1 fun f cdv A outer s H vs Q E hr h => ?_
  obtain ⟨x, rfl, h⟩ := h
  refine ⟨_, (pss_one (ps_ret (pe_callTy (cTup K) (by rfl) T.b_tuple (by decide +kernel) (pa_cons (pe_lc (own := [("order", 1)]) (g := gName 1) (tt := tYes) (by rfl) sc_write_orders.nd (piAny K (peFld K (pv 0))) (blkOk_by (own := [("order", 1)]) (N := ["orders", "order"]) (sc := (defScope s_write_orders)) (by decide +kernel)) (fun _ _ _ _ _ => (pg_name (i := 1) sc_write_orders.nd rfl (Or.inl rfl))) (fun _ _ _ _ _ => pts_nil) (fun _ _ _ _ _ => (pe_f (ok_order_line (K := K) T) (hr.mono (by decide)) pass0 (pa_cons (pv 1) pa_nil)))) pa_nil)))), ?_⟩
  show (_ : TS) { nx := fun _ H' => Q .non H', rt := Q } [some x, none] H
  obtain ⟨A0, p, dx, t, ds, rfl, sa, hp, hx, hok, hl, q⟩ := h
  obtain ⟨_, xs, e0, hH, hl0, al⟩ := hx.tupled
  cases e0
  walk_at "go"
  refine c_tupD sa (fun R k => by walk_at "go"; refine i_fld hp T.cl_Orders T.na_Orders_lines (OF_at t) ?_; exact k) (.inl (.inl (sa _ _ hH))) al hl0 (fun d => dS (lineW d)) (fun _ => rfl) (fun y d A1 G1 hd hy y1 QV k => ?_) (fun Dl A1 G1 l y1 e ea al2 ll => ?_)
  · show (_ : TE) [some (.ref p), some y] G1 QV
    obtain ⟨es, rfl, ok, l4⟩ := hok d hd
    have len := line_len1 ok
    walk_at "go"
    refine ⟨A1, es, y1.ag, hy, l4, ok, fun H4 s4 => ?_⟩
    exact k A1 H4 _ ⟨Same.refl _, y1.ag.trans s4, s4, fun b h1 h2 => absurd h1 h2⟩ (.str _ (by show (lineD es).length ≤ 10000; omega))
  · walk_at "go"
    refine i_tuple_lst (.inl (.inl e)) fun tl ntl => ?_
    have na : A1 tl = none := y1.ag.free ntl
    exact q _ _ _ (y1.new ntl) (At.mkTup upd_same (al2.same (same_upd na)) (by rw [List.length_map]; omega))
end
end K43
namespace K43
open PySem PySem.Spec PyProof.Rows L2 Fg
local macro_rules | `(tactic| walk_at "sq") => `(tactic| first
  | assumption
  | exact .inl (.inl (by assumption))
  | exact .inl (.inl upd_same))
local macro_rules | `(tactic| walk_at "st") => `(tactic| first
  | assumption
  | exact .inl (.inl (by assumption))
  | exact .inl (.inl upd_same))
local macro_rules | `(tactic| walk_at "o") => `(tactic| first
  | omega
  | assumption
  | (simp only [List.length_append, List.length_take, List.length_drop, List.length_cons, List.length_nil, List.length_singleton, List.length_map, List.length_range, Int.toNat_natCast] ; omega))
local macro_rules | `(tactic| walk_at "s") => `(tactic| first
  | (with_reducible refine i_seq ?_)
  | (with_reducible refine i_asg ?_)
  | ((with_reducible refine' i_var ?h1 ?_); (case h1 => rfl))
  | (with_reducible refine i_c ?_)
  | ((with_reducible refine' i_gname' ?h1 ?_); (case h1 => (simp only [List.set_cons_zero, List.set_cons_succ]; rfl)))
  | (with_reducible refine i_op ?_)
  | (with_reducible refine i_ifS ?_)
  | (with_reducible refine i_for ?_)
  | (with_reducible refine i_test ?_)
  | (with_reducible refine i_B ?_)
  | (with_reducible refine i_exbl ?_)
  | (with_reducible refine i_exint ?_)
  | (with_reducible refine i_cb ?_)
  | (with_reducible refine i_nil ?_)
  | (with_reducible refine i_cons ?_)
  | (with_reducible refine i_ret ?_)
  | (with_reducible refine i_sl ?_)
  | (with_reducible refine i_nopart ?_)
  | (with_reducible refine i_part ?_)
  | (with_reducible refine i_add_int ?_)
  | (with_reducible refine i_sub ?_)
  | (with_reducible refine i_lt ?_)
  | ((with_reducible refine' i_mod ?h1 ?_); (case h1 => walk_at "o"))
  | ((with_reducible refine' i_fdiv ?h1 ?_); (case h1 => (refine cdiv_small ?_ ?_ <;> walk_at "o")))
  | ((with_reducible refine' i_sl_to ?h1 ?h2 ?_); (case h1 => walk_at "o"); (case h2 => walk_at "o"))
  | ((with_reducible refine' i_sl_from ?h1 ?h2 ?_); (case h1 => walk_at "o"); (case h2 => walk_at "o"))
  | ((with_reducible refine' i_add_str ?h1 ?_); (case h1 => walk_at "o"))
  | ((with_reducible refine' i_mul_int ?h1 ?_); (case h1 => first | (refine mul_small ?_ ?_ <;> walk_at "o") | (refine mul_smallR ?_ ?_ <;> walk_at "o")))
  | (with_reducible refine i_le ?_)
  | (with_reducible refine i_gt ?_)
  | (with_reducible refine i_ge ?_)
  | (with_reducible refine i_eq_int ?_)
  | (with_reducible refine i_eq_str ?_)
  | (with_reducible refine i_ne_int ?_)
  | (with_reducible refine i_ne_str ?_)
  | (with_reducible refine i_eq_bl ?_)
  | (with_reducible refine i_ne_bl ?_)
  | (with_reducible refine i_in_sg ?_)
  | (with_reducible refine i_notIn_sg ?_)
  | (with_reducible refine i_call ?_)
  | (with_reducible refine i_callS ?_)
  | (with_reducible refine i_sp1 ?_)
  | (with_reducible refine i_sp2 ?_)
  | (with_reducible refine i_sp3 ?_)
  | (with_reducible refine i_sp4 ?_)
  | (with_reducible refine i_sp1' ?_)
  | (with_reducible refine i_sp2' ?_)
  | (with_reducible refine i_sp3' ?_)
  | ((with_reducible refine' i_ix_lst ?h1 ?h2 ?_); (case h1 => walk_at "sq"); (case h2 => first | exact atI_nat rfl | rfl))
  | ((with_reducible refine' i_ix_tup ?h1 ?h2 ?_); (case h1 => walk_at "st"); (case h2 => first | exact atI_nat rfl | rfl))
  | (with_reducible refine i_gsub ?_)
  | (with_reducible refine i_par ?_)
  | (with_reducible refine i_lstRg1 ?_)
  | (with_reducible refine i_app ?_)
  | (with_reducible refine i_par2 ?_)
  | ((with_reducible refine' i_aug ?h1 ?_); (case h1 => rfl))
  | (with_reducible refine i_ipI ?_)
  | ((with_reducible refine' i_gtup2 ?h1 ?_); (case h1 => walk_at "st"))
  | (with_reducible refine i_int_bl ?_)
  | (with_reducible refine i_raise ?_)
  | (with_reducible refine i_mkE ?_)
  | (with_reducible refine i_ex1 ?_)
  | (with_reducible refine i_and ?_)
  | (with_reducible refine i_or ?_)
  | (with_reducible refine i_not ?_)
  | (with_reducible refine i_tt ?_)
  | (with_reducible refine i_ff ?_)
  | (with_reducible refine i_nott ?_)
  | (with_reducible refine i_notf ?_)
  | (with_reducible refine i_andV ?_)
  | (with_reducible refine i_orV ?_)
  | (with_reducible refine i_notV ?_)
  | (with_reducible refine i_ifE ?_)
  | (with_reducible refine i_tup ?_)
  | (with_reducible refine i_lst ?_)
  | (with_reducible refine i_un ?_)
  | (with_reducible refine i_neg ?_)
  | (with_reducible refine i_chain ?_)
  | (with_reducible refine i_next ?_)
  | (with_reducible refine i_retN ?_)
  | (with_reducible refine i_drop ?_)
  | (with_reducible refine i_int_int ?_)
  | (with_reducible refine i_abs ?_)
  | (with_reducible refine i_m1c ?_)
  | (with_reducible refine i_is_non ?_)
  | (with_reducible refine i_is_int ?_)
  | (with_reducible refine i_is_bl ?_)
  | (with_reducible refine i_isn_bl ?_)
  | (with_reducible refine i_is_str ?_)
  | (with_reducible refine i_is_ref ?_)
  | (with_reducible refine i_isn_non ?_)
  | (with_reducible refine i_isn_int ?_)
  | (with_reducible refine i_isn_str ?_)
  | (with_reducible refine i_isn_ref ?_)
  | (with_reducible refine i_len_str ?h1 ?_; (case h1 => walk_at "o"))
  | (with_reducible refine i_callD ?_)
  | (with_reducible refine i_spD2 ?_)
  | (with_reducible refine i_spM1 ?_)
  | (with_reducible refine i_spM2 ?_)
  | (with_reducible refine i_spM3 ?_)
  | (with_reducible refine i_spM4 ?_)
  | (with_reducible refine i_spM3d ?_)
  | (with_reducible refine i_tfld ?_)
  | (with_reducible refine i_sfld ?_)
  | (with_reducible refine i_meth ?_)
  | (with_reducible refine i_make ?_)
  | (with_reducible refine i_spl ?_)
  | (with_reducible refine i_mkE2 ?_)
  | (with_reducible refine i_ex2 ?_)
  | (with_reducible refine i_dget ?_)
  | (with_reducible refine i_tru ?_)
  | (with_reducible refine i_dput ?_)
  | (with_reducible refine i_dnotin ?_)
  | (with_reducible refine i_din ?_)
  | (with_reducible refine i_rev ?_)
  | (with_reducible refine i_isi_int_int ?_) | (with_reducible refine i_isi_int_bool ?_) | (with_reducible refine i_isi_int_str ?_) | (with_reducible refine i_isi_int_tuple ?_) | (with_reducible refine i_isi_int_list ?_)
  | (with_reducible refine i_isi_bl_int ?_) | (with_reducible refine i_isi_bl_bool ?_) | (with_reducible refine i_isi_bl_str ?_) | (with_reducible refine i_isi_bl_tuple ?_) | (with_reducible refine i_isi_bl_list ?_)
  | (with_reducible refine i_isi_str_int ?_) | (with_reducible refine i_isi_str_bool ?_) | (with_reducible refine i_isi_str_str ?_) | (with_reducible refine i_isi_str_tuple ?_) | (with_reducible refine i_isi_str_list ?_)
  | (with_reducible refine i_isi_non_int ?_) | (with_reducible refine i_isi_non_bool ?_) | (with_reducible refine i_isi_non_str ?_) | (with_reducible refine i_isi_non_tuple ?_) | (with_reducible refine i_isi_non_list ?_))
local macro_rules | `(tactic| walk_at "go") => `(tactic| (repeat' (walk_at "s")))
local macro_rules | `(tactic| walk_at "n") => `(tactic| simp only [wipe, List.map_cons, List.map_nil, List.set_cons_zero, List.set_cons_succ])
theorem eqv_empty (l : List Nat) : PyData.eqv (.list (l.map fun c => dS [c])) (.list []) = decide (l = []) := by
  cases l with
  | nil => rfl
  | cons c r =>
    rw [decide_eq_false (by simp)]
    rfl
theorem lay_signs {l : List Nat} (h : ∀ c ∈ l, c < 0x110000) : PyData.canLayAll0 (l.map fun c => dS [c]) = true := by
  induction l with
  | nil => rfl
  | cons c r ih =>
    have h1 : (dS [c]).canLay0 = true := by
      simp only [PyData.canLay0]
      exact strOk_small fun x hx => by rw [List.mem_singleton.mp hx]; exact h c (List.mem_cons_self ..)
    simp only [List.map_cons, PyData.canLayAll0, h1, Bool.true_and]
    exact ih fun x hx => h x (List.mem_cons_of_mem _ hx)
theorem dp_signs {K : PySem.W.Frag} {H : Hp} (l : List Nat) : DpAll K H (l.map fun c => S [c]) (l.map fun c => dS [c]) := by
  induction l with
  | nil => exact .nil
  | cons c r ih => exact .cons (.str _) ih
theorem deps_signs (l : List Nat) : PyData.depthAll (l.map fun c => dS [c]) = 0 := by
  induction l with
  | nil => rfl
  | cons c r ih =>
    show max 0 (PyData.depthAll (r.map fun c => dS [c])) = 0
    rw [ih]; rfl
/-- what stands behind the word -/
def formsT : List (List Nat × V) := [(cWait, S [115, 116]), (cCount, S [115, 115, 116]), (cPass, S [116]), (cMore, S [116, 108]), (cLast, S [115, 108]), (cGo, S [108]), (cName, S [110]), (cSkip, S [])]
def formL (l : List Nat) : Option (List Nat) :=
  if l = cWait then some [115, 116] else if l = cCount then some [115, 115, 116] else if l = cPass then some [116] else if l = cMore then some [116, 108] else
  if l = cLast then some [115, 108] else if l = cGo then some [108] else if l = cName then some [110] else if l = cSkip then some [] else none
def formD : PyData → Option (List Nat)
  | .str x => formL x.cps.toList
  | _ => none
def optS : Option (List Nat) → V
  | none => .non
  | some l => S l
theorem look_form (l : List Nat) : (lookT formsT l).getD .non = optS (formL l) := by
  have e : lookT formsT l = if l = cSkip then some (S []) else if l = cName then some (S [110]) else if l = cGo then some (S [108]) else if l = cLast then some (S [115, 108]) else if l = cMore then some (S [116, 108]) else
      if l = cPass then some (S [116]) else if l = cCount then some (S [115, 115, 116]) else if l = cWait then some (S [115, 116]) else none := rfl
  rw [e]
  unfold formL
  by_cases h1 : l = cWait
  · subst h1; rfl
  by_cases h2 : l = cCount
  · subst h2; rfl
  by_cases h3 : l = cPass
  · subst h3; rfl
  by_cases h4 : l = cMore
  · subst h4; rfl
  by_cases h5 : l = cLast
  · subst h5; rfl
  by_cases h6 : l = cGo
  · subst h6; rfl
  by_cases h7 : l = cName
  · subst h7; rfl
  by_cases h8 : l = cSkip
  · subst h8; rfl
  rw [if_neg h1, if_neg h2, if_neg h3, if_neg h4, if_neg h5, if_neg h6, if_neg h7, if_neg h8, if_neg h8, if_neg h7, if_neg h6, if_neg h5, if_neg h4, if_neg h3, if_neg h2, if_neg h1]
  rfl
section
variable {P : Program} {w : World} {K : PySem.W.Frag} {mg : Str → Option Value} {base : Heap} {C_GlimError C_BadLine C_BadOrder C_NoLine C_Lines C_Orders C_WORDS : Addr}
def p_L_is_name : P1 := fun x H Q _ => ∃ d, At H x d ∧ d.canLay0 = true ∧ ∀ H', Same H H' → Q (.bl (isNm d)) H'
theorem ok_L_is_name (T : Txt K mg C_GlimError C_BadLine C_BadOrder C_NoLine C_Lines C_Orders C_WORDS) : OK P w K mg base CX0 1 "_law_is_name" ["_law_thing"] (sp1  p_L_is_name) := by
  refine OK.mk (k := 0) T.d_L_is_name sc_L_is_name len1 fun f cdv A outer s H vs Q E hr h => ?_
  obtain ⟨x, rfl, h⟩ := h
  refine ⟨_, (pss_cons (ps_if (pw_or (pt_not (pt_val (pe_callB (cIsi K) (by rfl) T.b_isinstance (by decide +kernel) (pa_cons (pv 0) (pa_cons (pe_bltn (v := .ty "str") (by rfl) T.b_str (by decide +kernel) rfl) pa_nil))))) (pw_or1 (pt_not (pt_chain op_leP op_leP pe_int (pe_callB (cLen K) (by rfl) T.b_len (by decide +kernel) (pa_cons (pv 0) pa_nil)) pe_int)))).pt (pss_one (ps_ret pe_bl)) pss_nil) (pss_one (ps_ret (pe_cmpR (opEq K hr.units) (pe_lc (own := [("_law_sign", 1)]) (g := gName 1) (by rfl) sc_L_is_name.nd (piAny K (pv 0)) (blkOk_by (own := [("_law_sign", 1)]) (N := ["_law_thing", "_law_sign"]) (sc := (defScope s_L_is_name)) (by decide +kernel)) (fun _ _ _ _ _ => (pg_name (i := 1) sc_L_is_name.nd rfl (Or.inl rfl))) (fun _ _ _ _ _ => (pts_one (pt_cmpR (opNotIn K) (pv 1) (pe_S [97, 98, 99, 100, 101, 102, 103, 104, 105, 106, 107, 108, 109, 110, 111, 112, 113, 114, 115, 116, 117, 118, 119, 120, 121, 122, 48, 49, 50, 51, 52, 53, 54, 55, 56, 57]) (by with_unfolding_all rfl)))) (fun _ _ _ _ _ => (pv 1))) (pe_lst pa_nil) (nomark _))))), ?_⟩
  show (_ : TS) { nx := fun _ H' => Q .non H', rt := Q } [some x, none] H
  obtain ⟨d, hx, lay, q⟩ := h
  have q0 := q H (Same.refl H)
  cases d
  case str z =>
    obtain ⟨l, rfl, rfl, hl⟩ := hx.strl
    replace q : ∀ H', Same H H' → Q (.bl (isMkL l && decide (l ≠ []))) H' := q
    have small := small_strOk (by simpa only [PyData.canLay0] using lay)
    unfold isMkL at q
    have bad : ¬ (1 ≤ l.length ∧ l.length ≤ 8) → Q (.bl false) H := fun h => by
      have := q H (Same.refl H)
      by_cases h8 : l.length ≤ 8
      · have e : l = [] := List.length_eq_zero_iff.mp (by omega)
        rw [decide_eq_false (show ¬ l ≠ [] from fun z => z e), Bool.and_false] at this
        exact this
      · rw [decide_eq_false h8, Bool.false_and, Bool.false_and] at this
        exact this
    walk_at "go"
    refine i_dec (fun e1 => ?_) (fun e1 => ?_)
    rotate_left
    · walk_at "go"
      exact bad (by omega)
    walk_at "go"
    refine i_decN (fun e2 => ?_) (fun e2 => ?_)
    · walk_at "go"
      exact bad (by omega)
    rw [decide_eq_true (show l.length ≤ 8 by omega), Bool.true_and, decide_eq_true (show l ≠ [] from fun z => by rw [z] at e1; simp at e1), Bool.and_true] at q
    walk_at "go"
    refine c_strF (z := l) (fun c => !decide (c ∈ MK)) (fun R k => by walk_at "go"; exact k) (by omega) (fun _ => rfl) (fun c H2 hc s2 QB k => ?_) (fun c H2 hc s2 QV k => ?_) (fun Dl H2 n2 s2 d2 => ?_)
    · show (_ : TT) [some (S l), some (S [c])] H2 QB
      walk_at "go"
      exact k H2 (Same.refl H2)
    · show (_ : TE) [some (S l), some (S [c])] H2 QV
      walk_at "go"
      exact k H2 (Same.refl H2)
    · walk_at "go"
      refine i_new (by show 0 ≤ 100000; omega) fun p np => ?_
      have hsub : ∀ c ∈ l.filter fun c => !decide (c ∈ MK), c < 0x110000 := fun c hc => small c (List.mem_filter.mp hc).1
      have e3 : (l.filter fun c => !decide (c ∈ MK)) = [] ↔ (l.all fun c => decide (c ∈ MK)) = true := by
        rw [List.filter_eq_nil_iff, List.all_eq_true]
        constructor
        · intro h c hc
          exact decide_eq_true (Decidable.byContradiction fun n => h c hc (by rw [decide_eq_false n]; rfl))
        · intro h c hc hn
          rw [decide_eq_true (of_decide_eq_true (h c hc))] at hn
          cases hn
      have sh : SeqAt.shaped (.list ((l.filter fun c => !decide (c ∈ MK)).map fun c => dS [c])) = true := by
        unfold SeqAt.shaped
        rw [Bool.and_eq_true]
        refine ⟨by simp only [PyData.canLay0]; exact lay_signs hsub, decide_eq_true ?_⟩
        show PyData.depthAll _ + 1 ≤ 64
        rw [deps_signs]; decide
      have ep : Dl ≠ p := ne_of_none d2 np
      refine i_eq_data (.lst (.inl (.inl ((upd_ne ep).trans d2))) (dp_signs _)) (.lst (.inl (.inl upd_same)) .nil) sh (by decide) (eqv_empty _) ?_
      have e4 : decide ((l.filter fun c => !decide (c ∈ MK)) = []) = (l.all fun c => decide (c ∈ MK)) := by
        rw [Bool.eq_iff_iff, decide_eq_true_eq]; exact e3
      rw [e4]
      exact q _ (s2.trans (same_upd np))
  all_goals
    walk_at "go"
    refine i_isiStr false hx rfl ?_
    walk_at "go"
    exact q0
def p_L_is_signs : P1 := fun x H Q _ => ∃ d, At H x d ∧ ∀ H', Same H H' → Q (.bl (isSgs d)) H'
theorem ok_L_is_signs (T : Txt K mg C_GlimError C_BadLine C_BadOrder C_NoLine C_Lines C_Orders C_WORDS) : OK P w K mg base CX0 1 "_law_is_signs" ["_law_thing"] (sp1  p_L_is_signs) := by
  refine OK.mk (k := 0) T.d_L_is_signs sc_L_is_signs len1 fun f cdv A outer s H vs Q E hr h => ?_
  obtain ⟨x, rfl, h⟩ := h
  refine ⟨_, (pss_cons (ps_if (pw_or (pt_not (pt_val (pe_callB (cIsi K) (by rfl) T.b_isinstance (by decide +kernel) (pa_cons (pv 0) (pa_cons (pe_bltn (v := .ty "str") (by rfl) T.b_str (by decide +kernel) rfl) pa_nil))))) (pw_or1 (pt_cmpR (opEq K hr.units) (pv 0) (pe_S []) (nomark _)))).pt (pss_one (ps_ret pe_bl)) pss_nil) (pss_one (ps_ret (pe_cmpR (opEq K hr.units) (pv 0) (peJoin K (pe_S []) (pe_lc (own := [("_law_sign", 1)]) (g := gName 1) (by rfl) sc_L_is_signs.nd (piAny K (pe_S [46, 103, 114, 119])) (blkOk_by (own := [("_law_sign", 1)]) (N := ["_law_thing", "_law_sign"]) (sc := (defScope s_L_is_signs)) (by decide +kernel)) (fun _ _ _ _ _ => (pg_name (i := 1) sc_L_is_signs.nd rfl (Or.inl rfl))) (fun _ _ _ _ _ => (pts_one (pt_cmpR (opIn K) (pv 1) (pv 0) (by with_unfolding_all rfl)))) (fun _ _ _ _ _ => (pv 1)))) (nomark _))))), ?_⟩
  show (_ : TS) { nx := fun _ H' => Q .non H', rt := Q } [some x, none] H
  obtain ⟨d, hx, q⟩ := h
  have q0 := q H (Same.refl H)
  cases d
  case str z =>
    obtain ⟨l, rfl, rfl, hl⟩ := hx.strl
    replace q : ∀ H', Same H H' → Q (.bl (sgsL l)) H' := q
    unfold sgsL at q
    walk_at "go"
    refine i_dec (fun e => ?_) (fun e => ?_)
    · walk_at "go"
      have := q H (Same.refl H)
      rw [decide_eq_false (show ¬ l ≠ [] from fun z => z e), Bool.false_and] at this
      exact this
    rw [decide_eq_true (show l ≠ [] from e)] at q
    walk_at "go"
    refine c_strF (z := SG) (fun c => decide (c ∈ l)) (fun R k => by walk_at "go"; exact k) (by decide) (fun _ => rfl) (fun c H2 hc s2 QB k => ?_) (fun c H2 hc s2 QV k => ?_) (fun Dl H2 n2 s2 d2 => ?_)
    · show (_ : TT) [some (S l), some (S [c])] H2 QB
      walk_at "go"
      exact k H2 (Same.refl H2)
    · show (_ : TE) [some (S l), some (S [c])] H2 QV
      walk_at "go"
      exact k H2 (Same.refl H2)
    · walk_at "go"
      refine i_join1 (.inl (.inl d2)) ?_ ?_
      · have := List.length_filter_le (fun c => decide (c ∈ l)) SG
        have : SG.length = 4 := rfl
        omega
      · walk_at "go"
        exact q H2 s2
  all_goals
    walk_at "go"
    refine i_isiStr false hx rfl ?_
    walk_at "go"
    exact q0
def p_L_form : P1 := fun x H Q _ => ∃ d, At H x d ∧ ∀ H', Same H H' → Q (optS (formD d)) H'
theorem ok_L_form (T : Txt K mg C_GlimError C_BadLine C_BadOrder C_NoLine C_Lines C_Orders C_WORDS) : OK P w K mg base CX0 1 "_law_form" ["_law_word"] (sp1  p_L_form) := by
  refine OK.mk (k := 0) T.d_L_form sc_L_form len1 fun f cdv A outer s H vs Q E hr h => ?_
  obtain ⟨x, rfl, h⟩ := h
  refine ⟨_, (pss_cons (ps_set (i := 1) sc_L_form.nd rfl (Or.inl rfl) (pe_disp (pps_cons (pe_S [119, 97, 105, 116]) (pe_S [115, 116]) (pps_cons (pe_S [99, 111, 117, 110, 116]) (pe_S [115, 115, 116]) (pps_cons (pe_S [112, 97, 115, 115]) (pe_S [116]) (pps_cons (pe_S [109, 111, 114, 101]) (pe_S [116, 108]) (pps_cons (pe_S [108, 97, 115, 116]) (pe_S [115, 108]) (pps_cons (pe_S [103, 111]) (pe_S [108]) (pps_cons (pe_S [110, 97, 109, 101]) (pe_S [110]) (pps_cons (pe_S [115, 107, 105, 112]) (pe_S []) pps_nil)))))))) (by rfl) (by rfl) (fun z => by cases z) (by decide))) (pss_cons (ps_if (pt_not (pt_val (pe_callB (cIsi K) (by rfl) T.b_isinstance (by decide +kernel) (pa_cons (pv 0) (pa_cons (pe_bltn (v := .ty "str") (by rfl) T.b_str (by decide +kernel) rfl) pa_nil))))) (pss_one (ps_ret pe_non)) pss_nil) (pss_one (ps_ret (pe_dget1 (hu_of hr) (pv 1) (pv 0) ⟨by rfl, by rfl, by rfl, by rfl⟩))))), ?_⟩
  show (_ : TS) { nx := fun _ H' => Q .non H', rt := Q } [some x, none] H
  obtain ⟨d, hx, q⟩ := h
  walk_at "go"
  refine i_dispT formsT (by decide) fun p o np td => ?_
  have sp := same_upd (o := o) np
  have hx' := hx.same sp
  walk_at "go"
  cases d
  case str z =>
    obtain ⟨l, rfl, rfl, hl⟩ := hx.strl
    walk_at "go"
    refine i_dget1 ?_
    walk_at "go"
    refine ⟨p, rfl, td_isD td, ?_⟩
    walk_at "go"
    refine td_get1 td ?_
    rw [look_form]
    exact q _ sp
  all_goals
    refine i_isiStr false hx' rfl ?_
    walk_at "go"
    exact q _ sp
end
/-! ### words and their forms -/
def code : Fm → Nat
  | .t => 116
  | .l => 108
  | .sg => 115
  | .nm => 110
theorem form_code (w : List Nat) : formL w = (forms w).map fun fs => fs.map code := by
  unfold formL forms
  by_cases h1 : w = cWait
  · rw [if_pos h1, if_pos h1]; rfl
  rw [if_neg h1, if_neg h1]
  by_cases h2 : w = cCount
  · rw [if_pos h2, if_pos h2]; rfl
  rw [if_neg h2, if_neg h2]
  by_cases h3 : w = cPass
  · rw [if_pos h3, if_pos h3]; rfl
  rw [if_neg h3, if_neg h3]
  by_cases h4 : w = cMore
  · rw [if_pos h4, if_pos h4]; rfl
  rw [if_neg h4, if_neg h4]
  by_cases h5 : w = cLast
  · rw [if_pos h5, if_pos h5]; rfl
  rw [if_neg h5, if_neg h5]
  by_cases h6 : w = cGo
  · rw [if_pos h6, if_pos h6]; rfl
  rw [if_neg h6, if_neg h6]
  by_cases h7 : w = cName
  · rw [if_pos h7, if_pos h7]; rfl
  rw [if_neg h7, if_neg h7]
  by_cases h8 : w = cSkip
  · rw [if_pos h8, if_pos h8]; rfl
  rw [if_neg h8, if_neg h8]
  rfl
def optI : Option Int → V
  | none => .non
  | some v => .int v
open PySem.NumText (AllDigits digitsVal)
theorem numL_of {w : List Nat} (h1 : 1 ≤ w.length) (h2 : w.length ≤ 2) (hd : ∀ c ∈ w, c ∈ DG) (h0 : ¬ (w.length = 2 ∧ w.head? = some 48)) : numL w = true := by
  unfold numL
  rw [decide_eq_true h1, decide_eq_true (show w.length ≤ 9 by omega), List.all_eq_true.mpr fun c hc => decide_eq_true (hd c hc), Bool.and_self, Bool.and_self, Bool.true_and, Bool.or_eq_true, decide_eq_true_eq, decide_eq_true_eq]
  match w, h1, h2, h0 with
  | [c], _, _, _ =>
    by_cases e : c = 48
    · left; rw [e]
    · right; simpa using e
  | [c, d], _, _, h0 =>
    right
    intro e
    exact h0 ⟨rfl, e⟩
theorem num_long {w : List Nat} (h : numL w = true) (hl : 2 < w.length) : 100 ≤ digitsVal w := by
  obtain ⟨h1, _, _, h4⟩ := numL_digits h
  match w, h1, h4, hl with
  | a :: b :: c :: r, h1, h4, _ =>
    have ha := h1 a (by simp)
    have h5 : a ≠ 48 := by
      rcases h4 with z | z
      · simp at z
      · simpa using z
    have := fold_ge r (((0 * 10 + (a - 48)) * 10 + (b - 48)) * 10 + (c - 48))
    show 100 ≤ r.foldl _ (((0 * 10 + (a - 48)) * 10 + (b - 48)) * 10 + (c - 48))
    omega
theorem numIn_no {lo hi : Int} {w : List Nat} (h : numL w = false) : numIn lo hi w = none := by
  unfold numIn
  rw [if_neg (fun z => by rw [h] at z; cases z.1)]
end K43
namespace K43
open PySem PySem.Spec PyProof.Rows L2 Fg
open PySem.NumText (AllDigits digitsVal)
local macro_rules | `(tactic| walk_at "sq") => `(tactic| first
  | assumption
  | exact .inl (.inl (by assumption))
  | exact .inl (.inl upd_same))
local macro_rules | `(tactic| walk_at "st") => `(tactic| first
  | assumption
  | exact .inl (.inl (by assumption))
  | exact .inl (.inl upd_same))
local macro_rules | `(tactic| walk_at "o") => `(tactic| first
  | omega
  | assumption
  | (simp only [List.length_append, List.length_take, List.length_drop, List.length_cons, List.length_nil, List.length_singleton, List.length_map, List.length_range, Int.toNat_natCast] ; omega))
local macro_rules | `(tactic| walk_at "s") => `(tactic| first
  | (with_reducible refine i_seq ?_)
  | (with_reducible refine i_asg ?_)
  | ((with_reducible refine' i_var ?h1 ?_); (case h1 => rfl))
  | (with_reducible refine i_c ?_)
  | ((with_reducible refine' i_gname' ?h1 ?_); (case h1 => (simp only [List.set_cons_zero, List.set_cons_succ]; rfl)))
  | (with_reducible refine i_op ?_)
  | (with_reducible refine i_ifS ?_)
  | (with_reducible refine i_for ?_)
  | (with_reducible refine i_test ?_)
  | (with_reducible refine i_B ?_)
  | (with_reducible refine i_exbl ?_)
  | (with_reducible refine i_exint ?_)
  | (with_reducible refine i_cb ?_)
  | (with_reducible refine i_nil ?_)
  | (with_reducible refine i_cons ?_)
  | (with_reducible refine i_ret ?_)
  | (with_reducible refine i_sl ?_)
  | (with_reducible refine i_nopart ?_)
  | (with_reducible refine i_part ?_)
  | (with_reducible refine i_add_int ?_)
  | (with_reducible refine i_sub ?_)
  | (with_reducible refine i_lt ?_)
  | ((with_reducible refine' i_mod ?h1 ?_); (case h1 => walk_at "o"))
  | ((with_reducible refine' i_fdiv ?h1 ?_); (case h1 => (refine cdiv_small ?_ ?_ <;> walk_at "o")))
  | ((with_reducible refine' i_sl_to ?h1 ?h2 ?_); (case h1 => walk_at "o"); (case h2 => walk_at "o"))
  | ((with_reducible refine' i_sl_from ?h1 ?h2 ?_); (case h1 => walk_at "o"); (case h2 => walk_at "o"))
  | ((with_reducible refine' i_add_str ?h1 ?_); (case h1 => walk_at "o"))
  | ((with_reducible refine' i_mul_int ?h1 ?_); (case h1 => first | (refine mul_small ?_ ?_ <;> walk_at "o") | (refine mul_smallR ?_ ?_ <;> walk_at "o")))
  | (with_reducible refine i_le ?_)
  | (with_reducible refine i_gt ?_)
  | (with_reducible refine i_ge ?_)
  | (with_reducible refine i_eq_int ?_)
  | (with_reducible refine i_eq_str ?_)
  | (with_reducible refine i_ne_int ?_)
  | (with_reducible refine i_ne_str ?_)
  | (with_reducible refine i_eq_bl ?_)
  | (with_reducible refine i_ne_bl ?_)
  | (with_reducible refine i_in_sg ?_)
  | (with_reducible refine i_notIn_sg ?_)
  | (with_reducible refine i_call ?_)
  | (with_reducible refine i_callS ?_)
  | (with_reducible refine i_sp1 ?_)
  | (with_reducible refine i_sp2 ?_)
  | (with_reducible refine i_sp3 ?_)
  | (with_reducible refine i_sp4 ?_)
  | (with_reducible refine i_sp1' ?_)
  | (with_reducible refine i_sp2' ?_)
  | (with_reducible refine i_sp3' ?_)
  | ((with_reducible refine' i_ix_lst ?h1 ?h2 ?_); (case h1 => walk_at "sq"); (case h2 => first | exact atI_nat rfl | rfl))
  | ((with_reducible refine' i_ix_tup ?h1 ?h2 ?_); (case h1 => walk_at "st"); (case h2 => first | exact atI_nat rfl | rfl))
  | (with_reducible refine i_gsub ?_)
  | (with_reducible refine i_par ?_)
  | (with_reducible refine i_lstRg1 ?_)
  | (with_reducible refine i_app ?_)
  | (with_reducible refine i_par2 ?_)
  | ((with_reducible refine' i_aug ?h1 ?_); (case h1 => rfl))
  | (with_reducible refine i_ipI ?_)
  | ((with_reducible refine' i_gtup2 ?h1 ?_); (case h1 => walk_at "st"))
  | (with_reducible refine i_int_bl ?_)
  | (with_reducible refine i_raise ?_)
  | (with_reducible refine i_mkE ?_)
  | (with_reducible refine i_ex1 ?_)
  | (with_reducible refine i_and ?_)
  | (with_reducible refine i_or ?_)
  | (with_reducible refine i_not ?_)
  | (with_reducible refine i_tt ?_)
  | (with_reducible refine i_ff ?_)
  | (with_reducible refine i_nott ?_)
  | (with_reducible refine i_notf ?_)
  | (with_reducible refine i_andV ?_)
  | (with_reducible refine i_orV ?_)
  | (with_reducible refine i_notV ?_)
  | (with_reducible refine i_ifE ?_)
  | (with_reducible refine i_tup ?_)
  | (with_reducible refine i_lst ?_)
  | (with_reducible refine i_un ?_)
  | (with_reducible refine i_neg ?_)
  | (with_reducible refine i_chain ?_)
  | (with_reducible refine i_next ?_)
  | (with_reducible refine i_retN ?_)
  | (with_reducible refine i_drop ?_)
  | (with_reducible refine i_int_int ?_)
  | (with_reducible refine i_abs ?_)
  | (with_reducible refine i_m1c ?_)
  | (with_reducible refine i_is_non ?_)
  | (with_reducible refine i_is_int ?_)
  | (with_reducible refine i_is_bl ?_)
  | (with_reducible refine i_isn_bl ?_)
  | (with_reducible refine i_is_str ?_)
  | (with_reducible refine i_is_ref ?_)
  | (with_reducible refine i_isn_non ?_)
  | (with_reducible refine i_isn_int ?_)
  | (with_reducible refine i_isn_str ?_)
  | (with_reducible refine i_isn_ref ?_)
  | (with_reducible refine i_len_str ?h1 ?_; (case h1 => walk_at "o"))
  | (with_reducible refine i_callD ?_)
  | (with_reducible refine i_spD2 ?_)
  | (with_reducible refine i_spM1 ?_)
  | (with_reducible refine i_spM2 ?_)
  | (with_reducible refine i_spM3 ?_)
  | (with_reducible refine i_spM4 ?_)
  | (with_reducible refine i_spM3d ?_)
  | (with_reducible refine i_tfld ?_)
  | (with_reducible refine i_sfld ?_)
  | (with_reducible refine i_meth ?_)
  | (with_reducible refine i_make ?_)
  | (with_reducible refine i_spl ?_)
  | (with_reducible refine i_mkE2 ?_)
  | (with_reducible refine i_ex2 ?_)
  | (with_reducible refine i_dget ?_)
  | (with_reducible refine i_tru ?_)
  | (with_reducible refine i_dput ?_)
  | (with_reducible refine i_dnotin ?_)
  | (with_reducible refine i_din ?_)
  | (with_reducible refine i_rev ?_)
  | (with_reducible refine i_isi_int_int ?_) | (with_reducible refine i_isi_int_bool ?_) | (with_reducible refine i_isi_int_str ?_) | (with_reducible refine i_isi_int_tuple ?_) | (with_reducible refine i_isi_int_list ?_)
  | (with_reducible refine i_isi_bl_int ?_) | (with_reducible refine i_isi_bl_bool ?_) | (with_reducible refine i_isi_bl_str ?_) | (with_reducible refine i_isi_bl_tuple ?_) | (with_reducible refine i_isi_bl_list ?_)
  | (with_reducible refine i_isi_str_int ?_) | (with_reducible refine i_isi_str_bool ?_) | (with_reducible refine i_isi_str_str ?_) | (with_reducible refine i_isi_str_tuple ?_) | (with_reducible refine i_isi_str_list ?_)
  | (with_reducible refine i_isi_non_int ?_) | (with_reducible refine i_isi_non_bool ?_) | (with_reducible refine i_isi_non_str ?_) | (with_reducible refine i_isi_non_tuple ?_) | (with_reducible refine i_isi_non_list ?_))
local macro_rules | `(tactic| walk_at "go") => `(tactic| (repeat' (walk_at "s")))
local macro_rules | `(tactic| walk_at "n") => `(tactic| simp only [wipe, List.map_cons, List.map_nil, List.set_cons_zero, List.set_cons_succ])
section
variable {P : Program} {w : World} {K : PySem.W.Frag} {mg : Str → Option Value} {base : Heap} {C_GlimError C_BadLine C_BadOrder C_NoLine C_Lines C_Orders C_WORDS : Addr}
def p_L_number : P3 := fun x y z H Q _ => ∃ w, ∃ lo hi : Int, x = S w ∧ y = .int lo ∧ z = .int hi ∧ 0 ≤ lo ∧ hi ≤ 19 ∧ w.length ≤ 10000 ∧ ∀ H', Same H H' → Q (optI (numIn lo hi w)) H'
theorem ok_L_number (T : Txt K mg C_GlimError C_BadLine C_BadOrder C_NoLine C_Lines C_Orders C_WORDS) : OK P w K mg base CX0 1 "_law_number" ["_law_word", "_law_low", "_law_high"] (sp3  p_L_number) := by
  refine OK.mk (k := 0) T.d_L_number sc_L_number len3 fun f cdv A outer s H vs Q E hr h => ?_
  obtain ⟨x, y, z, rfl, h⟩ := h
  refine ⟨_, (pss_cons (ps_if (pw_or (pt_cmpR (opEq K hr.units) (pv 0) (pe_S []) (nomark _)) (pw_or (pt_cmpR op_gtP (pe_callB (cLen K) (by rfl) T.b_len (by decide +kernel) (pa_cons (pv 0) pa_nil)) pe_int (nomark _)) (pw_or1 (ptTruth K (pe_lc (own := [("_law_sign", 3)]) (g := gName 3) (by rfl) sc_L_number.nd (piAny K (pv 0)) (blkOk_by (own := [("_law_sign", 3)]) (N := ["_law_word", "_law_low", "_law_high", "_law_sign"]) (sc := (defScope s_L_number)) (by decide +kernel)) (fun _ _ _ _ _ => (pg_name (i := 3) sc_L_number.nd rfl (Or.inl rfl))) (fun _ _ _ _ _ => (pts_one (pt_cmpR (opNotIn K) (pv 3) (pe_S [48, 49, 50, 51, 52, 53, 54, 55, 56, 57]) (by with_unfolding_all rfl)))) (fun _ _ _ _ _ => (pv 3))) (fun _ => rfl))))).pt (pss_one (ps_ret pe_non)) pss_nil) (Evl.pss_cut (ps_if (pw_and (pt_cmpR (opEq K hr.units) (pe_callB (cLen K) (by rfl) T.b_len (by decide +kernel) (pa_cons (pv 0) pa_nil)) pe_int (nomark _)) (pw_and1 (pt_cmpR (opEq K hr.units) (pe_ix (ixK K) (pv 0) pe_int (fun _ _ => rfl)) (pe_S [48]) (nomark _)))).pt (pss_one (ps_ret pe_non)) pss_nil) (pss_cons (ps_if (pt_chain op_leP op_leP (pv 1) (pe_callTy call_intTx (by rfl) T.b_int (by decide +kernel) (pa_cons (pv 0) pa_nil)) (pv 2)) (pss_one (ps_ret (pe_callTy call_intTx (by rfl) T.b_int (by decide +kernel) (pa_cons (pv 0) pa_nil)))) pss_nil) (pss_one (ps_ret pe_non))))), ?_⟩
  show (_ : TS) { nx := fun _ H' => Q .non H', rt := Q } [some x, some y, some z, none] H
  obtain ⟨w, lo, hi, rfl, rfl, rfl, h0, h19, wl, q⟩ := h
  walk_at "go"
  refine i_dec (fun e1 => ?_) (fun e1 => ?_)
  · walk_at "go"
    have := q H (Same.refl H)
    rw [numIn_no (by rw [e1]; rfl)] at this
    exact this
  walk_at "go"
  refine i_dec (fun e2 => ?_) (fun e2 => ?_)
  · walk_at "go"
    have e : numIn lo hi w = none := by
      unfold numIn
      rw [if_neg]
      rintro ⟨a, b, c⟩
      have := num_long a (by omega)
      omega
    have := q H (Same.refl H)
    rw [e] at this
    exact this
  walk_at "go"
  refine c_strF (z := w) (fun c => !decide (c ∈ DG)) (fun R k => by walk_at "go"; exact k) (by omega) (fun _ => rfl) (fun c H2 hc s2 QB k => ?_) (fun c H2 hc s2 QV k => ?_) (fun Dl H2 n2 s2 d2 => ?_)
  · show (_ : TT) [some (S w), some (.int lo), some (.int hi), some (S [c])] H2 QB
    walk_at "go"
    exact k H2 (Same.refl H2)
  · show (_ : TE) [some (S w), some (.int lo), some (.int hi), some (S [c])] H2 QV
    walk_at "go"
    exact k H2 (Same.refl H2)
  refine i_truL d2 ?_
  cases ef : w.filter fun c => !decide (c ∈ DG) with
  | cons c r =>
    have hc := List.mem_filter.mp (show c ∈ w.filter fun c => !decide (c ∈ DG) by rw [ef]; exact List.mem_cons_self ..)
    have e : numL w = false := by
      have : w.all (fun c => decide (c ∈ DG)) = false := by
        rw [List.all_eq_false]
        exact ⟨c, hc.1, by simpa using hc.2⟩
      unfold numL
      rw [this, Bool.and_false, Bool.false_and]
    show if (!(S [c] :: r.map fun c => S [c]).isEmpty) = true then _ else _
    rw [if_pos (by rfl)]
    walk_at "go"
    have := q H2 s2
    rw [numIn_no e] at this
    exact this
  | nil =>
    have hd : ∀ c ∈ w, c ∈ DG := fun c hc => Decidable.byContradiction fun n => by
      have : c ∈ w.filter fun c => !decide (c ∈ DG) := List.mem_filter.mpr ⟨hc, by rw [decide_eq_false n]; rfl⟩
      rw [ef] at this
      cases this
    have h1 : 1 ≤ w.length := by
      rcases Nat.eq_zero_or_pos w.length with z | z
      · exact absurd (List.length_eq_zero_iff.mp z) e1
      · exact z
    show if (!([] : List V).isEmpty) = true then _ else _
    rw [if_neg (by simp)]
    walk_at "go"
    refine i_cut (fun σ G => σ = [some (S w), some (.int lo), some (.int hi), none] ∧ G = H2 ∧ ¬ (w.length = 2 ∧ w.head? = some 48)) ?_ ?_
    · walk_at "go"
      refine i_dec (fun e3 => ?_) (fun e3 => ⟨rfl, rfl, fun z => e3 (by omega)⟩)
      walk_at "go"
      obtain ⟨c, hc⟩ : ∃ c, w[0]? = some c := ⟨_, List.getElem?_eq_getElem (by omega)⟩
      refine i_ix_str (by omega) (by decide) hc ?_
      walk_at "go"
      have hh : w.head? = some c := by rw [List.head?_eq_getElem?]; exact hc
      refine i_dec (fun e4 => ?_) (fun e4 => ⟨rfl, rfl, fun z => e4 (by rw [hh] at z; have := z.2; simp at this; rw [this])⟩)
      walk_at "go"
      have e : numL w = false := by
        have c48 : c = 48 := by simpa using e4
        unfold numL
        rw [decide_eq_false (show ¬ w = [48] from fun z => by rw [z] at e3; simp at e3), hh, c48, decide_eq_false (show ¬ (some 48 ≠ some 48) by simp), Bool.or_self, Bool.and_false]
      have := q H2 s2
      rw [numIn_no e] at this
      exact this
    rintro σ G ⟨rfl, rfl, h0⟩
    have en := numL_of h1 (by omega) hd h0
    obtain ⟨h3, _, _⟩ := num_one en
    have it : ∀ {Q : VK}, Q (.int ((digitsVal w : Nat) : Int)) G → rIntTx [S w] G Q := fun k => ⟨_, _, rfl, h3, by rw [str_len]; omega, k⟩
    have q := q G s2
    unfold numIn at q
    walk_at "go"
    refine it ?_
    walk_at "go"
    refine i_dec (fun e4 => ?_) (fun e4 => ?_)
    · walk_at "go"
      refine i_dec (fun e5 => ?_) (fun e5 => ?_)
      · walk_at "go"
        refine it ?_
        rw [if_pos ⟨en, e4, e5⟩] at q
        exact q
      · walk_at "go"
        rw [if_neg (fun z => e5 z.2.2)] at q
        exact q
    · walk_at "go"
      rw [if_neg (fun z => e4 z.2.1)] at q
      exact q
end
end K43
namespace K43
open PySem PySem.Spec PyProof.Rows L2 Fg
open PySem.NumText (AllDigits digitsVal)
local macro_rules | `(tactic| walk_at "sq") => `(tactic| first
  | assumption
  | exact .inl (.inl (by assumption))
  | exact .inl (.inl upd_same))
local macro_rules | `(tactic| walk_at "st") => `(tactic| first
  | assumption
  | exact .inl (.inl (by assumption))
  | exact .inl (.inl upd_same))
local macro_rules | `(tactic| walk_at "o") => `(tactic| first
  | omega
  | assumption
  | (simp only [List.length_append, List.length_take, List.length_drop, List.length_cons, List.length_nil, List.length_singleton, List.length_map, List.length_range, Int.toNat_natCast] ; omega))
local macro_rules | `(tactic| walk_at "s") => `(tactic| first
  | (with_reducible refine i_seq ?_)
  | (with_reducible refine i_asg ?_)
  | ((with_reducible refine' i_var ?h1 ?_); (case h1 => rfl))
  | (with_reducible refine i_c ?_)
  | ((with_reducible refine' i_gname' ?h1 ?_); (case h1 => (simp only [List.set_cons_zero, List.set_cons_succ]; rfl)))
  | (with_reducible refine i_op ?_)
  | (with_reducible refine i_ifS ?_)
  | (with_reducible refine i_for ?_)
  | (with_reducible refine i_test ?_)
  | (with_reducible refine i_B ?_)
  | (with_reducible refine i_exbl ?_)
  | (with_reducible refine i_exint ?_)
  | (with_reducible refine i_cb ?_)
  | (with_reducible refine i_nil ?_)
  | (with_reducible refine i_cons ?_)
  | (with_reducible refine i_ret ?_)
  | (with_reducible refine i_sl ?_)
  | (with_reducible refine i_nopart ?_)
  | (with_reducible refine i_part ?_)
  | (with_reducible refine i_add_int ?_)
  | (with_reducible refine i_sub ?_)
  | (with_reducible refine i_lt ?_)
  | ((with_reducible refine' i_mod ?h1 ?_); (case h1 => walk_at "o"))
  | ((with_reducible refine' i_fdiv ?h1 ?_); (case h1 => (refine cdiv_small ?_ ?_ <;> walk_at "o")))
  | ((with_reducible refine' i_sl_to ?h1 ?h2 ?_); (case h1 => walk_at "o"); (case h2 => walk_at "o"))
  | ((with_reducible refine' i_sl_from ?h1 ?h2 ?_); (case h1 => walk_at "o"); (case h2 => walk_at "o"))
  | ((with_reducible refine' i_add_str ?h1 ?_); (case h1 => walk_at "o"))
  | ((with_reducible refine' i_mul_int ?h1 ?_); (case h1 => first | (refine mul_small ?_ ?_ <;> walk_at "o") | (refine mul_smallR ?_ ?_ <;> walk_at "o")))
  | (with_reducible refine i_le ?_)
  | (with_reducible refine i_gt ?_)
  | (with_reducible refine i_ge ?_)
  | (with_reducible refine i_eq_int ?_)
  | (with_reducible refine i_eq_str ?_)
  | (with_reducible refine i_ne_int ?_)
  | (with_reducible refine i_ne_str ?_)
  | (with_reducible refine i_eq_bl ?_)
  | (with_reducible refine i_ne_bl ?_)
  | (with_reducible refine i_in_sg ?_)
  | (with_reducible refine i_notIn_sg ?_)
  | (with_reducible refine i_call ?_)
  | (with_reducible refine i_callS ?_)
  | (with_reducible refine i_sp1 ?_)
  | (with_reducible refine i_sp2 ?_)
  | (with_reducible refine i_sp3 ?_)
  | (with_reducible refine i_sp4 ?_)
  | (with_reducible refine i_sp1' ?_)
  | (with_reducible refine i_sp2' ?_)
  | (with_reducible refine i_sp3' ?_)
  | ((with_reducible refine' i_ix_lst ?h1 ?h2 ?_); (case h1 => walk_at "sq"); (case h2 => first | exact atI_nat rfl | rfl))
  | ((with_reducible refine' i_ix_tup ?h1 ?h2 ?_); (case h1 => walk_at "st"); (case h2 => first | exact atI_nat rfl | rfl))
  | (with_reducible refine i_gsub ?_)
  | (with_reducible refine i_par ?_)
  | (with_reducible refine i_lstRg1 ?_)
  | (with_reducible refine i_app ?_)
  | (with_reducible refine i_par2 ?_)
  | ((with_reducible refine' i_aug ?h1 ?_); (case h1 => rfl))
  | (with_reducible refine i_ipI ?_)
  | ((with_reducible refine' i_gtup2 ?h1 ?_); (case h1 => walk_at "st"))
  | (with_reducible refine i_int_bl ?_)
  | (with_reducible refine i_raise ?_)
  | (with_reducible refine i_mkE ?_)
  | (with_reducible refine i_ex1 ?_)
  | (with_reducible refine i_and ?_)
  | (with_reducible refine i_or ?_)
  | (with_reducible refine i_not ?_)
  | (with_reducible refine i_tt ?_)
  | (with_reducible refine i_ff ?_)
  | (with_reducible refine i_nott ?_)
  | (with_reducible refine i_notf ?_)
  | (with_reducible refine i_andV ?_)
  | (with_reducible refine i_orV ?_)
  | (with_reducible refine i_notV ?_)
  | (with_reducible refine i_ifE ?_)
  | (with_reducible refine i_tup ?_)
  | (with_reducible refine i_lst ?_)
  | (with_reducible refine i_un ?_)
  | (with_reducible refine i_neg ?_)
  | (with_reducible refine i_chain ?_)
  | (with_reducible refine i_next ?_)
  | (with_reducible refine i_retN ?_)
  | (with_reducible refine i_drop ?_)
  | (with_reducible refine i_int_int ?_)
  | (with_reducible refine i_abs ?_)
  | (with_reducible refine i_m1c ?_)
  | (with_reducible refine i_is_non ?_)
  | (with_reducible refine i_is_int ?_)
  | (with_reducible refine i_is_bl ?_)
  | (with_reducible refine i_isn_bl ?_)
  | (with_reducible refine i_is_str ?_)
  | (with_reducible refine i_is_ref ?_)
  | (with_reducible refine i_isn_non ?_)
  | (with_reducible refine i_isn_int ?_)
  | (with_reducible refine i_isn_str ?_)
  | (with_reducible refine i_isn_ref ?_)
  | (with_reducible refine i_len_str ?h1 ?_; (case h1 => walk_at "o"))
  | (with_reducible refine i_callD ?_)
  | (with_reducible refine i_spD2 ?_)
  | (with_reducible refine i_spM1 ?_)
  | (with_reducible refine i_spM2 ?_)
  | (with_reducible refine i_spM3 ?_)
  | (with_reducible refine i_spM4 ?_)
  | (with_reducible refine i_spM3d ?_)
  | (with_reducible refine i_tfld ?_)
  | (with_reducible refine i_sfld ?_)
  | (with_reducible refine i_meth ?_)
  | (with_reducible refine i_make ?_)
  | (with_reducible refine i_spl ?_)
  | (with_reducible refine i_mkE2 ?_)
  | (with_reducible refine i_ex2 ?_)
  | (with_reducible refine i_dget ?_)
  | (with_reducible refine i_tru ?_)
  | (with_reducible refine i_dput ?_)
  | (with_reducible refine i_dnotin ?_)
  | (with_reducible refine i_din ?_)
  | (with_reducible refine i_rev ?_)
  | (with_reducible refine i_isi_int_int ?_) | (with_reducible refine i_isi_int_bool ?_) | (with_reducible refine i_isi_int_str ?_) | (with_reducible refine i_isi_int_tuple ?_) | (with_reducible refine i_isi_int_list ?_)
  | (with_reducible refine i_isi_bl_int ?_) | (with_reducible refine i_isi_bl_bool ?_) | (with_reducible refine i_isi_bl_str ?_) | (with_reducible refine i_isi_bl_tuple ?_) | (with_reducible refine i_isi_bl_list ?_)
  | (with_reducible refine i_isi_str_int ?_) | (with_reducible refine i_isi_str_bool ?_) | (with_reducible refine i_isi_str_str ?_) | (with_reducible refine i_isi_str_tuple ?_) | (with_reducible refine i_isi_str_list ?_)
  | (with_reducible refine i_isi_non_int ?_) | (with_reducible refine i_isi_non_bool ?_) | (with_reducible refine i_isi_non_str ?_) | (with_reducible refine i_isi_non_tuple ?_) | (with_reducible refine i_isi_non_list ?_))
local macro_rules | `(tactic| walk_at "go") => `(tactic| (repeat' (walk_at "s")))
local macro_rules | `(tactic| walk_at "n") => `(tactic| simp only [wipe, List.map_cons, List.map_nil, List.set_cons_zero, List.set_cons_succ])
def badOf : List PyData ⊕ Nat → Option Nat
  | .inl _ => none
  | .inr k => some k
def oVn : Option Nat → V
  | none => .non
  | some k => .int (k : Int)
structure WOK (ws : List (List Nat)) : Prop where
  ne : ws ≠ []
  each : ∀ w ∈ ws, w.length ≤ 10000 ∧ ∀ c ∈ w, c < 256
theorem WOK.at {ws : List (List Nat)} (h : WOK ws) {k : Nat} (hk : k < ws.length) : ws[k]? = some (ws.getD k []) ∧ (ws.getD k []).length ≤ 10000 ∧ ∀ c ∈ ws.getD k [], c < 256 := by
  have e : ws[k]? = some (ws.getD k []) := by rw [List.getD_eq_getElem?_getD, List.getElem?_eq_getElem hk]; rfl
  exact ⟨e, h.each _ (List.mem_of_getElem? e)⟩
theorem lay_small {l : List Nat} (h : ∀ c ∈ l, c < 256) : (dS l).canLay0 = true := by
  simp only [PyData.canLay0]
  exact strOk_small fun c hc => Nat.lt_trans (h c hc) (by decide)
section
variable {P : Program} {w : World} {K : PySem.W.Frag} {mg : Str → Option Value} {base : Heap} {C_GlimError C_BadLine C_BadOrder C_NoLine C_Lines C_Orders C_WORDS : Addr}
def p_L_is_word : P2 := fun x y H Q _ => ∃ w f, x = S w ∧ y = S [code f] ∧ w.length ≤ 10000 ∧ (∀ c ∈ w, c < 256) ∧ ∀ H', Same H H' → Q (.bl (fmD f w).isSome) H'
theorem ok_L_is_word (T : Txt K mg C_GlimError C_BadLine C_BadOrder C_NoLine C_Lines C_Orders C_WORDS) : OK P w K mg base CX0 2 "_law_is_word" ["_law_word", "_law_part"] (sp2  p_L_is_word) := by
  refine OK.mk (k := 1) T.d_L_is_word sc_L_is_word len2 fun f cdv A outer s H vs Q E hr h => ?_
  obtain ⟨x, y, rfl, h⟩ := h
  refine ⟨_, (pss_cons (ps_if (pt_cmpR (opEq K hr.units) (pv 1) (pe_S [116]) (nomark _)) (pss_one (ps_ret (pe_cmpR op_isNotP (pe_f (ok_L_number (K := K) T) (hr.mono (by decide)) pass0 (pa_cons (pv 0) (pa_cons pe_int (pa_cons pe_int pa_nil)))) pe_non (nomark _)))) pss_nil) (pss_cons (ps_if (pt_cmpR (opEq K hr.units) (pv 1) (pe_S [108]) (nomark _)) (pss_one (ps_ret (pe_cmpR op_isNotP (pe_f (ok_L_number (K := K) T) (hr.mono (by decide)) pass0 (pa_cons (pv 0) (pa_cons pe_int (pa_cons pe_int pa_nil)))) pe_non (nomark _)))) pss_nil) (pss_cons (ps_if (pt_cmpR (opEq K hr.units) (pv 1) (pe_S [110]) (nomark _)) (pss_one (ps_ret (pe_f (ok_L_is_name (K := K) T) (hr.mono (by decide)) pass0 (pa_cons (pv 0) pa_nil)))) pss_nil) (pss_one (ps_ret (pe_f (ok_L_is_signs (K := K) T) (hr.mono (by decide)) pass0 (pa_cons (pv 0) pa_nil))))))), ?_⟩
  show (_ : TS) { nx := fun _ H' => Q .non H', rt := Q } [some x, some y] H
  obtain ⟨w, f, rfl, rfl, wl, small, q⟩ := h
  have num : ∀ {o : Option Int} {G : Hp}, Q (.bl (o.map PyData.int).isSome) G → isNotP (optI o) .non G Q := fun {o G} h => by
    cases o with
    | none => exact i_isn_non h
    | some v => exact i_isn_int h
  cases f with
  | t =>
    walk_at "go"
    refine i_yes' (show [code .t] = [116] from rfl) ?_
    walk_at "go"
    refine ⟨w, 1, 9, rfl, rfl, rfl, by decide, by decide, wl, fun H1 s1 => ?_⟩
    walk_at "go"
    exact num (q _ s1)
  | l =>
    walk_at "go"
    refine i_no' (show ¬ [code .l] = [116] by decide) ?_
    walk_at "go"
    refine i_yes' (show [code .l] = [108] from rfl) ?_
    walk_at "go"
    refine ⟨w, 0, 19, rfl, rfl, rfl, by decide, by decide, wl, fun H1 s1 => ?_⟩
    walk_at "go"
    exact num (q _ s1)
  | nm =>
    walk_at "go"
    refine i_no' (show ¬ [code .nm] = [116] by decide) ?_
    walk_at "go"
    refine i_no' (show ¬ [code .nm] = [108] by decide) ?_
    walk_at "go"
    refine i_yes' (show [code .nm] = [110] from rfl) ?_
    walk_at "go"
    refine ⟨dS w, .str w wl, lay_small small, fun H1 s1 => ?_⟩
    have := q _ s1
    rw [show (fmD .nm w).isSome = isNm (dS w) by
      show (if (isMkL w && decide (w ≠ [])) = true then some (dS w) else none).isSome = (isMkL w && decide (w ≠ []))
      cases (isMkL w && decide (w ≠ [])) <;> rfl] at this
    exact this
  | sg =>
    walk_at "go"
    refine i_no' (show ¬ [code .sg] = [116] by decide) ?_
    walk_at "go"
    refine i_no' (show ¬ [code .sg] = [108] by decide) ?_
    walk_at "go"
    refine i_no' (show ¬ [code .sg] = [110] by decide) ?_
    walk_at "go"
    refine ⟨dS w, .str w wl, fun H1 s1 => ?_⟩
    have := q _ s1
    rw [show (fmD .sg w).isSome = isSgs (dS w) by
      show (if sgsL w = true then some (dS w) else none).isSome = sgsL w
      cases sgsL w <;> rfl] at this
    exact this
def p_L_bad_word : P1 := fun x H Q _ => ∃ a ws, x = .ref a ∧ H a = some (.lst (ws.map S)) ∧ WOK ws ∧ ∀ H', Same H H' → Q (oVn (badOf (rdW fmD forms ws))) H'
theorem ok_L_bad_word (T : Txt K mg C_GlimError C_BadLine C_BadOrder C_NoLine C_Lines C_Orders C_WORDS) : OK P w K mg base CX0 3 "_law_bad_word" ["_law_words"] (sp1  p_L_bad_word) := by
  refine OK.mk (k := 2) T.d_L_bad_word sc_L_bad_word len1 fun f cdv A outer s H vs Q E hr h => ?_
  obtain ⟨x, rfl, h⟩ := h
  refine ⟨_, (pss_cons (ps_set (i := 1) sc_L_bad_word.nd rfl (Or.inl rfl) (pe_f (ok_L_form (K := K) T) (hr.mono (by decide)) pass0 (pa_cons (pe_ix (ixK K) (pv 0) pe_int (fun _ _ => rfl)) pa_nil))) (pss_cons (ps_if (pt_cmpR op_isP (pv 1) pe_non (nomark _)) (pss_one (ps_ret pe_int)) pss_nil) (pss_cons (ps_for PassesOwn.never rfl (pi_range1 rfl T.b_range (pa_cons (pe_callB (cLen K) (by rfl) T.b_len (by decide +kernel) (pa_cons (pv 1) pa_nil)) pa_nil)) (pg_name (i := 2) sc_L_bad_word.nd rfl (Or.inl rfl)) (pss_cons (ps_if (pt_cmpR op_geP (pe_op (opAdd K) (pv 2) pe_int) (pe_callB (cLen K) (by rfl) T.b_len (by decide +kernel) (pa_cons (pv 0) pa_nil)) (nomark _)) (pss_one (ps_ret (pe_callB (cLen K) (by rfl) T.b_len (by decide +kernel) (pa_cons (pv 0) pa_nil)))) pss_nil) (pss_one (ps_if (pt_not (pt_val (pe_f (ok_L_is_word (K := K) T) (hr.mono (by decide)) pass0 (pa_cons (pe_ix (ixK K) (pv 0) (pe_op (opAdd K) (pv 2) pe_int) (fun _ _ => rfl)) (pa_cons (pe_ix (ixK K) (pv 1) (pv 2) (fun _ _ => rfl)) pa_nil))))) (pss_one (ps_ret (pe_op (opAdd K) (pv 2) pe_int))) pss_nil)))) (pss_cons (ps_if (pt_cmpR op_gtP (pe_callB (cLen K) (by rfl) T.b_len (by decide +kernel) (pa_cons (pv 0) pa_nil)) (pe_op (opAdd K) pe_int (pe_callB (cLen K) (by rfl) T.b_len (by decide +kernel) (pa_cons (pv 1) pa_nil))) (nomark _)) (pss_one (ps_ret (pe_op (opAdd K) pe_int (pe_callB (cLen K) (by rfl) T.b_len (by decide +kernel) (pa_cons (pv 1) pa_nil))))) pss_nil) (pss_one (ps_ret pe_non)))))), ?_⟩
  show (_ : TS) { nx := fun _ H' => Q .non H', rt := Q } [some x, none, none] H
  obtain ⟨a, ws, rfl, ha, ok, q⟩ := h
  have wp : 0 < ws.length := List.length_pos_iff.mpr ok.ne
  obtain ⟨e0, l0, c0⟩ := ok.at wp
  have ix : ∀ {k : Nat} {G : Hp} {R : VK}, k < ws.length → Same H G → R (S (ws.getD k [])) G → ixP K (.ref a) (.int (k : Int)) G R := fun hk s r =>
    i_ix_lst (.inl (.inl (s _ _ ha))) (atI_nat (by rw [List.getElem?_map, (ok.at hk).1]; rfl)) r
  have len : (ws.map S).length = ws.length := List.length_map ..
  walk_at "go"
  refine ix (k := 0) wp (Same.refl _) ?_
  walk_at "go"
  refine ⟨dS (ws.getD 0 []), .str _ l0, fun H1 s1 => ?_⟩
  cases hf : forms (ws.getD 0 []) with
  | none =>
    have ef : formD (dS (ws.getD 0 [])) = none := by
      show formL (ws.getD 0 []) = none
      rw [form_code, hf]; rfl
    rw [ef]
    have := q H1 s1
    rw [rdW_none fmD hf] at this
    unfold optS
    walk_at "go"
    exact this
  | some fs =>
    have ef : formD (dS (ws.getD 0 [])) = some (fs.map code) := by
      show formL (ws.getD 0 []) = _
      rw [form_code, hf]; rfl
    rw [ef]
    rw [rdW_some fmD hf] at q
    have fl := (forms_some hf).2
    unfold optS
    walk_at "go"
    generalize hR : badOf (rdk fmD ws 1 [dS (ws.getD 0 [])] fs) = R at *
    refine f_rng1 fs.length (fun R k => by walk_at "go"; rw [List.length_map]; exact k) (by omega) (fun i σ G => ∃ v2 dn, σ = [some (.ref a), some (S (fs.map code)), v2] ∧ Same H G ∧ badOf (rdk fmD ws (1 + i) dn (fs.drop i)) = R) ⟨none, _, rfl, s1, hR⟩ ?_ ?_
    · rintro i σ G hi ⟨v2, dn, rfl, s2, hR2⟩
      show (_ : TS) _ [some (.ref a), some (S (fs.map code)), some (.int (i : Int))] G
      rw [List.drop_eq_getElem_cons hi] at hR2
      have hg : (fs.map code)[i]? = some (code fs[i]) := by rw [List.getElem?_map, List.getElem?_eq_getElem hi]; rfl
      generalize fs[i] = f at *
      walk_at "go"
      refine i_len_lst (.inl (.inl (s2 _ _ ha))) ?_
      walk_at "go"
      rw [len]
      refine i_dec (fun e1 => ?_) (fun e1 => ?_)
      · rw [rdk_short (by omega)] at hR2
        walk_at "go"
        refine i_len_lst (.inl (.inl (s2 _ _ ha))) ?_
        rw [len]
        have := q G s2
        rw [← hR2] at this
        exact this
      have hk : 1 + i < ws.length := by omega
      obtain ⟨ek, lk, ck⟩ := ok.at hk
      walk_at "go"
      rw [show (i : Int) + 1 = ((1 + i : Nat) : Int) by omega]
      refine ix hk s2 ?_
      walk_at "go"
      refine i_ix_str (by rw [List.length_map]; omega) (by omega) (by rw [Int.toNat_natCast]; exact hg) ?_
      walk_at "go"
      refine ⟨_, f, rfl, rfl, lk, ck, fun G2 s3 => ?_⟩
      refine ⟨_, rfl, ?_⟩
      have s23 := s2.trans s3
      cases e : fmD f (ws.getD (1 + i) []) with
      | none =>
        rw [rdk_bad hk e] at hR2
        rw [if_pos (by rfl)]
        walk_at "go"
        have := q G2 s23
        rw [← hR2] at this
        have e2 : (i : Int) + 1 = ((1 + i : Nat) : Int) := by omega
        rw [e2]
        exact this
      | some d =>
        rw [rdk_ok hk e] at hR2
        rw [if_neg (by simp)]
        walk_at "go"
        exact ⟨_, _, rfl, s23, hR2⟩
    · rintro σ G ⟨v2, dn, rfl, s2, hR2⟩
      rw [List.drop_length, rdk_end] at hR2
      walk_at "go"
      refine i_len_lst (.inl (.inl (s2 _ _ ha))) ?_
      walk_at "go"
      rw [len, List.length_map]
      refine i_dec (fun e1 => ?_) (fun e1 => ?_)
      · rw [if_pos (by omega)] at hR2
        walk_at "go"
        rw [List.length_map]
        have := q G s2
        rw [← hR2] at this
        have e2 : (1 : Int) + (fs.length : Int) = ((1 + fs.length : Nat) : Int) := by omega
        rw [e2]
        exact this
      · rw [if_neg (by omega)] at hR2
        walk_at "go"
        have := q G s2
        rw [← hR2] at this
        exact this
end
end K43
namespace K43
open PySem PySem.Spec PyProof.Rows L2 Fg
open PySem.NumText (AllDigits digitsVal)
local macro_rules | `(tactic| walk_at "sq") => `(tactic| first
  | assumption
  | exact .inl (.inl (by assumption))
  | exact .inl (.inl upd_same))
local macro_rules | `(tactic| walk_at "st") => `(tactic| first
  | assumption
  | exact .inl (.inl (by assumption))
  | exact .inl (.inl upd_same))
local macro_rules | `(tactic| walk_at "o") => `(tactic| first
  | omega
  | assumption
  | (simp only [List.length_append, List.length_take, List.length_drop, List.length_cons, List.length_nil, List.length_singleton, List.length_map, List.length_range, Int.toNat_natCast] ; omega))
local macro_rules | `(tactic| walk_at "s") => `(tactic| first
  | (with_reducible refine i_seq ?_)
  | (with_reducible refine i_asg ?_)
  | ((with_reducible refine' i_var ?h1 ?_); (case h1 => rfl))
  | (with_reducible refine i_c ?_)
  | ((with_reducible refine' i_gname' ?h1 ?_); (case h1 => (simp only [List.set_cons_zero, List.set_cons_succ]; rfl)))
  | (with_reducible refine i_op ?_)
  | (with_reducible refine i_ifS ?_)
  | (with_reducible refine i_for ?_)
  | (with_reducible refine i_test ?_)
  | (with_reducible refine i_B ?_)
  | (with_reducible refine i_exbl ?_)
  | (with_reducible refine i_exint ?_)
  | (with_reducible refine i_cb ?_)
  | (with_reducible refine i_nil ?_)
  | (with_reducible refine i_cons ?_)
  | (with_reducible refine i_ret ?_)
  | (with_reducible refine i_sl ?_)
  | (with_reducible refine i_nopart ?_)
  | (with_reducible refine i_part ?_)
  | (with_reducible refine i_add_int ?_)
  | (with_reducible refine i_sub ?_)
  | (with_reducible refine i_lt ?_)
  | ((with_reducible refine' i_mod ?h1 ?_); (case h1 => walk_at "o"))
  | ((with_reducible refine' i_fdiv ?h1 ?_); (case h1 => (refine cdiv_small ?_ ?_ <;> walk_at "o")))
  | ((with_reducible refine' i_sl_to ?h1 ?h2 ?_); (case h1 => walk_at "o"); (case h2 => walk_at "o"))
  | ((with_reducible refine' i_sl_from ?h1 ?h2 ?_); (case h1 => walk_at "o"); (case h2 => walk_at "o"))
  | ((with_reducible refine' i_add_str ?h1 ?_); (case h1 => walk_at "o"))
  | ((with_reducible refine' i_mul_int ?h1 ?_); (case h1 => first | (refine mul_small ?_ ?_ <;> walk_at "o") | (refine mul_smallR ?_ ?_ <;> walk_at "o")))
  | (with_reducible refine i_le ?_)
  | (with_reducible refine i_gt ?_)
  | (with_reducible refine i_ge ?_)
  | (with_reducible refine i_eq_int ?_)
  | (with_reducible refine i_eq_str ?_)
  | (with_reducible refine i_ne_int ?_)
  | (with_reducible refine i_ne_str ?_)
  | (with_reducible refine i_eq_bl ?_)
  | (with_reducible refine i_ne_bl ?_)
  | (with_reducible refine i_in_sg ?_)
  | (with_reducible refine i_notIn_sg ?_)
  | (with_reducible refine i_call ?_)
  | (with_reducible refine i_callS ?_)
  | (with_reducible refine i_sp1 ?_)
  | (with_reducible refine i_sp2 ?_)
  | (with_reducible refine i_sp3 ?_)
  | (with_reducible refine i_sp4 ?_)
  | (with_reducible refine i_sp1' ?_)
  | (with_reducible refine i_sp2' ?_)
  | (with_reducible refine i_sp3' ?_)
  | ((with_reducible refine' i_ix_lst ?h1 ?h2 ?_); (case h1 => walk_at "sq"); (case h2 => first | exact atI_nat rfl | rfl))
  | ((with_reducible refine' i_ix_tup ?h1 ?h2 ?_); (case h1 => walk_at "st"); (case h2 => first | exact atI_nat rfl | rfl))
  | (with_reducible refine i_gsub ?_)
  | (with_reducible refine i_par ?_)
  | (with_reducible refine i_lstRg1 ?_)
  | (with_reducible refine i_app ?_)
  | (with_reducible refine i_par2 ?_)
  | ((with_reducible refine' i_aug ?h1 ?_); (case h1 => rfl))
  | (with_reducible refine i_ipI ?_)
  | ((with_reducible refine' i_gtup2 ?h1 ?_); (case h1 => walk_at "st"))
  | (with_reducible refine i_int_bl ?_)
  | (with_reducible refine i_raise ?_)
  | (with_reducible refine i_mkE ?_)
  | (with_reducible refine i_ex1 ?_)
  | (with_reducible refine i_and ?_)
  | (with_reducible refine i_or ?_)
  | (with_reducible refine i_not ?_)
  | (with_reducible refine i_tt ?_)
  | (with_reducible refine i_ff ?_)
  | (with_reducible refine i_nott ?_)
  | (with_reducible refine i_notf ?_)
  | (with_reducible refine i_andV ?_)
  | (with_reducible refine i_orV ?_)
  | (with_reducible refine i_notV ?_)
  | (with_reducible refine i_ifE ?_)
  | (with_reducible refine i_tup ?_)
  | (with_reducible refine i_lst ?_)
  | (with_reducible refine i_un ?_)
  | (with_reducible refine i_neg ?_)
  | (with_reducible refine i_chain ?_)
  | (with_reducible refine i_next ?_)
  | (with_reducible refine i_retN ?_)
  | (with_reducible refine i_drop ?_)
  | (with_reducible refine i_int_int ?_)
  | (with_reducible refine i_abs ?_)
  | (with_reducible refine i_m1c ?_)
  | (with_reducible refine i_is_non ?_)
  | (with_reducible refine i_is_int ?_)
  | (with_reducible refine i_is_bl ?_)
  | (with_reducible refine i_isn_bl ?_)
  | (with_reducible refine i_is_str ?_)
  | (with_reducible refine i_is_ref ?_)
  | (with_reducible refine i_isn_non ?_)
  | (with_reducible refine i_isn_int ?_)
  | (with_reducible refine i_isn_str ?_)
  | (with_reducible refine i_isn_ref ?_)
  | (with_reducible refine i_len_str ?h1 ?_; (case h1 => walk_at "o"))
  | (with_reducible refine i_callD ?_)
  | (with_reducible refine i_spD2 ?_)
  | (with_reducible refine i_spM1 ?_)
  | (with_reducible refine i_spM2 ?_)
  | (with_reducible refine i_spM3 ?_)
  | (with_reducible refine i_spM4 ?_)
  | (with_reducible refine i_spM3d ?_)
  | (with_reducible refine i_tfld ?_)
  | (with_reducible refine i_sfld ?_)
  | (with_reducible refine i_meth ?_)
  | (with_reducible refine i_make ?_)
  | (with_reducible refine i_spl ?_)
  | (with_reducible refine i_mkE2 ?_)
  | (with_reducible refine i_ex2 ?_)
  | (with_reducible refine i_dget ?_)
  | (with_reducible refine i_tru ?_)
  | (with_reducible refine i_dput ?_)
  | (with_reducible refine i_dnotin ?_)
  | (with_reducible refine i_din ?_)
  | (with_reducible refine i_rev ?_)
  | (with_reducible refine i_isi_int_int ?_) | (with_reducible refine i_isi_int_bool ?_) | (with_reducible refine i_isi_int_str ?_) | (with_reducible refine i_isi_int_tuple ?_) | (with_reducible refine i_isi_int_list ?_)
  | (with_reducible refine i_isi_bl_int ?_) | (with_reducible refine i_isi_bl_bool ?_) | (with_reducible refine i_isi_bl_str ?_) | (with_reducible refine i_isi_bl_tuple ?_) | (with_reducible refine i_isi_bl_list ?_)
  | (with_reducible refine i_isi_str_int ?_) | (with_reducible refine i_isi_str_bool ?_) | (with_reducible refine i_isi_str_str ?_) | (with_reducible refine i_isi_str_tuple ?_) | (with_reducible refine i_isi_str_list ?_)
  | (with_reducible refine i_isi_non_int ?_) | (with_reducible refine i_isi_non_bool ?_) | (with_reducible refine i_isi_non_str ?_) | (with_reducible refine i_isi_non_tuple ?_) | (with_reducible refine i_isi_non_list ?_))
local macro_rules | `(tactic| walk_at "go") => `(tactic| (repeat' (walk_at "s")))
local macro_rules | `(tactic| walk_at "n") => `(tactic| simp only [wipe, List.map_cons, List.map_nil, List.set_cons_zero, List.set_cons_succ])
theorem num_of {f : Fm} {w : List Nat} {d : PyData} (hf : f = .t ∨ f = .l) (h : fmD f w = some d) : numL w = true ∧ d = .int (digitsVal w : Int) := by
  have num : ∀ {lo hi : Int}, (numIn lo hi w).map PyData.int = some d → numL w = true ∧ d = .int (digitsVal w : Int) := fun h => by
    obtain ⟨v, hv, rfl⟩ := Option.map_eq_some_iff.mp h
    unfold numIn at hv
    split at hv
    · rename_i z; cases hv; exact ⟨z.1, rfl⟩
    · cases hv
  rcases hf with rfl | rfl <;> exact num h
theorem txt_of {f : Fm} {w : List Nat} {d : PyData} (h1 : f ≠ .t) (h2 : f ≠ .l) (h : fmD f w = some d) : d = dS w := by
  cases f with
  | t => exact absurd rfl h1
  | l => exact absurd rfl h2
  | sg =>
    have h' : (if sgsL w = true then some (dS w) else none) = some d := h
    split at h'
    · cases h'; rfl
    · cases h'
  | nm =>
    have h' : (if (isMkL w && decide (w ≠ [])) = true then some (dS w) else none) = some d := h
    split at h'
    · cases h'; rfl
    · cases h'
section
variable {P : Program} {w : World} {K : PySem.W.Frag} {mg : Str → Option Value} {base : Heap} {C_GlimError C_BadLine C_BadOrder C_NoLine C_Lines C_Orders C_WORDS : Addr}
def p_L_line : P1 := fun x H Q _ => ∃ A a ws es, x = .ref a ∧ Same A H ∧ H a = some (.lst (ws.map S)) ∧ WOK ws ∧ rdW fmD forms ws = .inl es ∧ ∀ A' H' t, Ext A H A' H' → At A' (.ref t) (.tuple es) → Q (.ref t) H'
theorem ok_L_line (T : Txt K mg C_GlimError C_BadLine C_BadOrder C_NoLine C_Lines C_Orders C_WORDS) : OK P w K mg base CX0 2 "_law_line" ["_law_words"] (sp1  p_L_line) := by
  refine OK.mk (k := 1) T.d_L_line sc_L_line len1 fun f cdv A outer s H vs Q E hr h => ?_
  obtain ⟨x, rfl, h⟩ := h
  refine ⟨_, (pss_cons (ps_set (i := 1) sc_L_line.nd rfl (Or.inl rfl) (pe_f (ok_L_form (K := K) T) (hr.mono (by decide)) pass0 (pa_cons (pe_ix (ixK K) (pv 0) pe_int (fun _ _ => rfl)) pa_nil))) (pss_cons (ps_set (i := 2) sc_L_line.nd rfl (Or.inl rfl) (pe_lst (pa_cons (pe_ix (ixK K) (pv 0) pe_int (fun _ _ => rfl)) pa_nil))) (pss_cons (ps_for PassesOwn.never rfl (pi_range1 rfl T.b_range (pa_cons (pe_callB (cLen K) (by rfl) T.b_len (by decide +kernel) (pa_cons (pv 1) pa_nil)) pa_nil)) (pg_name (i := 3) sc_L_line.nd rfl (Or.inl rfl)) (pss_one (ps_if (pw_or (pt_cmpR (opEq K hr.units) (pe_ix (ixK K) (pv 1) (pv 3) (fun _ _ => rfl)) (pe_S [116]) (nomark _)) (pw_or1 (pt_cmpR (opEq K hr.units) (pe_ix (ixK K) (pv 1) (pv 3) (fun _ _ => rfl)) (pe_S [108]) (nomark _)))).pt (pss_one (ps_expr (peApp K (pv 2) (pa_cons (pe_callTy call_intTx (by rfl) T.b_int (by decide +kernel) (pa_cons (pe_ix (ixK K) (pv 0) (pe_op (opAdd K) (pv 3) pe_int) (fun _ _ => rfl)) pa_nil)) pa_nil)))) (pss_one (ps_expr (peApp K (pv 2) (pa_cons (pe_ix (ixK K) (pv 0) (pe_op (opAdd K) (pv 3) pe_int) (fun _ _ => rfl)) pa_nil))))))) (pss_one (ps_ret (pe_callTy (cTup K) (by rfl) T.b_tuple (by decide +kernel) (pa_cons (pv 2) pa_nil))))))), ?_⟩
  show (_ : TS) { nx := fun _ H' => Q .non H', rt := Q } [some x, none, none, none] H
  obtain ⟨A0, a, ws, es, rfl, sa, ha, ok, hr, q⟩ := h
  have wp : 0 < ws.length := List.length_pos_iff.mpr ok.ne
  obtain ⟨e0, l0, c0⟩ := ok.at wp
  have ix : ∀ {k : Nat} {G : Hp} {R : VK}, k < ws.length → Same H G → R (S (ws.getD k [])) G → ixP K (.ref a) (.int (k : Int)) G R := fun hk s r =>
    i_ix_lst (.inl (.inl (s _ _ ha))) (atI_nat (by rw [List.getElem?_map, (ok.at hk).1]; rfl)) r
  walk_at "go"
  refine ix (k := 0) wp (Same.refl _) ?_
  walk_at "go"
  refine ⟨dS (ws.getD 0 []), .str _ l0, fun H1 s1 => ?_⟩
  cases hf : forms (ws.getD 0 []) with
  | none => rw [rdW_none fmD hf] at hr; cases hr
  | some fs =>
    have ef : formD (dS (ws.getD 0 [])) = some (fs.map code) := by
      show formL (ws.getD 0 []) = _
      rw [form_code, hf]; rfl
    rw [ef]
    rw [rdW_some fmD hf] at hr
    have fl := (forms_some hf).2
    unfold optS
    walk_at "go"
    refine ix (k := 0) wp s1 ?_
    walk_at "go"
    refine i_new (by show 1 ≤ 100000; omega) fun ln nln => ?_
    walk_at "go"
    have hln := s1.free nln
    refine f_rng1 fs.length (fun R k => by walk_at "go"; rw [List.length_map]; exact k) (by omega) (fun i σ G => ∃ v3 xs dn, σ = [some (.ref a), some (S (fs.map code)), some (.ref ln), v3] ∧ Same H G ∧ G ln = some (.lst xs) ∧ (∀ B, AtAll B xs dn) ∧ xs.length = 1 + i ∧ rdk fmD ws (1 + i) dn (fs.drop i) = .inl es) ⟨none, _, _, rfl, s1.trans (same_upd nln), upd_same, fun B => .one (.str _ l0), rfl, hr⟩ ?_ ?_
    · rintro i σ G hi ⟨v3, xs, dn, rfl, s2, hl, al, xl, hR⟩
      show (_ : TS) _ [some (.ref a), some (S (fs.map code)), some (.ref ln), some (.int (i : Int))] G
      rw [List.drop_eq_getElem_cons hi] at hR
      have hg : (fs.map code)[i]? = some (code fs[i]) := by rw [List.getElem?_map, List.getElem?_eq_getElem hi]; rfl
      generalize fs[i] = f at *
      have hk : 1 + i < ws.length := Decidable.byContradiction fun n => by
        rw [rdk_short n] at hR; cases hR
      obtain ⟨ek, lk, ck⟩ := ok.at hk
      cases e : fmD f (ws.getD (1 + i) []) with
      | none => rw [rdk_bad hk e] at hR; cases hR
      | some d =>
        rw [rdk_ok hk e] at hR
        have app : ∀ {v : V}, (∀ B, At B v d) → ∃ v3' xs' dn', ([some (.ref a), some (S (fs.map code)), some (.ref ln), some (.int (i : Int))] : L2.St) = [some (.ref a), some (S (fs.map code)), some (.ref ln), v3'] ∧ Same H (upd G ln (.lst (xs ++ [v]))) ∧ (upd G ln (.lst (xs ++ [v]))) ln = some (.lst xs') ∧ (∀ B, AtAll B xs' dn') ∧ xs'.length = 1 + (i + 1) ∧ rdk fmD ws (1 + (i + 1)) dn' (fs.drop (i + 1)) = .inl es := fun {v} hv =>
          ⟨_, _, _, rfl, Same.upd s2 hln, upd_same, fun B => (al B).app (.one (hv B)), by rw [List.length_append, xl]; rfl, hR⟩
        walk_at "go"
        refine i_ix_str (by rw [List.length_map]; omega) (by omega) (by rw [Int.toNat_natCast]; exact hg) ?_
        walk_at "go"
        have number : f = .t ∨ f = .l → ∀ {R : VK}, R (.int (digitsVal (ws.getD (1 + i) []) : Int)) G → rIntTx [S (ws.getD (1 + i) [])] G R := fun h => by
          intro R k
          obtain ⟨n1, n2⟩ := num_of h e
          obtain ⟨h3, _, _⟩ := num_one n1
          have h9 := (numL_digits n1).2.2.1
          exact ⟨_, _, rfl, h3, by rw [str_len]; omega, k⟩
        have numApp : f = .t ∨ f = .l → ∀ B, At B (.int (digitsVal (ws.getD (1 + i) []) : Int)) d := fun h B => by
          rw [(num_of h e).2]; exact .int _
        have i1 : (i : Int) + 1 = ((1 + i : Nat) : Int) := by omega
        refine i_dec (fun e1 => ?_) (fun e1 => ?_)
        · have hft : f = .t := by cases f <;> first | rfl | (exfalso; revert e1; decide)
          walk_at "go"
          refine i_appAt hl ?_
          walk_at "go"
          rw [i1]
          refine ix hk s2 ?_
          walk_at "go"
          refine number (.inl hft) ?_
          walk_at "go"
          refine i_appEnd hl (by omega) ?_
          exact app (numApp (.inl hft))
        walk_at "go"
        refine i_ix_str (by rw [List.length_map]; omega) (by omega) (by rw [Int.toNat_natCast]; exact hg) ?_
        walk_at "go"
        refine i_dec (fun e2 => ?_) (fun e2 => ?_)
        · have hft : f = .l := by cases f <;> first | rfl | (exfalso; revert e2; decide)
          walk_at "go"
          refine i_appAt hl ?_
          walk_at "go"
          rw [i1]
          refine ix hk s2 ?_
          walk_at "go"
          refine number (.inr hft) ?_
          walk_at "go"
          refine i_appEnd hl (by omega) ?_
          exact app (numApp (.inr hft))
        · have n1 : f ≠ .t := fun z => e1 (by rw [z]; rfl)
          have n2 : f ≠ .l := fun z => e2 (by rw [z]; rfl)
          walk_at "go"
          refine i_appAt hl ?_
          walk_at "go"
          rw [i1]
          refine ix hk s2 ?_
          walk_at "go"
          refine i_appEnd hl (by omega) ?_
          exact app fun B => by rw [txt_of n1 n2 e]; exact .str _ lk
    · rintro σ G ⟨v3, xs, dn, rfl, s2, hl, al, xl, hR⟩
      rw [List.drop_length, rdk_end] at hR
      have ed : dn = es := by
        split at hR
        · cases hR
        · cases hR; rfl
      subst ed
      walk_at "go"
      refine i_tuple_lst (.inl (.inl hl)) fun t nt => ?_
      have x0 : Ext A0 H A0 G := ⟨Same.refl _, sa.trans s2, s2, fun b h1 h2 => absurd h1 h2⟩
      exact q _ _ t (x0.new nt) (At.mkTup upd_same (al _) (by rw [← (al H).len]; omega))
end
end K43
namespace K43
open PySem PySem.Spec PyProof.Rows L2 Fg
local macro_rules | `(tactic| walk_at "sq") => `(tactic| first
  | assumption
  | exact .inl (.inl (by assumption))
  | exact .inl (.inl upd_same))
local macro_rules | `(tactic| walk_at "st") => `(tactic| first
  | assumption
  | exact .inl (.inl (by assumption))
  | exact .inl (.inl upd_same))
local macro_rules | `(tactic| walk_at "o") => `(tactic| first
  | omega
  | assumption
  | (simp only [List.length_append, List.length_take, List.length_drop, List.length_cons, List.length_nil, List.length_singleton, List.length_map, List.length_range, Int.toNat_natCast] ; omega))
local macro_rules | `(tactic| walk_at "s") => `(tactic| first
  | (with_reducible refine i_seq ?_)
  | (with_reducible refine i_asg ?_)
  | ((with_reducible refine' i_var ?h1 ?_); (case h1 => rfl))
  | (with_reducible refine i_c ?_)
  | ((with_reducible refine' i_gname' ?h1 ?_); (case h1 => (simp only [List.set_cons_zero, List.set_cons_succ]; rfl)))
  | (with_reducible refine i_op ?_)
  | (with_reducible refine i_ifS ?_)
  | (with_reducible refine i_for ?_)
  | (with_reducible refine i_test ?_)
  | (with_reducible refine i_B ?_)
  | (with_reducible refine i_exbl ?_)
  | (with_reducible refine i_exint ?_)
  | (with_reducible refine i_cb ?_)
  | (with_reducible refine i_nil ?_)
  | (with_reducible refine i_cons ?_)
  | (with_reducible refine i_ret ?_)
  | (with_reducible refine i_sl ?_)
  | (with_reducible refine i_nopart ?_)
  | (with_reducible refine i_part ?_)
  | (with_reducible refine i_add_int ?_)
  | (with_reducible refine i_sub ?_)
  | (with_reducible refine i_lt ?_)
  | ((with_reducible refine' i_mod ?h1 ?_); (case h1 => walk_at "o"))
  | ((with_reducible refine' i_fdiv ?h1 ?_); (case h1 => (refine cdiv_small ?_ ?_ <;> walk_at "o")))
  | ((with_reducible refine' i_sl_to ?h1 ?h2 ?_); (case h1 => walk_at "o"); (case h2 => walk_at "o"))
  | ((with_reducible refine' i_sl_from ?h1 ?h2 ?_); (case h1 => walk_at "o"); (case h2 => walk_at "o"))
  | ((with_reducible refine' i_add_str ?h1 ?_); (case h1 => walk_at "o"))
  | ((with_reducible refine' i_mul_int ?h1 ?_); (case h1 => first | (refine mul_small ?_ ?_ <;> walk_at "o") | (refine mul_smallR ?_ ?_ <;> walk_at "o")))
  | (with_reducible refine i_le ?_)
  | (with_reducible refine i_gt ?_)
  | (with_reducible refine i_ge ?_)
  | (with_reducible refine i_eq_int ?_)
  | (with_reducible refine i_eq_str ?_)
  | (with_reducible refine i_ne_int ?_)
  | (with_reducible refine i_ne_str ?_)
  | (with_reducible refine i_eq_bl ?_)
  | (with_reducible refine i_ne_bl ?_)
  | (with_reducible refine i_in_sg ?_)
  | (with_reducible refine i_notIn_sg ?_)
  | (with_reducible refine i_call ?_)
  | (with_reducible refine i_callS ?_)
  | (with_reducible refine i_sp1 ?_)
  | (with_reducible refine i_sp2 ?_)
  | (with_reducible refine i_sp3 ?_)
  | (with_reducible refine i_sp4 ?_)
  | (with_reducible refine i_sp1' ?_)
  | (with_reducible refine i_sp2' ?_)
  | (with_reducible refine i_sp3' ?_)
  | ((with_reducible refine' i_ix_lst ?h1 ?h2 ?_); (case h1 => walk_at "sq"); (case h2 => first | exact atI_nat rfl | rfl))
  | ((with_reducible refine' i_ix_tup ?h1 ?h2 ?_); (case h1 => walk_at "st"); (case h2 => first | exact atI_nat rfl | rfl))
  | (with_reducible refine i_gsub ?_)
  | (with_reducible refine i_par ?_)
  | (with_reducible refine i_lstRg1 ?_)
  | (with_reducible refine i_app ?_)
  | (with_reducible refine i_par2 ?_)
  | ((with_reducible refine' i_aug ?h1 ?_); (case h1 => rfl))
  | (with_reducible refine i_ipI ?_)
  | ((with_reducible refine' i_gtup2 ?h1 ?_); (case h1 => walk_at "st"))
  | (with_reducible refine i_int_bl ?_)
  | (with_reducible refine i_raise ?_)
  | (with_reducible refine i_mkE ?_)
  | (with_reducible refine i_ex1 ?_)
  | (with_reducible refine i_and ?_)
  | (with_reducible refine i_or ?_)
  | (with_reducible refine i_not ?_)
  | (with_reducible refine i_tt ?_)
  | (with_reducible refine i_ff ?_)
  | (with_reducible refine i_nott ?_)
  | (with_reducible refine i_notf ?_)
  | (with_reducible refine i_andV ?_)
  | (with_reducible refine i_orV ?_)
  | (with_reducible refine i_notV ?_)
  | (with_reducible refine i_ifE ?_)
  | (with_reducible refine i_tup ?_)
  | (with_reducible refine i_lst ?_)
  | (with_reducible refine i_un ?_)
  | (with_reducible refine i_neg ?_)
  | (with_reducible refine i_chain ?_)
  | (with_reducible refine i_next ?_)
  | (with_reducible refine i_retN ?_)
  | (with_reducible refine i_drop ?_)
  | (with_reducible refine i_int_int ?_)
  | (with_reducible refine i_abs ?_)
  | (with_reducible refine i_m1c ?_)
  | (with_reducible refine i_is_non ?_)
  | (with_reducible refine i_is_int ?_)
  | (with_reducible refine i_is_bl ?_)
  | (with_reducible refine i_isn_bl ?_)
  | (with_reducible refine i_is_str ?_)
  | (with_reducible refine i_is_ref ?_)
  | (with_reducible refine i_isn_non ?_)
  | (with_reducible refine i_isn_int ?_)
  | (with_reducible refine i_isn_str ?_)
  | (with_reducible refine i_isn_ref ?_)
  | (with_reducible refine i_len_str ?h1 ?_; (case h1 => walk_at "o"))
  | (with_reducible refine i_callD ?_)
  | (with_reducible refine i_spD2 ?_)
  | (with_reducible refine i_spM1 ?_)
  | (with_reducible refine i_spM2 ?_)
  | (with_reducible refine i_spM3 ?_)
  | (with_reducible refine i_spM4 ?_)
  | (with_reducible refine i_spM3d ?_)
  | (with_reducible refine i_tfld ?_)
  | (with_reducible refine i_sfld ?_)
  | (with_reducible refine i_meth ?_)
  | (with_reducible refine i_make ?_)
  | (with_reducible refine i_spl ?_)
  | (with_reducible refine i_mkE2 ?_)
  | (with_reducible refine i_ex2 ?_)
  | (with_reducible refine i_dget ?_)
  | (with_reducible refine i_tru ?_)
  | (with_reducible refine i_dput ?_)
  | (with_reducible refine i_dnotin ?_)
  | (with_reducible refine i_din ?_)
  | (with_reducible refine i_rev ?_)
  | (with_reducible refine i_isi_int_int ?_) | (with_reducible refine i_isi_int_bool ?_) | (with_reducible refine i_isi_int_str ?_) | (with_reducible refine i_isi_int_tuple ?_) | (with_reducible refine i_isi_int_list ?_)
  | (with_reducible refine i_isi_bl_int ?_) | (with_reducible refine i_isi_bl_bool ?_) | (with_reducible refine i_isi_bl_str ?_) | (with_reducible refine i_isi_bl_tuple ?_) | (with_reducible refine i_isi_bl_list ?_)
  | (with_reducible refine i_isi_str_int ?_) | (with_reducible refine i_isi_str_bool ?_) | (with_reducible refine i_isi_str_str ?_) | (with_reducible refine i_isi_str_tuple ?_) | (with_reducible refine i_isi_str_list ?_)
  | (with_reducible refine i_isi_non_int ?_) | (with_reducible refine i_isi_non_bool ?_) | (with_reducible refine i_isi_non_str ?_) | (with_reducible refine i_isi_non_tuple ?_) | (with_reducible refine i_isi_non_list ?_))
local macro_rules | `(tactic| walk_at "go") => `(tactic| (repeat' (walk_at "s")))
local macro_rules | `(tactic| walk_at "n") => `(tactic| simp only [wipe, List.map_cons, List.map_nil, List.set_cons_zero, List.set_cons_succ])
abbrev cLine : List Nat := [108, 105, 110, 101]
abbrev cOrder : List Nat := [111, 114, 100, 101, 114]
abbrev cGood : List Nat := [103, 111, 111, 100]
abbrev JW : List (List Nat) := [cMore, cLast, cGo]
/-- what is told of lines -/
def resT : Res → PyData
  | .line n k => .tuple [dS cLine, .int (n : Int), .int (k : Int)]
  | .order k => .tuple [dS cOrder, .int k]
  | .good ws => .tuple [dS cGood, .tuple ws]
theorem atI_neg1 {xs : List V} {v : V} (h : xs[xs.length - 1]? = some v) : atI xs (-1) = some v := by
  have hp := (List.getElem?_eq_some_iff.mp h).1
  unfold atI ixN
  rw [if_neg (by decide), if_pos (by omega), Option.bind_some]
  rw [show (-1 + (xs.length : Int)).toNat = xs.length - 1 by omega]
  exact h
/-- a line that is read -/
def LineR (d : PyData) : Prop := ∃ es ws, d = .tuple es ∧ rdW fmD forms ws = .inl es
theorem fm_t {w : List Nat} {d : PyData} (h : fmD .t w = some d) : isIn d 1 9 = true := by
  obtain ⟨v, hv, rfl⟩ := Option.map_eq_some_iff.mp (show (numIn 1 9 w).map PyData.int = some d from h)
  unfold numIn at hv
  split at hv
  · rename_i z; cases hv
    rw [isIn_int, decide_eq_true z.2.1, decide_eq_true z.2.2]; rfl
  · cases hv
theorem fm_l {w : List Nat} {d : PyData} (h : fmD .l w = some d) : ∃ l : Int, d = .int l ∧ 0 ≤ l := by
  obtain ⟨v, hv, rfl⟩ := Option.map_eq_some_iff.mp (show (numIn 0 19 w).map PyData.int = some d from h)
  unfold numIn at hv
  split at hv
  · rename_i z; cases hv; exact ⟨_, rfl, z.2.1⟩
  · cases hv
theorem fm_sg {w : List Nat} {d : PyData} (h : fmD .sg w = some d) : isSgs d = true := by
  have h' : (if sgsL w = true then some (dS w) else none) = some d := h
  split at h'
  · rename_i z; cases h'; exact z
  · cases h'
theorem fm_nm {w : List Nat} {d : PyData} (h : fmD .nm w = some d) : isNm d = true := by
  have h' : (if (isMkL w && decide (w ≠ [])) = true then some (dS w) else none) = some d := h
  split at h'
  · rename_i z; cases h'; exact z
  · cases h'
theorem in_lt {l m : Int} (h : 0 ≤ l) : isIn (.int l) 0 (m - 1) = decide (l < m) := by
  rw [isIn_int, decide_eq_true h, Bool.true_and, Bool.eq_iff_iff, decide_eq_true_eq, decide_eq_true_eq]; omega
theorem frm_cons {f : Fm} {fs : List Fm} {l : List PyData} (h : Frm fmD (f :: fs) l) : ∃ a r, l = a :: r ∧ (∃ w, fmD f w = some a) ∧ Frm fmD fs r := by
  cases h with
  | cons w e k => exact ⟨_, _, rfl, ⟨_, e⟩, k⟩
theorem frm_nil {l : List PyData} (h : Frm fmD [] l) : l = [] := by cases h; rfl
/-- whether a line that is read is one among m lines -/
theorem ord_of {ws : List (List Nat)} {es : List PyData} (h : rdW fmD forms ws = .inl es) : ∃ w r, es = dS w :: r ∧ es.length ≤ 4 ∧ ((w ∉ JW ∧ ∀ m, isOrd m (.tuple es) = true) ∨ (w ∈ JW ∧ ∃ l : Int, es[es.length - 1]? = some (.int l) ∧ ∀ m, isOrd m (.tuple es) = decide (l < m))) := by
  cases hf : forms (ws.getD 0 []) with
  | none => rw [rdW_none fmD hf] at h; cases h
  | some fs =>
    rw [rdW_some fmD hf] at h
    obtain ⟨ds, e, fr⟩ := rdk_inv h
    subst e
    have hw : ws.getD 0 [] ∈ [cWait, cCount, cPass, cMore, cLast, cGo, cName, cSkip] := Decidable.byContradiction fun n => by
      rw [forms_out n] at hf; cases hf
    generalize ws.getD 0 [] = w at *
    refine ⟨w, ds, rfl, ?_⟩
    simp only [List.mem_cons, List.not_mem_nil, or_false] at hw
    rcases hw with rfl | rfl | rfl | rfl | rfl | rfl | rfl | rfl
    · obtain rfl : fs = [.sg, .t] := by cases hf; rfl
      obtain ⟨a, ra, rfl, f1, k⟩ := frm_cons fr
      obtain ⟨b, rb, rfl, f2, k⟩ := frm_cons k
      obtain rfl := frm_nil k
      obtain ⟨_, f1⟩ := f1; obtain ⟨_, f2⟩ := f2
      refine ⟨by simp, .inl ⟨by decide, fun m => ?_⟩⟩
      show (isSgs a && isIn b 1 9) = true
      rw [fm_sg f1, fm_t f2]; rfl
    · obtain rfl : fs = [.sg, .sg, .t] := by cases hf; rfl
      obtain ⟨a, ra, rfl, f1, k⟩ := frm_cons fr
      obtain ⟨b, rb, rfl, f2, k⟩ := frm_cons k
      obtain ⟨c, rc, rfl, f3, k⟩ := frm_cons k
      obtain rfl := frm_nil k
      obtain ⟨_, f1⟩ := f1; obtain ⟨_, f2⟩ := f2; obtain ⟨_, f3⟩ := f3
      refine ⟨by simp, .inl ⟨by decide, fun m => ?_⟩⟩
      show (isSgs a && isSgs b && isIn c 1 9) = true
      rw [fm_sg f1, fm_sg f2, fm_t f3]; rfl
    · obtain rfl : fs = [.t] := by cases hf; rfl
      obtain ⟨b, rb, rfl, f2, k⟩ := frm_cons fr
      obtain rfl := frm_nil k
      obtain ⟨_, f2⟩ := f2
      exact ⟨by simp, .inl ⟨by decide, fun m => fm_t f2⟩⟩
    · obtain rfl : fs = [.t, .l] := by cases hf; rfl
      obtain ⟨a, ra, rfl, f1, k⟩ := frm_cons fr
      obtain ⟨b, rb, rfl, f2, k⟩ := frm_cons k
      obtain rfl := frm_nil k
      obtain ⟨_, f1⟩ := f1; obtain ⟨_, f2⟩ := f2
      obtain ⟨l, rfl, l0⟩ := fm_l f2
      refine ⟨by simp, .inr ⟨by decide, l, rfl, fun m => ?_⟩⟩
      show (isIn a 1 9 && isIn (.int l) 0 (m - 1)) = decide (l < m)
      rw [fm_t f1, in_lt l0]; rfl
    · obtain rfl : fs = [.sg, .l] := by cases hf; rfl
      obtain ⟨a, ra, rfl, f1, k⟩ := frm_cons fr
      obtain ⟨b, rb, rfl, f2, k⟩ := frm_cons k
      obtain rfl := frm_nil k
      obtain ⟨_, f1⟩ := f1; obtain ⟨_, f2⟩ := f2
      obtain ⟨l, rfl, l0⟩ := fm_l f2
      refine ⟨by simp, .inr ⟨by decide, l, rfl, fun m => ?_⟩⟩
      show (isSgs a && isIn (.int l) 0 (m - 1)) = decide (l < m)
      rw [fm_sg f1, in_lt l0]; rfl
    · obtain rfl : fs = [.l] := by cases hf; rfl
      obtain ⟨b, rb, rfl, f2, k⟩ := frm_cons fr
      obtain rfl := frm_nil k
      obtain ⟨_, f2⟩ := f2
      obtain ⟨l, rfl, l0⟩ := fm_l f2
      exact ⟨by simp, .inr ⟨by decide, l, rfl, fun m => in_lt l0⟩⟩
    · obtain rfl : fs = [.nm] := by cases hf; rfl
      obtain ⟨b, rb, rfl, f2, k⟩ := frm_cons fr
      obtain rfl := frm_nil k
      obtain ⟨_, f2⟩ := f2
      exact ⟨by simp, .inl ⟨by decide, fun m => fm_nm f2⟩⟩
    · obtain rfl : fs = [] := by cases hf; rfl
      obtain rfl := frm_nil fr
      exact ⟨by simp, .inl ⟨by decide, fun m => rfl⟩⟩
/-- lines of text, their strings of small signs -/
def TxtOK (d : PyData) : Prop := ∀ ds, seqOf d = some ds → ds.length ≤ 100 ∧ ∀ z, PyData.str z ∈ ds → ∀ c ∈ z.cps.toList, c < 256
theorem wrds_small {z : Str} {w : List Nat} (h : w ∈ wrds z) (hz : ∀ c ∈ z.cps.toList, c < 256) : ∀ c ∈ w, c < 256 := by
  intro c hc
  have hj := words_join z
  have key : ∀ {ls : List (List Nat)}, w ∈ ls → c ∈ TL.joinL [32] ls := fun {ls} => by
    induction ls with
    | nil => intro h; cases h
    | cons p r ih =>
      intro hm
      cases r with
      | nil =>
        rw [List.mem_singleton.mp hm] at hc
        exact hc
      | cons q r =>
        show c ∈ p ++ ([32] ++ TL.joinL [32] (q :: r))
        rcases List.mem_cons.mp hm with e | hm
        · rw [e] at hc
          exact List.mem_append_left _ hc
        · exact List.mem_append_right _ (List.mem_append_right _ (ih hm))
  have := key h
  rw [hj] at this
  exact hz c this
section
variable {K : PySem.W.Frag} {A G : Hp} {x : V} {d : PyData} {ds : List PyData}
theorem seq_ref (h : At A x d) (e : seqOf d = some ds) : ds.length ≤ 10000 ∧ ∀ (i : Nat) (c : PyData), ds[i]? = some c → ∃ v, At A v c ∧ ∀ {G : Hp} {R : VK}, Same A G → R v G → ixP K x (.int (i : Int)) G R := by
  cases d with
  | list zs =>
    cases e
    obtain ⟨a, xs, rfl, hA, hl, al⟩ := h.listed
    refine ⟨by rw [← al.len]; exact hl, fun i c hc => ?_⟩
    obtain ⟨v, hv, av⟩ := al.at hc
    exact ⟨v, av, fun s r => i_ix_lst (.inl (.inl (s _ _ hA))) (atI_nat hv) r⟩
  | tuple zs =>
    cases e
    obtain ⟨a, xs, rfl, hA, hl, al⟩ := h.tupled
    refine ⟨by rw [← al.len]; exact hl, fun i c hc => ?_⟩
    obtain ⟨v, hv, av⟩ := al.at hc
    exact ⟨v, av, fun s r => i_ix_tup (.inl (.inl (s _ _ hA))) (atI_nat hv) r⟩
  | _ => cases e
theorem seq_len {Q : VK} (h : At A x d) (e : seqOf d = some ds) (s : Same A G) (q : Q (.int (ds.length : Int)) G) : rLenP K [x] G Q := by
  cases d with
  | list zs =>
    cases e
    obtain ⟨a, xs, rfl, hA, hl, al⟩ := h.listed
    rw [← al.len] at q
    exact i_len_lst (.inl (.inl (s _ _ hA))) q
  | tuple zs =>
    cases e
    obtain ⟨a, xs, rfl, hA, hl, al⟩ := h.tupled
    rw [← al.len] at q
    exact i_len_tup (.inl (.inl (s _ _ hA))) q
  | _ => cases e
end
end K43
namespace K43
open PySem PySem.Spec PyProof.Rows L2 Fg
local macro_rules | `(tactic| walk_at "sq") => `(tactic| first
  | assumption
  | exact .inl (.inl (by assumption))
  | exact .inl (.inl upd_same))
local macro_rules | `(tactic| walk_at "st") => `(tactic| first
  | assumption
  | exact .inl (.inl (by assumption))
  | exact .inl (.inl upd_same))
local macro_rules | `(tactic| walk_at "o") => `(tactic| first
  | omega
  | assumption
  | (simp only [List.length_append, List.length_take, List.length_drop, List.length_cons, List.length_nil, List.length_singleton, List.length_map, List.length_range, Int.toNat_natCast] ; omega))
local macro_rules | `(tactic| walk_at "s") => `(tactic| first
  | (with_reducible refine i_seq ?_)
  | (with_reducible refine i_asg ?_)
  | ((with_reducible refine' i_var ?h1 ?_); (case h1 => rfl))
  | (with_reducible refine i_c ?_)
  | ((with_reducible refine' i_gname' ?h1 ?_); (case h1 => (simp only [List.set_cons_zero, List.set_cons_succ]; rfl)))
  | (with_reducible refine i_op ?_)
  | (with_reducible refine i_ifS ?_)
  | (with_reducible refine i_for ?_)
  | (with_reducible refine i_test ?_)
  | (with_reducible refine i_B ?_)
  | (with_reducible refine i_exbl ?_)
  | (with_reducible refine i_exint ?_)
  | (with_reducible refine i_cb ?_)
  | (with_reducible refine i_nil ?_)
  | (with_reducible refine i_cons ?_)
  | (with_reducible refine i_ret ?_)
  | (with_reducible refine i_sl ?_)
  | (with_reducible refine i_nopart ?_)
  | (with_reducible refine i_part ?_)
  | (with_reducible refine i_add_int ?_)
  | (with_reducible refine i_sub ?_)
  | (with_reducible refine i_lt ?_)
  | ((with_reducible refine' i_mod ?h1 ?_); (case h1 => walk_at "o"))
  | ((with_reducible refine' i_fdiv ?h1 ?_); (case h1 => (refine cdiv_small ?_ ?_ <;> walk_at "o")))
  | ((with_reducible refine' i_sl_to ?h1 ?h2 ?_); (case h1 => walk_at "o"); (case h2 => walk_at "o"))
  | ((with_reducible refine' i_sl_from ?h1 ?h2 ?_); (case h1 => walk_at "o"); (case h2 => walk_at "o"))
  | ((with_reducible refine' i_add_str ?h1 ?_); (case h1 => walk_at "o"))
  | ((with_reducible refine' i_mul_int ?h1 ?_); (case h1 => first | (refine mul_small ?_ ?_ <;> walk_at "o") | (refine mul_smallR ?_ ?_ <;> walk_at "o")))
  | (with_reducible refine i_le ?_)
  | (with_reducible refine i_gt ?_)
  | (with_reducible refine i_ge ?_)
  | (with_reducible refine i_eq_int ?_)
  | (with_reducible refine i_eq_str ?_)
  | (with_reducible refine i_ne_int ?_)
  | (with_reducible refine i_ne_str ?_)
  | (with_reducible refine i_eq_bl ?_)
  | (with_reducible refine i_ne_bl ?_)
  | (with_reducible refine i_in_sg ?_)
  | (with_reducible refine i_notIn_sg ?_)
  | (with_reducible refine i_call ?_)
  | (with_reducible refine i_callS ?_)
  | (with_reducible refine i_sp1 ?_)
  | (with_reducible refine i_sp2 ?_)
  | (with_reducible refine i_sp3 ?_)
  | (with_reducible refine i_sp4 ?_)
  | (with_reducible refine i_sp1' ?_)
  | (with_reducible refine i_sp2' ?_)
  | (with_reducible refine i_sp3' ?_)
  | ((with_reducible refine' i_ix_lst ?h1 ?h2 ?_); (case h1 => walk_at "sq"); (case h2 => first | exact atI_nat rfl | rfl))
  | ((with_reducible refine' i_ix_tup ?h1 ?h2 ?_); (case h1 => walk_at "st"); (case h2 => first | exact atI_nat rfl | rfl))
  | (with_reducible refine i_gsub ?_)
  | (with_reducible refine i_par ?_)
  | (with_reducible refine i_lstRg1 ?_)
  | (with_reducible refine i_app ?_)
  | (with_reducible refine i_par2 ?_)
  | ((with_reducible refine' i_aug ?h1 ?_); (case h1 => rfl))
  | (with_reducible refine i_ipI ?_)
  | ((with_reducible refine' i_gtup2 ?h1 ?_); (case h1 => walk_at "st"))
  | (with_reducible refine i_int_bl ?_)
  | (with_reducible refine i_raise ?_)
  | (with_reducible refine i_mkE ?_)
  | (with_reducible refine i_ex1 ?_)
  | (with_reducible refine i_and ?_)
  | (with_reducible refine i_or ?_)
  | (with_reducible refine i_not ?_)
  | (with_reducible refine i_tt ?_)
  | (with_reducible refine i_ff ?_)
  | (with_reducible refine i_nott ?_)
  | (with_reducible refine i_notf ?_)
  | (with_reducible refine i_andV ?_)
  | (with_reducible refine i_orV ?_)
  | (with_reducible refine i_notV ?_)
  | (with_reducible refine i_ifE ?_)
  | (with_reducible refine i_tup ?_)
  | (with_reducible refine i_lst ?_)
  | (with_reducible refine i_un ?_)
  | (with_reducible refine i_neg ?_)
  | (with_reducible refine i_chain ?_)
  | (with_reducible refine i_next ?_)
  | (with_reducible refine i_retN ?_)
  | (with_reducible refine i_drop ?_)
  | (with_reducible refine i_int_int ?_)
  | (with_reducible refine i_abs ?_)
  | (with_reducible refine i_m1c ?_)
  | (with_reducible refine i_is_non ?_)
  | (with_reducible refine i_is_int ?_)
  | (with_reducible refine i_is_bl ?_)
  | (with_reducible refine i_isn_bl ?_)
  | (with_reducible refine i_is_str ?_)
  | (with_reducible refine i_is_ref ?_)
  | (with_reducible refine i_isn_non ?_)
  | (with_reducible refine i_isn_int ?_)
  | (with_reducible refine i_isn_str ?_)
  | (with_reducible refine i_isn_ref ?_)
  | (with_reducible refine i_len_str ?h1 ?_; (case h1 => walk_at "o"))
  | (with_reducible refine i_callD ?_)
  | (with_reducible refine i_spD2 ?_)
  | (with_reducible refine i_spM1 ?_)
  | (with_reducible refine i_spM2 ?_)
  | (with_reducible refine i_spM3 ?_)
  | (with_reducible refine i_spM4 ?_)
  | (with_reducible refine i_spM3d ?_)
  | (with_reducible refine i_tfld ?_)
  | (with_reducible refine i_sfld ?_)
  | (with_reducible refine i_meth ?_)
  | (with_reducible refine i_make ?_)
  | (with_reducible refine i_spl ?_)
  | (with_reducible refine i_mkE2 ?_)
  | (with_reducible refine i_ex2 ?_)
  | (with_reducible refine i_dget ?_)
  | (with_reducible refine i_tru ?_)
  | (with_reducible refine i_dput ?_)
  | (with_reducible refine i_dnotin ?_)
  | (with_reducible refine i_din ?_)
  | (with_reducible refine i_rev ?_)
  | (with_reducible refine i_isi_int_int ?_) | (with_reducible refine i_isi_int_bool ?_) | (with_reducible refine i_isi_int_str ?_) | (with_reducible refine i_isi_int_tuple ?_) | (with_reducible refine i_isi_int_list ?_)
  | (with_reducible refine i_isi_bl_int ?_) | (with_reducible refine i_isi_bl_bool ?_) | (with_reducible refine i_isi_bl_str ?_) | (with_reducible refine i_isi_bl_tuple ?_) | (with_reducible refine i_isi_bl_list ?_)
  | (with_reducible refine i_isi_str_int ?_) | (with_reducible refine i_isi_str_bool ?_) | (with_reducible refine i_isi_str_str ?_) | (with_reducible refine i_isi_str_tuple ?_) | (with_reducible refine i_isi_str_list ?_)
  | (with_reducible refine i_isi_non_int ?_) | (with_reducible refine i_isi_non_bool ?_) | (with_reducible refine i_isi_non_str ?_) | (with_reducible refine i_isi_non_tuple ?_) | (with_reducible refine i_isi_non_list ?_))
local macro_rules | `(tactic| walk_at "go") => `(tactic| (repeat' (walk_at "s")))
local macro_rules | `(tactic| walk_at "n") => `(tactic| simp only [wipe, List.map_cons, List.map_nil, List.set_cons_zero, List.set_cons_succ])
theorem resT_line {A : Hp} {t : Addr} {n k : Nat} (h : A t = some (.tup [S cLine, .int (n : Int), .int (k : Int)])) : At A (.ref t) (resT (.line n k)) := At.mkTup h (.cons (.str _ (by decide)) (.cons (.int _) (.one (.int _)))) (by show 3 ≤ 10000; decide)
theorem resT_order {A : Hp} {t : Addr} {k : Int} (h : A t = some (.tup [S cOrder, .int k])) : At A (.ref t) (resT (.order k)) := At.mkTup h (.cons (.str _ (by decide)) (.one (.int _))) (by show 2 ≤ 10000; decide)
theorem resT_good {A : Hp} {t t2 : Addr} {ws : List PyData} (h : A t = some (.tup [S cGood, .ref t2])) (h2 : At A (.ref t2) (.tuple ws)) : At A (.ref t) (resT (.good ws)) := At.mkTup h (.cons (.str _ (by decide)) (.one h2)) (by show 2 ≤ 10000; decide)
theorem i_xfG {σ : L2.St} {H : Hp} {Q : VK} {a dd C : Addr} {fs : List (Str × V)} {v : V} {i : Nat} {f : Str} (h : σ[i]? = some (some (.ref a))) (hdd : H dd = some (.xd fs)) (l : fs.lookup f = some v) (q : Q v H) : tXf a (.ref C) (some dd) C f (tVar i) σ H Q := ⟨.ref a, h, rfl, rfl, dd, _, v, rfl, hdd, l, q⟩
theorem lk_word (w l : V) : ([("word", w), ("line", l)] : List (Str × V)).lookup ("word" : Str) = some w := by simp [List.lookup]
theorem lk_line (w l : V) : ([("word", w), ("line", l)] : List (Str × V)).lookup ("line" : Str) = some l := by
  have h : (("line" : Str) == "word") = false := by decide +kernel
  simp [List.lookup, h]
section
variable {P : Program} {w : World} {K : PySem.W.Frag} {mg : Str → Option Value} {base : Heap} {C_GlimError C_BadLine C_BadOrder C_NoLine C_Lines C_Orders C_WORDS : Addr}
def p_L_read : P1 := fun x H Q _ => ∃ A d, Same A H ∧ At A x d ∧ TxtOK d ∧ ∀ A' H' v, Ext A H A' H' → At A' v (resT (resD d)) → Q v H'
theorem ok_L_read (T : Txt K mg C_GlimError C_BadLine C_BadOrder C_NoLine C_Lines C_Orders C_WORDS) : OK P w K mg base CX0 4 "_law_read" ["_law_texts"] (sp1  p_L_read) := by
  refine OK.mk (k := 3) T.d_L_read sc_L_read len1 fun f cdv A outer s H vs Q E hr h => ?_
  obtain ⟨x, rfl, h⟩ := h
  refine ⟨_, (pss_cons (ps_if (pt_not (pt_val (pe_callB (cIsiT K) (by rfl) T.b_isinstance (by decide +kernel) (pa_cons (pv 0) (pa_cons (pe_tup (pa_cons (pe_bltn (v := .ty "list") (by rfl) T.b_list (by decide +kernel) rfl) (pa_cons (pe_bltn (v := .ty "tuple") (by rfl) T.b_tuple (by decide +kernel) rfl) pa_nil))) pa_nil))))) (pss_one (ps_ret (pe_tup (pa_cons (pe_S [108, 105, 110, 101]) (pa_cons pe_int (pa_cons pe_int pa_nil)))))) pss_nil) (pss_cons (ps_set (i := 1) sc_L_read.nd rfl (Or.inl rfl) (pe_lst pa_nil)) (pss_cons (ps_for PassesOwn.never rfl (pi_range1 rfl T.b_range (pa_cons (pe_callB (cLen K) (by rfl) T.b_len (by decide +kernel) (pa_cons (pv 0) pa_nil)) pa_nil)) (pg_name (i := 2) sc_L_read.nd rfl (Or.inl rfl)) (pss_cons (ps_if (pt_not (pt_val (pe_callB (cIsi K) (by rfl) T.b_isinstance (by decide +kernel) (pa_cons (pe_ix (ixK K) (pv 0) (pv 2) (fun _ _ => rfl)) (pa_cons (pe_bltn (v := .ty "str") (by rfl) T.b_str (by decide +kernel) rfl) pa_nil))))) (pss_one (ps_ret (pe_tup (pa_cons (pe_S [108, 105, 110, 101]) (pa_cons (pv 2) (pa_cons pe_int pa_nil)))))) pss_nil) (pss_cons (ps_set (i := 3) sc_L_read.nd rfl (Or.inl rfl) (peSplit K (pe_ix (ixK K) (pv 0) (pv 2) (fun _ _ => rfl)) (pa_cons (pe_S [32]) pa_nil))) (pss_cons (ps_set (i := 4) sc_L_read.nd rfl (Or.inl rfl) (pe_f (ok_L_bad_word (K := K) T) (hr.mono (by decide)) pass0 (pa_cons (pv 3) pa_nil))) (pss_cons (ps_if (pt_cmpR op_isNotP (pv 4) pe_non (nomark _)) (pss_one (ps_ret (pe_tup (pa_cons (pe_S [108, 105, 110, 101]) (pa_cons (pv 2) (pa_cons (pv 4) pa_nil)))))) pss_nil) (pss_one (ps_expr (peApp K (pv 1) (pa_cons (pe_f (ok_L_line (K := K) T) (hr.mono (by decide)) pass0 (pa_cons (pv 3) pa_nil)) pa_nil))))))))) (pss_cons (ps_if (pt_not (pt_chain op_leP op_leP pe_int (pe_callB (cLen K) (by rfl) T.b_len (by decide +kernel) (pa_cons (pv 1) pa_nil)) pe_int)) (pss_one (ps_ret (pe_tup (pa_cons (pe_S [111, 114, 100, 101, 114]) (pa_cons (pe_un un_neg pe_int) pa_nil))))) pss_nil) (pss_cons (ps_for PassesOwn.never rfl (pi_range1 rfl T.b_range (pa_cons (pe_callB (cLen K) (by rfl) T.b_len (by decide +kernel) (pa_cons (pv 1) pa_nil)) pa_nil)) (pg_name (i := 2) sc_L_read.nd rfl (Or.inl rfl)) (pss_one (ps_if (pw_and (pt_cmpR (opIn K) (pe_ix (ixK K) (pe_ix (ixK K) (pv 1) (pv 2) (fun _ _ => rfl)) pe_int (fun _ _ => rfl)) (pe_lst (pa_cons (pe_S [109, 111, 114, 101]) (pa_cons (pe_S [108, 97, 115, 116]) (pa_cons (pe_S [103, 111]) pa_nil)))) (by with_unfolding_all rfl)) (pw_and1 (pt_cmpR op_geP (pe_ix (ixK K) (pe_ix (ixK K) (pv 1) (pv 2) (fun _ _ => rfl)) (pe_un un_neg pe_int) (fun _ _ => rfl)) (pe_callB (cLen K) (by rfl) T.b_len (by decide +kernel) (pa_cons (pv 1) pa_nil)) (nomark _)))).pt (pss_one (ps_ret (pe_tup (pa_cons (pe_S [111, 114, 100, 101, 114]) (pa_cons (pv 2) pa_nil))))) pss_nil))) (pss_one (ps_ret (pe_tup (pa_cons (pe_S [103, 111, 111, 100]) (pa_cons (pe_callTy (cTup K) (by rfl) T.b_tuple (by decide +kernel) (pa_cons (pv 1) pa_nil)) pa_nil)))))))))), ?_⟩
  show (_ : TS) { nx := fun _ H' => Q .non H', rt := Q } [some x, none, none, none, none] H
  obtain ⟨A0, d, sa, hx, tok, q⟩ := h
  have x0 := Ext.refl sa
  walk_at "go"
  refine i_new (by show 2 ≤ 100000; omega) fun tp ntp => ?_
  have x1 := x0.hid (o := .tup [.ty "list", .ty "tuple"]) ntp
  walk_at "go"
  unfold resD at q
  cases es : seqOf d with
  | none =>
    have e : isSeqD d = false := by cases d <;> first | rfl | cases es
    refine i_isiSeq false (hx.same x1.ag) upd_same e ?_
    rw [es] at q
    walk_at "go"
    refine i_new (by show 3 ≤ 100000; omega) fun t nt => ?_
    exact q _ _ _ (x1.new nt) (resT_line (n := 0) (k := 0) upd_same)
  | some ds =>
    have e : isSeqD d = true := by cases d <;> first | rfl | cases es
    refine i_isiSeq true (hx.same x1.ag) upd_same e ?_
    rw [es] at q
    replace q : ∀ A' H' v, Ext A0 H A' H' → At A' v (resT (resA ds)) → Q v H' := q
    obtain ⟨dl, tok⟩ := tok ds es
    obtain ⟨_, ixs⟩ := seq_ref (K := K) hx es
    generalize upd H tp (.tup [.ty "list", .ty "tuple"]) = H1 at *
    walk_at "go"
    refine i_new (by show 0 ≤ 100000; omega) fun ll nll => ?_
    have hll : A0 ll = none := x1.ag.free nll
    have gll : H ll = none := x1.gg.free nll
    walk_at "go"
    unfold resA at q
    refine f_rng1 ds.length (fun R k => by walk_at "go"; refine seq_len hx es (x1.ag.trans (same_upd nll)) ?_; exact k) (by omega)
      (fun n σ G => ∃ v2 v3 v4 xs ws A', σ = [some x, some (.ref ll), v2, v3, v4] ∧ Ext A0 H A' G ∧ A' ll = none ∧ G ll = some (.lst xs) ∧ AtAll A' xs ws ∧ ws.length = n ∧ (∀ w ∈ ws, LineR w) ∧ readAll (readLn fmD forms) ds 0 = comb ws (readAll (readLn fmD forms) (ds.drop n) n))
      ⟨none, none, none, [], [], A0, rfl, x1.hid nll, hll, upd_same, .nil, rfl, fun _ h => absurd h (by simp), by show readAll (readLn fmD forms) ds 0 = comb [] (readAll (readLn fmD forms) ds 0); cases readAll (readLn fmD forms) ds 0 <;> rfl⟩ ?_ ?_
    · rintro n σ G hn ⟨v2, v3, v4, xs, ws, A1, rfl, x2, a1l, gl, al, wl, lr, ra⟩
      show (_ : TS) _ [some x, some (.ref ll), some (.int (n : Int)), v3, v4] G
      have hd : ds[n]? = some ds[n] := List.getElem?_eq_getElem hn
      generalize ds[n] = c at *
      obtain ⟨v, av, ixc⟩ := ixs n c hd
      have sG : Same A0 G := x2.aa.trans x2.ag
      walk_at "go"
      refine ixc sG ?_
      walk_at "go"
      cases ec : isStrD c with
      | false =>
        refine i_isiStr false (av.same sG) ec ?_
        have er : readLn fmD forms c = .inr 0 := by cases c <;> first | rfl | cases ec
        rw [readAll_bad ra hd er] at q
        walk_at "go"
        refine i_new (by show 3 ≤ 100000; omega) fun t nt => ?_
        exact q _ _ _ (x2.new nt) (resT_line upd_same)
      | true =>
        refine i_isiStr true (av.same sG) ec ?_
        obtain ⟨z, rfl⟩ : ∃ z, c = .str z := by
          cases c <;> first
            | exact ⟨_, rfl⟩
            | cases ec
        obtain ⟨l, rfl, rfl, hl0⟩ := av.strl
        have small := tok _ (List.mem_of_getElem? hd)
        walk_at "go"
        refine ixc sG ?_
        walk_at "go"
        refine ⟨rfl, ?_⟩
        walk_at "go"
        refine ⟨⟨l.toArray⟩, ⟨#[32]⟩, rfl, rfl, rfl, ?_, ?_⟩
        · rw [str_len]
          exact Nat.le_trans (show l.length + 2 ≤ 100000 by omega) (by decide)
        intro pp np
        rw [words_V]
        have er := readLn_W fmD forms (⟨l.toArray⟩ : Str)
        have wok : WOK (wrds ⟨l.toArray⟩) := by
          refine ⟨fun z => by have := words_pos ⟨l.toArray⟩; rw [z] at this; simp at this, fun w hw => ⟨?_, wrds_small hw small⟩⟩
          have := words_len hw
          rw [str_len] at this
          omega
        generalize wrds ⟨l.toArray⟩ = us at *
        have hup : (upd G pp (.lst (us.map S))) pp = some (.lst (us.map S)) := upd_same
        have x3 := x2.hid (o := .lst (us.map S)) np
        have lp : ll ≠ pp := ne_of_none gl np
        have gl3 : (upd G pp (.lst (us.map S))) ll = some (.lst xs) := (upd_ne lp).trans gl
        generalize upd G pp (.lst (us.map S)) = G3 at *
        walk_at "go"
        refine ⟨pp, us, rfl, hup, wok, fun G4 s4 => ?_⟩
        have x4 : Ext A0 H A1 G4 := ⟨x3.aa, x3.ag.trans s4, x3.gg.trans s4, x3.nw⟩
        cases eb : rdW fmD forms us with
        | inr k =>
          rw [readAll_bad ra hd (er.trans eb)] at q
          dsimp only [oVn, badOf]
          walk_at "go"
          refine i_new (by show 3 ≤ 100000; omega) fun t nt => ?_
          exact q _ _ _ (x4.new nt) (resT_line upd_same)
        | inl es' =>
          dsimp only [oVn, badOf]
          have gl4 := s4 _ _ gl3
          walk_at "go"
          refine i_appAt gl4 ?_
          walk_at "go"
          refine ⟨A1, pp, us, es', rfl, x4.ag, s4 _ _ hup, wok, eb, fun A5 G5 t x5 at5 => ?_⟩
          have gl5 := x5.gg _ _ gl4
          walk_at "go"
          refine i_appEnd gl5 (by rw [al.len]; omega) ?_
          have a5l : A5 ll = none := by
            refine x5.free a1l ?_
            rw [gl4]; simp
          refine ⟨_, _, _, xs ++ [.ref t], ws ++ [.tuple es'], A5, rfl, (x4.trans x5).put gll a5l, a5l, upd_same, (al.same x5.aa).app (.one at5), by rw [List.length_append, wl]; rfl, fun w hw => ?_, readAll_turn ra hd (er.trans eb)⟩
          rcases List.mem_append.mp hw with h | h
          · exact lr w h
          · rw [List.mem_singleton.mp h]; exact ⟨es', us, rfl, eb⟩
    · rintro σ G ⟨v2, v3, v4, xs, ws, A1, rfl, x2, a1l, gl, al, wl, lr, ra⟩
      rw [List.drop_length] at ra
      have ra : readAll (readLn fmD forms) ds 0 = .inl ws := by
        rw [ra]
        show Sum.inl (ws ++ []) = _
        rw [List.append_nil]
      rw [ra] at q
      replace q : ∀ A' H' v, Ext A0 H A' H' → At A' v (resT (resW ws)) → Q v H' := q
      unfold resW at q
      have bo : badO (.tuple ws) = if 1 ≤ ws.length ∧ ws.length ≤ 20 then (badOAt ws.length ws).map fun n : Nat => (n : Int) else some (-1) := rfl
      have xl := al.len
      walk_at "go"
      refine i_len_lst (.inl (.inl gl)) ?_
      walk_at "go"
      rw [xl]
      refine i_dec (fun e1 => ?_) (fun e1 => ?_)
      rotate_left
      · rw [bo, if_neg (by omega)] at q
        walk_at "go"
        refine i_new (by show 2 ≤ 100000; omega) fun t nt => ?_
        exact q _ _ _ (x2.new nt) (resT_order upd_same)
      walk_at "go"
      refine i_decN (fun e2 => ?_) (fun e2 => ?_)
      · rw [bo, if_neg (by omega)] at q
        walk_at "go"
        refine i_new (by show 2 ≤ 100000; omega) fun t nt => ?_
        exact q _ _ _ (x2.new nt) (resT_order upd_same)
      rw [bo, if_pos (by omega)] at q
      clear bo
      walk_at "go"
      refine f_rng1 ws.length (fun R k => by walk_at "go"; refine i_len_lst (.inl (.inl gl)) ?_; rw [xl]; exact k) (by omega)
        (fun n σ G' => ∃ v2, σ = [some x, some (.ref ll), v2, v3, v4] ∧ Same G G' ∧ ∀ k < n, ∀ c, ws[k]? = some c → isOrd ws.length c = true) ⟨_, rfl, Same.refl _, fun k h => absurd h (Nat.not_lt_zero _)⟩ ?_ ?_
      · rintro n σ G' hn ⟨v2', rfl, s3, hb⟩
        show (_ : TS) _ [some x, some (.ref ll), some (.int (n : Int)), v3, v4] G'
        have hd : ws[n]? = some ws[n] := List.getElem?_eq_getElem hn
        generalize ws[n] = c at *
        obtain ⟨es', us, rfl, eb⟩ := lr c (List.mem_of_getElem? hd)
        obtain ⟨v, hv, av⟩ := al.at hd
        obtain ⟨b, ys, rfl, hb', hyl, aly⟩ := av.tupled
        obtain ⟨w, r, e1', l4, ho⟩ := ord_of eb
        have hbG := s3 _ _ (x2.ag _ _ hb')
        have ixl : ∀ {G2 : Hp} {R : VK}, Same G G2 → R (.ref b) G2 → ixP K (.ref ll) (.int (n : Int)) G2 R := fun s r => i_ix_lst (.inl (.inl (s _ _ gl))) (atI_nat hv) r
        have y0 : ys[0]? = some (S w) := by
          obtain ⟨v0, h0, a0⟩ := aly.at (i := 0) (d := dS w) (by rw [e1']; rfl)
          rw [h0, a0.strd]; rfl
        walk_at "go"
        refine ixl s3 ?_
        walk_at "go"
        refine i_ix_tup (v := S w) (.inl (.inl hbG)) (atI_nat y0) ?_
        walk_at "go"
        refine i_new (by show 3 ≤ 100000; omega) fun jl njl => ?_
        have s4 := s3.trans (same_upd (o := .lst [S cMore, S cLast, S cGo]) njl)
        have hjl : (upd G' jl (.lst [S cMore, S cLast, S cGo])) jl = some (.lst (JW.map S)) := upd_same
        have hb4 := same_upd (o := .lst [S cMore, S cLast, S cGo]) njl _ _ hbG
        generalize upd G' jl (.lst [S cMore, S cLast, S cGo]) = G4 at *
        refine i_inS hjl ?_
        walk_at "go"
        have good : isOrd ws.length (.tuple es') = true → ∀ k < n + 1, ∀ c, ws[k]? = some c → isOrd ws.length c = true := fun h k hk c hc => by
          rcases Nat.lt_or_ge k n with h' | h'
          · exact hb k h' c hc
          · have : k = n := by omega
            subst this
            rw [hd] at hc
            cases hc
            exact h
        rcases ho with ⟨hw, ho⟩ | ⟨hw, l, hl, ho⟩
        · rw [decide_eq_false hw]
          walk_at "go"
          exact ⟨_, rfl, s4, good (ho _)⟩
        · rw [decide_eq_true hw]
          walk_at "go"
          refine ixl s4 ?_
          walk_at "go"
          refine i_ix_tup (v := .int l) (.inl (.inl hb4)) (atI_neg1 ?_) ?_
          · obtain ⟨v1, h1, a1⟩ := aly.at hl
            rw [aly.len, h1, a1.intd]
          walk_at "go"
          refine i_len_lst (.inl (.inl (s4 _ _ gl))) ?_
          walk_at "go"
          rw [xl]
          refine i_dec (fun e3 => ?_) (fun e3 => ?_)
          · have e4 : isOrd ws.length (.tuple es') = false := by rw [ho]; exact decide_eq_false (by omega)
            rw [badO_some hd e4 hb] at q
            walk_at "go"
            refine i_new (by show 2 ≤ 100000; omega) fun t nt => ?_
            have x4 : Ext A0 H A1 G4 := ⟨x2.aa, x2.ag.trans s4, x2.gg.trans s4, x2.nw⟩
            exact q _ _ _ (x4.new nt) (resT_order upd_same)
          · have e4 : isOrd ws.length (.tuple es') = true := by rw [ho]; exact decide_eq_true (by omega)
            walk_at "go"
            exact ⟨_, rfl, s4, good e4⟩
      · rintro σ G' ⟨v2', rfl, s3, hb⟩
        rw [badO_none (ds := ws) (fun k hk => hb k (by omega))] at q
        replace q : ∀ A' H' v, Ext A0 H A' H' → At A' v (resT (.good ws)) → Q v H' := q
        have x3 : Ext A0 H A1 G' := ⟨x2.aa, x2.ag.trans s3, x2.gg.trans s3, x2.nw⟩
        walk_at "go"
        refine i_tuple_lst (.inl (.inl (s3 _ _ gl))) fun t nt => ?_
        walk_at "go"
        refine i_new (by show 2 ≤ 100000; omega) fun r nr => ?_
        have x4 := x3.new (o := .tup xs) nt
        have a1t := x3.ag.free nt
        have a1r := x4.ag.free nr
        exact q _ _ _ (x4.new nr) (resT_good (t2 := t) upd_same ((At.mkTup upd_same (al.same (same_upd a1t)) (by omega)).same (same_upd a1r)))
def p_L_told : P1 := fun x H Q _ => ∃ A d, Same A H ∧ At A x d ∧ ∀ A' H' v, Ext A H A' H' → At A' v (resT (resD d)) → Q v H'
theorem ok_L_told (T : Txt K mg C_GlimError C_BadLine C_BadOrder C_NoLine C_Lines C_Orders C_WORDS) : OK P w K mg base CX0 10 "_law_told" ["_law_texts"] (sp1  p_L_told) := by
  refine OK.mk (k := 9) T.d_L_told sc_L_told len1 fun f cdv A outer s H vs Q E hr h => ?_
  obtain ⟨x, rfl, h⟩ := h
  refine ⟨_, (pss_cons (ps_try_as (i := 2) rfl rfl sc_L_told.nd rfl rfl ⟨rfl, by decide, Or.inl T.c_GlimError⟩ takes0 (fun W pn xe tk _ => (pss_one (ps_set (i := 1) sc_L_told.nd rfl (Or.inl rfl) (pe_fS (ok_read_orders (K := K) T) (hr.mono (by decide)) (fun σ => passAt tk σ) (pa_cons (pv 0) pa_nil))))) (fun a oe cls d pn hz hf => (pss_cons (ps_if (pw_and (pt_val (pe_callB (cIsX K hz hf) (by rfl) T.b_isinstance (by decide +kernel) (pa_cons (pv 2) (pa_cons (pe_gR _ T.c_BadLine) pa_nil)))) (pw_and1 (pt_not (pt_val (pe_callB (cIsX K hz hf) (by rfl) T.b_isinstance (by decide +kernel) (pa_cons (pv 2) (pa_cons (pe_gR _ T.c_BadOrder) pa_nil))))))).pt (pss_one (ps_ret (pe_tup (pa_cons (pe_S [108, 105, 110, 101]) (pa_cons (pe_xf T.e_BadLine.xf T.nf_BadLine_line hz hf (pv 2)) (pa_cons (pe_xf T.e_BadLine.xf T.nf_BadLine_word hz hf (pv 2)) pa_nil)))))) pss_nil) (pss_cons (ps_if (pw_and (pt_val (pe_callB (cIsX K hz hf) (by rfl) T.b_isinstance (by decide +kernel) (pa_cons (pv 2) (pa_cons (pe_gR _ T.c_BadOrder) pa_nil)))) (pw_and1 (pt_not (pt_val (pe_callB (cIsX K hz hf) (by rfl) T.b_isinstance (by decide +kernel) (pa_cons (pv 2) (pa_cons (pe_gR _ T.c_BadLine) pa_nil))))))).pt (pss_one (ps_ret (pe_tup (pa_cons (pe_S [111, 114, 100, 101, 114]) (pa_cons (pe_xf T.e_BadOrder.xf T.nf_BadOrder_number hz hf (pv 2)) pa_nil))))) pss_nil) (pss_one (ps_ret (pe_tup (pa_cons (pe_S [111, 116, 104, 101, 114]) (pa_cons pe_int pa_nil))))))))) (pss_cons (ps_if (pt_not (pt_val (pe_callB (cIsi K) (by rfl) T.b_isinstance (by decide +kernel) (pa_cons (pv 1) (pa_cons (pe_gR _ T.c_Orders) pa_nil))))) (pss_one (ps_ret (pe_tup (pa_cons (pe_S [111, 116, 104, 101, 114]) (pa_cons pe_int pa_nil))))) pss_nil) (pss_one (ps_ret (pe_tup (pa_cons (pe_S [103, 111, 111, 100]) (pa_cons (peFld K (pv 1)) pa_nil))))))), ?_⟩
  show (_ : TS) { nx := fun _ H' => Q .non H', rt := Q } [some x, none, none] H
  obtain ⟨A0, d, sa, hx, q⟩ := h
  walk_at "go"
  refine ⟨A0, d, sa, hx, ?_⟩
  cases er : resD d with
  | line n k =>
    rw [er] at q
    intro dd H1 nd s1 hdd
    refine i_caught T.m_BadLine_GlimError fun a na => ?_
    show (_ : TS) _ [some x, none, some (.ref a)] H1
    walk_at "go"
    refine i_isX hdd T.e_BadLine (.own _) T.k_BadLine_BadLine ?_
    walk_at "go"
    refine i_isX hdd T.e_BadLine (.own _) T.k_BadLine_BadOrder ?_
    walk_at "go"
    refine i_xfG rfl hdd (lk_line _ _) ?_
    walk_at "go"
    refine i_xfG rfl hdd (lk_word _ _) ?_
    walk_at "go"
    refine i_new (by show 3 ≤ 100000; omega) fun t nt => ?_
    have x1 : Ext A0 H A0 H1 := ⟨Same.refl _, sa.trans s1, s1, fun b h1 h2 => absurd h1 h2⟩
    exact q _ _ _ (x1.new nt) (resT_line upd_same)
  | order k =>
    rw [er] at q
    intro dd H1 nd s1 hdd
    refine i_caught T.m_BadOrder_GlimError fun a na => ?_
    show (_ : TS) _ [some x, none, some (.ref a)] H1
    walk_at "go"
    refine i_isX hdd T.e_BadOrder (.own _) T.k_BadOrder_BadLine ?_
    walk_at "go"
    refine i_isX hdd T.e_BadOrder (.own _) T.k_BadOrder_BadOrder ?_
    walk_at "go"
    refine i_isX hdd T.e_BadOrder (.own _) T.k_BadOrder_BadLine ?_
    walk_at "go"
    refine i_xf rfl hdd ?_
    walk_at "go"
    refine i_new (by show 2 ≤ 100000; omega) fun t nt => ?_
    have x1 : Ext A0 H A0 H1 := ⟨Same.refl _, sa.trans s1, s1, fun b h1 h2 => absurd h1 h2⟩
    exact q _ _ _ (x1.new nt) (resT_order upd_same)
  | good ws =>
    rw [er] at q
    intro A1 H1 p dx t x1 hp at1
    walk_at "go"
    refine i_isiO (x1.ag _ _ hp) T.ic_Orders (.own _) T.k_Orders_Orders ?_
    walk_at "go"
    refine i_fld (x1.ag _ _ hp) T.cl_Orders T.na_Orders_lines (OF_at t) ?_
    walk_at "go"
    refine i_new (by show 2 ≤ 100000; omega) fun r nr => ?_
    exact q _ _ _ (x1.new nr) (resT_good (t2 := t) upd_same (at1.same (same_upd (x1.ag.free nr))))
end
end K43
namespace K43
open PySem PySem.Spec PyProof.Rows L2 Fg
local macro_rules | `(tactic| walk_at "sq") => `(tactic| first
  | assumption
  | exact .inl (.inl (by assumption))
  | exact .inl (.inl upd_same))
local macro_rules | `(tactic| walk_at "st") => `(tactic| first
  | assumption
  | exact .inl (.inl (by assumption))
  | exact .inl (.inl upd_same))
local macro_rules | `(tactic| walk_at "o") => `(tactic| first
  | omega
  | assumption
  | (simp only [List.length_append, List.length_take, List.length_drop, List.length_cons, List.length_nil, List.length_singleton, List.length_map, List.length_range, Int.toNat_natCast] ; omega))
local macro_rules | `(tactic| walk_at "s") => `(tactic| first
  | (with_reducible refine i_seq ?_)
  | (with_reducible refine i_asg ?_)
  | ((with_reducible refine' i_var ?h1 ?_); (case h1 => rfl))
  | (with_reducible refine i_c ?_)
  | ((with_reducible refine' i_gname' ?h1 ?_); (case h1 => (simp only [List.set_cons_zero, List.set_cons_succ]; rfl)))
  | (with_reducible refine i_op ?_)
  | (with_reducible refine i_ifS ?_)
  | (with_reducible refine i_for ?_)
  | (with_reducible refine i_test ?_)
  | (with_reducible refine i_B ?_)
  | (with_reducible refine i_exbl ?_)
  | (with_reducible refine i_exint ?_)
  | (with_reducible refine i_cb ?_)
  | (with_reducible refine i_nil ?_)
  | (with_reducible refine i_cons ?_)
  | (with_reducible refine i_ret ?_)
  | (with_reducible refine i_sl ?_)
  | (with_reducible refine i_nopart ?_)
  | (with_reducible refine i_part ?_)
  | (with_reducible refine i_add_int ?_)
  | (with_reducible refine i_sub ?_)
  | (with_reducible refine i_lt ?_)
  | ((with_reducible refine' i_mod ?h1 ?_); (case h1 => walk_at "o"))
  | ((with_reducible refine' i_fdiv ?h1 ?_); (case h1 => (refine cdiv_small ?_ ?_ <;> walk_at "o")))
  | ((with_reducible refine' i_sl_to ?h1 ?h2 ?_); (case h1 => walk_at "o"); (case h2 => walk_at "o"))
  | ((with_reducible refine' i_sl_from ?h1 ?h2 ?_); (case h1 => walk_at "o"); (case h2 => walk_at "o"))
  | ((with_reducible refine' i_add_str ?h1 ?_); (case h1 => walk_at "o"))
  | ((with_reducible refine' i_mul_int ?h1 ?_); (case h1 => first | (refine mul_small ?_ ?_ <;> walk_at "o") | (refine mul_smallR ?_ ?_ <;> walk_at "o")))
  | (with_reducible refine i_le ?_)
  | (with_reducible refine i_gt ?_)
  | (with_reducible refine i_ge ?_)
  | (with_reducible refine i_eq_int ?_)
  | (with_reducible refine i_eq_str ?_)
  | (with_reducible refine i_ne_int ?_)
  | (with_reducible refine i_ne_str ?_)
  | (with_reducible refine i_eq_bl ?_)
  | (with_reducible refine i_ne_bl ?_)
  | (with_reducible refine i_in_sg ?_)
  | (with_reducible refine i_notIn_sg ?_)
  | (with_reducible refine i_call ?_)
  | (with_reducible refine i_callS ?_)
  | (with_reducible refine i_sp1 ?_)
  | (with_reducible refine i_sp2 ?_)
  | (with_reducible refine i_sp3 ?_)
  | (with_reducible refine i_sp4 ?_)
  | (with_reducible refine i_sp1' ?_)
  | (with_reducible refine i_sp2' ?_)
  | (with_reducible refine i_sp3' ?_)
  | ((with_reducible refine' i_ix_lst ?h1 ?h2 ?_); (case h1 => walk_at "sq"); (case h2 => first | exact atI_nat rfl | rfl))
  | ((with_reducible refine' i_ix_tup ?h1 ?h2 ?_); (case h1 => walk_at "st"); (case h2 => first | exact atI_nat rfl | rfl))
  | (with_reducible refine i_gsub ?_)
  | (with_reducible refine i_par ?_)
  | (with_reducible refine i_lstRg1 ?_)
  | (with_reducible refine i_app ?_)
  | (with_reducible refine i_par2 ?_)
  | ((with_reducible refine' i_aug ?h1 ?_); (case h1 => rfl))
  | (with_reducible refine i_ipI ?_)
  | ((with_reducible refine' i_gtup2 ?h1 ?_); (case h1 => walk_at "st"))
  | (with_reducible refine i_int_bl ?_)
  | (with_reducible refine i_raise ?_)
  | (with_reducible refine i_mkE ?_)
  | (with_reducible refine i_ex1 ?_)
  | (with_reducible refine i_and ?_)
  | (with_reducible refine i_or ?_)
  | (with_reducible refine i_not ?_)
  | (with_reducible refine i_tt ?_)
  | (with_reducible refine i_ff ?_)
  | (with_reducible refine i_nott ?_)
  | (with_reducible refine i_notf ?_)
  | (with_reducible refine i_andV ?_)
  | (with_reducible refine i_orV ?_)
  | (with_reducible refine i_notV ?_)
  | (with_reducible refine i_ifE ?_)
  | (with_reducible refine i_tup ?_)
  | (with_reducible refine i_lst ?_)
  | (with_reducible refine i_un ?_)
  | (with_reducible refine i_neg ?_)
  | (with_reducible refine i_chain ?_)
  | (with_reducible refine i_next ?_)
  | (with_reducible refine i_retN ?_)
  | (with_reducible refine i_drop ?_)
  | (with_reducible refine i_int_int ?_)
  | (with_reducible refine i_abs ?_)
  | (with_reducible refine i_m1c ?_)
  | (with_reducible refine i_is_non ?_)
  | (with_reducible refine i_is_int ?_)
  | (with_reducible refine i_is_bl ?_)
  | (with_reducible refine i_isn_bl ?_)
  | (with_reducible refine i_is_str ?_)
  | (with_reducible refine i_is_ref ?_)
  | (with_reducible refine i_isn_non ?_)
  | (with_reducible refine i_isn_int ?_)
  | (with_reducible refine i_isn_str ?_)
  | (with_reducible refine i_isn_ref ?_)
  | (with_reducible refine i_len_str ?h1 ?_; (case h1 => walk_at "o"))
  | (with_reducible refine i_callD ?_)
  | (with_reducible refine i_spD2 ?_)
  | (with_reducible refine i_spM1 ?_)
  | (with_reducible refine i_spM2 ?_)
  | (with_reducible refine i_spM3 ?_)
  | (with_reducible refine i_spM4 ?_)
  | (with_reducible refine i_spM3d ?_)
  | (with_reducible refine i_tfld ?_)
  | (with_reducible refine i_sfld ?_)
  | (with_reducible refine i_meth ?_)
  | (with_reducible refine i_make ?_)
  | (with_reducible refine i_spl ?_)
  | (with_reducible refine i_mkE2 ?_)
  | (with_reducible refine i_ex2 ?_)
  | (with_reducible refine i_dget ?_)
  | (with_reducible refine i_tru ?_)
  | (with_reducible refine i_dput ?_)
  | (with_reducible refine i_dnotin ?_)
  | (with_reducible refine i_din ?_)
  | (with_reducible refine i_rev ?_)
  | (with_reducible refine i_isi_int_int ?_) | (with_reducible refine i_isi_int_bool ?_) | (with_reducible refine i_isi_int_str ?_) | (with_reducible refine i_isi_int_tuple ?_) | (with_reducible refine i_isi_int_list ?_)
  | (with_reducible refine i_isi_bl_int ?_) | (with_reducible refine i_isi_bl_bool ?_) | (with_reducible refine i_isi_bl_str ?_) | (with_reducible refine i_isi_bl_tuple ?_) | (with_reducible refine i_isi_bl_list ?_)
  | (with_reducible refine i_isi_str_int ?_) | (with_reducible refine i_isi_str_bool ?_) | (with_reducible refine i_isi_str_str ?_) | (with_reducible refine i_isi_str_tuple ?_) | (with_reducible refine i_isi_str_list ?_)
  | (with_reducible refine i_isi_non_int ?_) | (with_reducible refine i_isi_non_bool ?_) | (with_reducible refine i_isi_non_str ?_) | (with_reducible refine i_isi_non_tuple ?_) | (with_reducible refine i_isi_non_list ?_))
local macro_rules | `(tactic| walk_at "go") => `(tactic| (repeat' (walk_at "s")))
local macro_rules | `(tactic| walk_at "n") => `(tactic| simp only [wipe, List.map_cons, List.map_nil, List.set_cons_zero, List.set_cons_succ])
/-! ### names, sets of signs, lines that the law draws -/
abbrev LET : List Nat := [97, 98, 99, 100, 101, 102, 103, 104, 105, 106, 107, 108, 109, 110, 111, 112, 113, 114, 115, 116, 117, 118, 119, 120, 121, 122]
abbrev TWO : List (List Nat) := [[], [55], [98, 111], [122, 122, 122]]
def wordsN : List (List Nat) := LET.flatMap fun c => TWO.map fun t => c :: t
theorem wordsN_at : ∀ i < 26, ∀ j < 4, wordsN[4 * i + j]? = some (LET.getD i 0 :: TWO.getD j []) := by decide +kernel
theorem wordsN_len : wordsN.length = 104 := by decide +kernel
theorem wordsN_ok : ∀ w ∈ wordsN, w ≠ [] ∧ w.length ≤ 4 ∧ (∀ c ∈ w, c ∈ LET ++ [48, 49, 50, 51, 52, 53, 54, 55, 56, 57]) ∧ ∀ c ∈ w, c < 256 := by decide +kernel
theorem wordsN_nd : wordsN.Nodup := by decide +kernel
theorem len_sub : ∀ {l m : List (List Nat)}, l.Nodup → (∀ x ∈ l, x ∈ m) → l.length ≤ m.length
  | [], _, _, _ => Nat.zero_le _
  | x :: l, m, nd, h => by
    obtain ⟨n1, n2⟩ := List.nodup_cons.mp nd
    have hx : x ∈ m := h x (List.mem_cons_self ..)
    have ih := len_sub (l := l) (m := m.erase x) n2 fun y hy => by
      have : y ≠ x := fun z => n1 (by rw [← z]; exact hy)
      exact (List.mem_erase_of_ne this).mpr (h y (List.mem_cons_of_mem _ hy))
    rw [List.length_erase_of_mem hx] at ih
    have := List.length_pos_of_mem hx
    rw [List.length_cons]
    omega
def PL (used : List (List Nat)) (n : Nat) : List (List Nat) := (wordsN.take n).filter fun w => !decide (w ∈ used)
theorem PL_step {used : List (List Nat)} {n : Nat} {w : List Nat} (h : wordsN[n]? = some w) : PL used (n + 1) = if w ∈ used then PL used n else PL used n ++ [w] := by
  unfold PL
  rw [List.take_succ, h, List.filter_append]
  by_cases e : w ∈ used
  · rw [if_pos e]
    show _ ++ List.filter _ [w] = _
    rw [List.filter_cons_of_neg (by rw [decide_eq_true e]; decide)]
    simp
  · rw [if_neg e]
    show _ ++ List.filter _ [w] = _
    rw [List.filter_cons_of_pos (by rw [decide_eq_false e]; rfl)]
    rfl
theorem PL_mem {used : List (List Nat)} {n : Nat} {w : List Nat} (h : w ∈ PL used n) : w ∈ wordsN := List.mem_of_mem_take (List.mem_filter.mp h).1
theorem PL_len (used : List (List Nat)) (n : Nat) : (PL used n).length ≤ 104 := by
  unfold PL
  refine Nat.le_trans (List.length_filter_le _ _) ?_
  rw [List.length_take, wordsN_len]
  omega
theorem PL_used {used : List (List Nat)} {n : Nat} {w : List Nat} (h : w ∈ PL used n) : w ∉ used := by
  have := (List.mem_filter.mp h).2
  simpa using this
theorem PL_pos {used : List (List Nat)} (h : used.length ≤ 100) : 1 ≤ (PL used 104).length := by
  have e : PL used 104 = wordsN.filter fun w => !decide (w ∈ used) := by
    unfold PL
    rw [List.take_of_length_le (by rw [wordsN_len]; exact Nat.le_refl _)]
  rcases Nat.eq_zero_or_pos (PL used 104).length with z | z
  · have z' := List.length_eq_zero_iff.mp z
    rw [e, List.filter_eq_nil_iff] at z'
    have key : ∀ w ∈ wordsN, w ∈ used := fun w hw => Decidable.byContradiction fun n => z' w hw (by rw [decide_eq_false n]; rfl)
    have := len_sub wordsN_nd key
    rw [wordsN_len] at this
    omega
  · exact z
section
variable {P : Program} {w : World} {K : PySem.W.Frag} {mg : Str → Option Value} {base : Heap} {C_GlimError C_BadLine C_BadOrder C_NoLine C_Lines C_Orders C_WORDS : Addr}
def p_L_name (K : PySem.W.Frag) : P2 := fun x y H Q _ => ∃ Hk dd us, ∃ used : List (List Nat), x = .ref dd.a ∧ y = .ref us ∧ Dr K dd Hk H ∧ Hk us = some (.lst (used.map S)) ∧ used.length ≤ 100 ∧ ∀ w H', Dr K dd Hk H' → w ∈ wordsN → w ∉ used → Q (S w) H'
theorem ok_L_name (T : Txt K mg C_GlimError C_BadLine C_BadOrder C_NoLine C_Lines C_Orders C_WORDS) : OK P w K mg base CX0 3 "_law_name" ["_law_draw_here", "_law_used"] (sp2  (p_L_name K)) := by
  refine OK.mk (k := 2) T.d_L_name sc_L_name len2 fun f cdv A outer s H vs Q E hr h => ?_
  obtain ⟨x, y, rfl, h⟩ := h
  refine ⟨_, (pss_cons (ps_set (i := 2) sc_L_name.nd rfl (Or.inl rfl) (pe_lst pa_nil)) (pss_cons (ps_for PassesOwn.never rfl (piAny K (pe_S [97, 98, 99, 100, 101, 102, 103, 104, 105, 106, 107, 108, 109, 110, 111, 112, 113, 114, 115, 116, 117, 118, 119, 120, 121, 122])) (pg_name (i := 3) sc_L_name.nd rfl (Or.inl rfl)) (pss_one (ps_for PassesOwn.never rfl (piAny K (pe_lst (pa_cons (pe_S []) (pa_cons (pe_S [55]) (pa_cons (pe_S [98, 111]) (pa_cons (pe_S [122, 122, 122]) pa_nil)))))) (pg_name (i := 4) sc_L_name.nd rfl (Or.inl rfl)) (pss_one (ps_if (pt_cmpR (opNotIn K) (pe_op (opAdd K) (pv 3) (pv 4)) (pv 1) (by with_unfolding_all rfl)) (pss_one (ps_expr (peApp K (pv 2) (pa_cons (pe_op (opAdd K) (pv 3) (pv 4)) pa_nil)))) pss_nil))))) (pss_one (ps_ret (pe_ix (ixK K) (pv 2) (pe_f (ok_L_pick (K := K) T) (hr.mono (by decide)) pass0 (pa_cons (pv 0) (pa_cons (pe_callB (cLen K) (by rfl) T.b_len (by decide +kernel) (pa_cons (pv 2) pa_nil)) pa_nil))) (fun _ _ => rfl)))))), ?_⟩
  show (_ : TS) { nx := fun _ H' => Q .non H', rt := Q } [some x, some y, none, none, none] H
  obtain ⟨Hk, dd, us, used, rfl, rfl, dr, hu, ul, q⟩ := h
  walk_at "go"
  refine i_new (by show 0 ≤ 100000; omega) fun pl npl => ?_
  have kpl := dr.free npl
  have hup : us ≠ pl := ne_of_none hu kpl
  walk_at "go"
  refine i_forS (z := LET) (fun i σ' G => ∃ v3 v4, σ' = [some (.ref dd.a), some (.ref us), some (.ref pl), v3, v4] ∧ Dr K dd (upd Hk pl (.lst ((PL used (4 * i)).map S))) G) ⟨none, none, rfl, dr.new npl⟩ ?_ ?_
  · rintro i c σ' G hc ⟨v3, v4, rfl, d1⟩
    show (_ : TS) _ [some (.ref dd.a), some (.ref us), some (.ref pl), some (S [c]), v4] G
    have hi : i < 26 := (List.getElem?_eq_some_iff.mp hc).1
    have ec : LET.getD i 0 = c := by rw [List.getD_eq_getElem?_getD, hc]; rfl
    walk_at "go"
    refine i_new (by show 4 ≤ 100000; omega) fun t nt => ?_
    have tp : t ≠ pl := fun z => by rw [z, d1.old upd_same] at nt; cases nt
    refine i_forL (xs := TWO.map S) (.inl (.inl upd_same)) (fun j σ' G' => ∃ v4, σ' = [some (.ref dd.a), some (.ref us), some (.ref pl), some (S [c]), v4] ∧ Dr K dd (upd Hk pl (.lst ((PL used (4 * i + j)).map S))) G' ∧ G' t = some (.lst (TWO.map S))) ⟨v4, rfl, d1.same (same_upd nt), upd_same⟩ ?_ ?_ ?_
    · rintro j σ' G' _ ⟨v4, rfl, _, g⟩
      exact .inl (.inl g)
    · rintro j x σ' G' hj ⟨v4, rfl, d3, g⟩
      rw [List.getElem?_map] at hj
      obtain ⟨tw, htw, rfl⟩ := Option.map_eq_some_iff.mp hj
      show (_ : TS) _ [some (.ref dd.a), some (.ref us), some (.ref pl), some (S [c]), some (S tw)] G'
      have hj4 : j < 4 := (List.getElem?_eq_some_iff.mp htw).1
      have et : TWO.getD j [] = tw := by rw [List.getD_eq_getElem?_getD, htw]; rfl
      have hw := wordsN_at i hi j hj4
      rw [ec, et] at hw
      have hw : wordsN[4 * i + j]? = some ([c] ++ tw) := hw
      have st := PL_step (used := used) hw
      have tl : tw.length ≤ 3 := by
        have : ∀ t ∈ TWO, t.length ≤ 3 := by decide
        exact this tw (List.mem_of_getElem? htw)
      have one : ([c] : List Nat).length = 1 := rfl
      have hus := d3.old ((upd_ne hup).trans hu)
      walk_at "go"
      refine i_ninS (ms := used) hus ?_
      walk_at "go"
      refine i_decN (fun e => ?_) (fun e => ?_)
      · rw [if_neg e] at st
        have hp := d3.old upd_same
        walk_at "go"
        refine i_appAt hp ?_
        walk_at "go"
        refine i_appEnd hp (by rw [List.length_map]; have := PL_len used (4 * i + j); omega) ?_
        have e2 : (PL used (4 * i + j)).map S ++ [S ([c] ++ tw)] = (PL used (4 * i + (j + 1))).map S := by
          rw [← Nat.add_assoc, st, List.map_append]; rfl
        rw [e2]
        exact ⟨_, rfl, d3.put dr.cells kpl, (upd_ne tp).trans g⟩
      · rw [if_pos e] at st
        walk_at "go"
        refine ⟨_, rfl, ?_, g⟩
        rw [← Nat.add_assoc, st]
        exact d3
    · rintro σ' G' ⟨v4, rfl, d3, g⟩
      exact ⟨_, _, rfl, d3⟩
  · rintro σ' G ⟨v3, v4, rfl, d1⟩
    have hp := d1.old upd_same
    have pos := PL_pos ul
    have le := PL_len used 104
    have d1 : Dr K dd (upd Hk pl (.lst ((PL used 104).map S))) G := d1
    have hp : G pl = some (.lst ((PL used 104).map S)) := hp
    have hmem : ∀ w ∈ PL used 104, w ∈ wordsN ∧ w ∉ used := fun w hw => ⟨PL_mem hw, PL_used hw⟩
    generalize PL used 104 = ws at *
    walk_at "go"
    refine i_len_lst (.inl (.inl hp)) ?_
    walk_at "go"
    refine ⟨_, dd, _, rfl, rfl, d1, by rw [List.length_map]; omega, fun n H2 d2 bn => ?_⟩
    rw [List.length_map] at bn
    have n0 := bn.1
    have n1 : n < (ws.length : Int) := by
      by_cases z : 2 ≤ (ws.length : Int)
      · exact bn.2.1 z
      · have := bn.2.2 (by omega); omega
    have hn : n.toNat < ws.length := by omega
    refine i_ix_lst (v := S ws[n.toNat]) (.inl (.inl (d2.old upd_same))) (atI_int n0 (by rw [List.getElem?_map, List.getElem?_eq_getElem hn]; rfl)) ?_
    obtain ⟨m1, m2⟩ := hmem _ (List.getElem_mem hn)
    exact q _ _ (d2.less dr.cells kpl) m1 m2
def p_L_names (K : PySem.W.Frag) : P2 := fun x y H Q _ => ∃ Hk dd, ∃ many : Nat, x = .ref dd.a ∧ y = .int (many : Int) ∧ many ≤ 100 ∧ Dr K dd Hk H ∧ ∀ nl (ns : List (List Nat)) H', Hk nl = none → Dr K dd (upd Hk nl (.lst (ns.map S))) H' → ns.length = many → ns.Nodup → (∀ w ∈ ns, w ∈ wordsN) → Q (.ref nl) H'
theorem ok_L_names (T : Txt K mg C_GlimError C_BadLine C_BadOrder C_NoLine C_Lines C_Orders C_WORDS) : OK P w K mg base CX0 4 "_law_names" ["_law_draw_here", "_law_many"] (sp2  (p_L_names K)) := by
  refine OK.mk (k := 3) T.d_L_names sc_L_names len2 fun f cdv A outer s H vs Q E hr h => ?_
  obtain ⟨x, y, rfl, h⟩ := h
  refine ⟨_, (pss_cons (ps_set (i := 2) sc_L_names.nd rfl (Or.inl rfl) (pe_lst pa_nil)) (pss_cons (ps_for PassesOwn.never rfl (pi_range1 rfl T.b_range (pa_cons (pv 1) pa_nil)) (pg_name (i := 3) sc_L_names.nd rfl (Or.inl rfl)) (pss_one (ps_expr (peApp K (pv 2) (pa_cons (pe_f (ok_L_name (K := K) T) (hr.mono (by decide)) pass0 (pa_cons (pv 0) (pa_cons (pv 2) pa_nil))) pa_nil))))) (pss_one (ps_ret (pv 2))))), ?_⟩
  show (_ : TS) { nx := fun _ H' => Q .non H', rt := Q } [some x, some y, none, none] H
  obtain ⟨Hk, dd, many, rfl, rfl, hmany, dr, q⟩ := h
  walk_at "go"
  refine i_new (by show 0 ≤ 100000; omega) fun nl nnl => ?_
  have knl := dr.free nnl
  walk_at "go"
  refine f_rng1 many (fun R k => by walk_at "go"; exact k) (by omega) (fun i σ G => ∃ v3, ∃ ns : List (List Nat), σ = [some (.ref dd.a), some (.int (many : Int)), some (.ref nl), v3] ∧ Dr K dd (upd Hk nl (.lst (ns.map S))) G ∧ ns.length = i ∧ ns.Nodup ∧ ∀ w ∈ ns, w ∈ wordsN) ⟨none, [], rfl, dr.new nnl, rfl, List.nodup_nil, fun w h => absurd h (by simp)⟩ ?_ ?_
  · rintro i σ G hi ⟨v3, ns, rfl, d1, il, nd, hm⟩
    show (_ : TS) _ [some (.ref dd.a), some (.int (many : Int)), some (.ref nl), some (.int (i : Int))] G
    have hp := d1.old upd_same
    walk_at "go"
    refine i_appAt hp ?_
    walk_at "go"
    refine ⟨_, dd, nl, ns, rfl, rfl, d1, upd_same, by omega, fun w H2 d2 hw hu => ?_⟩
    walk_at "go"
    refine i_appEnd (d2.old upd_same) (by rw [List.length_map]; omega) ?_
    have e2 : ns.map S ++ [S w] = (ns ++ [w]).map S := by rw [List.map_append]; rfl
    rw [e2]
    refine ⟨_, ns ++ [w], rfl, d2.put dr.cells knl, by rw [List.length_append, il]; rfl, ?_, fun x hx => ?_⟩
    · rw [List.nodup_append]
      refine ⟨nd, by simp, fun a ha b hb => ?_⟩
      rw [List.mem_singleton.mp hb]
      intro z
      exact hu (by rw [← z]; exact ha)
    · rcases List.mem_append.mp hx with hx | hx
      · exact hm x hx
      · rw [List.mem_singleton.mp hx]; exact hw
  · rintro σ G ⟨v3, ns, rfl, d1, il, nd, hm⟩
    walk_at "go"
    exact q nl ns G knl d1 il nd hm
end
end K43
namespace K43
open PySem PySem.Spec PyProof.Rows L2 Fg
local macro_rules | `(tactic| walk_at "sq") => `(tactic| first
  | assumption
  | exact .inl (.inl (by assumption))
  | exact .inl (.inl upd_same))
local macro_rules | `(tactic| walk_at "st") => `(tactic| first
  | assumption
  | exact .inl (.inl (by assumption))
  | exact .inl (.inl upd_same))
local macro_rules | `(tactic| walk_at "o") => `(tactic| first
  | omega
  | assumption
  | (simp only [List.length_append, List.length_take, List.length_drop, List.length_cons, List.length_nil, List.length_singleton, List.length_map, List.length_range, Int.toNat_natCast] ; omega))
local macro_rules | `(tactic| walk_at "s") => `(tactic| first
  | (with_reducible refine i_seq ?_)
  | (with_reducible refine i_asg ?_)
  | ((with_reducible refine' i_var ?h1 ?_); (case h1 => rfl))
  | (with_reducible refine i_c ?_)
  | ((with_reducible refine' i_gname' ?h1 ?_); (case h1 => (simp only [List.set_cons_zero, List.set_cons_succ]; rfl)))
  | (with_reducible refine i_op ?_)
  | (with_reducible refine i_ifS ?_)
  | (with_reducible refine i_for ?_)
  | (with_reducible refine i_test ?_)
  | (with_reducible refine i_B ?_)
  | (with_reducible refine i_exbl ?_)
  | (with_reducible refine i_exint ?_)
  | (with_reducible refine i_cb ?_)
  | (with_reducible refine i_nil ?_)
  | (with_reducible refine i_cons ?_)
  | (with_reducible refine i_ret ?_)
  | (with_reducible refine i_sl ?_)
  | (with_reducible refine i_nopart ?_)
  | (with_reducible refine i_part ?_)
  | (with_reducible refine i_add_int ?_)
  | (with_reducible refine i_sub ?_)
  | (with_reducible refine i_lt ?_)
  | ((with_reducible refine' i_mod ?h1 ?_); (case h1 => walk_at "o"))
  | ((with_reducible refine' i_fdiv ?h1 ?_); (case h1 => (refine cdiv_small ?_ ?_ <;> walk_at "o")))
  | ((with_reducible refine' i_sl_to ?h1 ?h2 ?_); (case h1 => walk_at "o"); (case h2 => walk_at "o"))
  | ((with_reducible refine' i_sl_from ?h1 ?h2 ?_); (case h1 => walk_at "o"); (case h2 => walk_at "o"))
  | ((with_reducible refine' i_add_str ?h1 ?_); (case h1 => walk_at "o"))
  | ((with_reducible refine' i_mul_int ?h1 ?_); (case h1 => first | (refine mul_small ?_ ?_ <;> walk_at "o") | (refine mul_smallR ?_ ?_ <;> walk_at "o")))
  | (with_reducible refine i_le ?_)
  | (with_reducible refine i_gt ?_)
  | (with_reducible refine i_ge ?_)
  | (with_reducible refine i_eq_int ?_)
  | (with_reducible refine i_eq_str ?_)
  | (with_reducible refine i_ne_int ?_)
  | (with_reducible refine i_ne_str ?_)
  | (with_reducible refine i_eq_bl ?_)
  | (with_reducible refine i_ne_bl ?_)
  | (with_reducible refine i_in_sg ?_)
  | (with_reducible refine i_notIn_sg ?_)
  | (with_reducible refine i_call ?_)
  | (with_reducible refine i_callS ?_)
  | (with_reducible refine i_sp1 ?_)
  | (with_reducible refine i_sp2 ?_)
  | (with_reducible refine i_sp3 ?_)
  | (with_reducible refine i_sp4 ?_)
  | (with_reducible refine i_sp1' ?_)
  | (with_reducible refine i_sp2' ?_)
  | (with_reducible refine i_sp3' ?_)
  | ((with_reducible refine' i_ix_lst ?h1 ?h2 ?_); (case h1 => walk_at "sq"); (case h2 => first | exact atI_nat rfl | rfl))
  | ((with_reducible refine' i_ix_tup ?h1 ?h2 ?_); (case h1 => walk_at "st"); (case h2 => first | exact atI_nat rfl | rfl))
  | (with_reducible refine i_gsub ?_)
  | (with_reducible refine i_par ?_)
  | (with_reducible refine i_lstRg1 ?_)
  | (with_reducible refine i_app ?_)
  | (with_reducible refine i_par2 ?_)
  | ((with_reducible refine' i_aug ?h1 ?_); (case h1 => rfl))
  | (with_reducible refine i_ipI ?_)
  | ((with_reducible refine' i_gtup2 ?h1 ?_); (case h1 => walk_at "st"))
  | (with_reducible refine i_int_bl ?_)
  | (with_reducible refine i_raise ?_)
  | (with_reducible refine i_mkE ?_)
  | (with_reducible refine i_ex1 ?_)
  | (with_reducible refine i_and ?_)
  | (with_reducible refine i_or ?_)
  | (with_reducible refine i_not ?_)
  | (with_reducible refine i_tt ?_)
  | (with_reducible refine i_ff ?_)
  | (with_reducible refine i_nott ?_)
  | (with_reducible refine i_notf ?_)
  | (with_reducible refine i_andV ?_)
  | (with_reducible refine i_orV ?_)
  | (with_reducible refine i_notV ?_)
  | (with_reducible refine i_ifE ?_)
  | (with_reducible refine i_tup ?_)
  | (with_reducible refine i_lst ?_)
  | (with_reducible refine i_un ?_)
  | (with_reducible refine i_neg ?_)
  | (with_reducible refine i_chain ?_)
  | (with_reducible refine i_next ?_)
  | (with_reducible refine i_retN ?_)
  | (with_reducible refine i_drop ?_)
  | (with_reducible refine i_int_int ?_)
  | (with_reducible refine i_abs ?_)
  | (with_reducible refine i_m1c ?_)
  | (with_reducible refine i_is_non ?_)
  | (with_reducible refine i_is_int ?_)
  | (with_reducible refine i_is_bl ?_)
  | (with_reducible refine i_isn_bl ?_)
  | (with_reducible refine i_is_str ?_)
  | (with_reducible refine i_is_ref ?_)
  | (with_reducible refine i_isn_non ?_)
  | (with_reducible refine i_isn_int ?_)
  | (with_reducible refine i_isn_str ?_)
  | (with_reducible refine i_isn_ref ?_)
  | (with_reducible refine i_len_str ?h1 ?_; (case h1 => walk_at "o"))
  | (with_reducible refine i_callD ?_)
  | (with_reducible refine i_spD2 ?_)
  | (with_reducible refine i_spM1 ?_)
  | (with_reducible refine i_spM2 ?_)
  | (with_reducible refine i_spM3 ?_)
  | (with_reducible refine i_spM4 ?_)
  | (with_reducible refine i_spM3d ?_)
  | (with_reducible refine i_tfld ?_)
  | (with_reducible refine i_sfld ?_)
  | (with_reducible refine i_meth ?_)
  | (with_reducible refine i_make ?_)
  | (with_reducible refine i_spl ?_)
  | (with_reducible refine i_mkE2 ?_)
  | (with_reducible refine i_ex2 ?_)
  | (with_reducible refine i_dget ?_)
  | (with_reducible refine i_tru ?_)
  | (with_reducible refine i_dput ?_)
  | (with_reducible refine i_dnotin ?_)
  | (with_reducible refine i_din ?_)
  | (with_reducible refine i_rev ?_)
  | (with_reducible refine i_isi_int_int ?_) | (with_reducible refine i_isi_int_bool ?_) | (with_reducible refine i_isi_int_str ?_) | (with_reducible refine i_isi_int_tuple ?_) | (with_reducible refine i_isi_int_list ?_)
  | (with_reducible refine i_isi_bl_int ?_) | (with_reducible refine i_isi_bl_bool ?_) | (with_reducible refine i_isi_bl_str ?_) | (with_reducible refine i_isi_bl_tuple ?_) | (with_reducible refine i_isi_bl_list ?_)
  | (with_reducible refine i_isi_str_int ?_) | (with_reducible refine i_isi_str_bool ?_) | (with_reducible refine i_isi_str_str ?_) | (with_reducible refine i_isi_str_tuple ?_) | (with_reducible refine i_isi_str_list ?_)
  | (with_reducible refine i_isi_non_int ?_) | (with_reducible refine i_isi_non_bool ?_) | (with_reducible refine i_isi_non_str ?_) | (with_reducible refine i_isi_non_tuple ?_) | (with_reducible refine i_isi_non_list ?_))
local macro_rules | `(tactic| walk_at "go") => `(tactic| (repeat' (walk_at "s")))
local macro_rules | `(tactic| walk_at "n") => `(tactic| simp only [wipe, List.map_cons, List.map_nil, List.set_cons_zero, List.set_cons_succ])
/-! ### lines of orders that the law draws -/
def odV : Od → List V
  | .wait s n => [S cWait, S s, .int n]
  | .count s t n => [S cCount, S s, S t, .int n]
  | .pass n => [S cPass, .int n]
  | .more n l => [S cMore, .int n, .int l]
  | .last s l => [S cLast, S s, .int l]
  | .go l => [S cGo, .int l]
  | .name w => [S cName, S w]
  | .skip => [S cSkip]
def PW (i : Nat) : Int := [1, 2, 4, 8].getD i 1
def sgOf (k : Int) : List Nat := ((List.range 4).filter fun i => decide ((k / PW i) % 2 = 1)).map fun i => SG.getD i 0
theorem sgOf_ok : ∀ n < 16, 1 ≤ n → sgsL (sgOf ((n : Nat) : Int)) = true ∧ (sgOf ((n : Nat) : Int)).length ≤ 4 ∧ ∀ c ∈ sgOf ((n : Nat) : Int), c < 256 := by decide +kernel
def GoodS (l : List Nat) : Prop := sgsL l = true ∧ l.length ≤ 4 ∧ ∀ c ∈ l, c < 256
/-- a drawn line, of m lines -/
def OdF (m : Nat) : Od → Prop
  | .wait s n => GoodS s ∧ 1 ≤ n ∧ n ≤ 9
  | .count s t n => GoodS s ∧ GoodS t ∧ 1 ≤ n ∧ n ≤ 9
  | .pass n => 1 ≤ n ∧ n ≤ 9
  | .more n l => 1 ≤ n ∧ n ≤ 9 ∧ l < m
  | .last s l => GoodS s ∧ l < m
  | .go l => l < m
  | .name w => w ∈ wordsN
  | .skip => True
def odD : Od → List PyData
  | .wait s n => [dS cWait, dS s, .int n]
  | .count s t n => [dS cCount, dS s, dS t, .int n]
  | .pass n => [dS cPass, .int n]
  | .more n l => [dS cMore, .int n, .int l]
  | .last s l => [dS cLast, dS s, .int l]
  | .go l => [dS cGo, .int l]
  | .name w => [dS cName, dS w]
  | .skip => [dS cSkip]
theorem str_at {l : List Nat} {B : Hp} (h : l.length ≤ 10000) : At B (S l) (dS l) := .str l h
theorem odD_at {o : Od} {m : Nat} (h : OdF m o) (B : Hp) : AtAll B (odV o) (odD o) := by
  cases o with
  | wait s n => exact .cons (.str _ (by decide)) (.cons (str_at (by have := h.1.2.1; omega)) (.one (.int _)))
  | count s t n => exact .cons (.str _ (by decide)) (.cons (str_at (by have := h.1.2.1; omega)) (.cons (str_at (by have := h.2.1.2.1; omega)) (.one (.int _))))
  | pass n => exact .cons (.str _ (by decide)) (.one (.int _))
  | more n l => exact .cons (.str _ (by decide)) (.cons (.int _) (.one (.int _)))
  | last s l => exact .cons (.str _ (by decide)) (.cons (str_at (by have := h.1.2.1; omega)) (.one (.int _)))
  | go l => exact .cons (.str _ (by decide)) (.one (.int _))
  | name w => exact .cons (.str _ (by decide)) (.one (str_at (by have := (wordsN_ok _ h).2.1; omega)))
  | skip => exact .one (.str _ (by decide))
theorem at_odV {o : Od} {H : Hp} {ys : List V} (h : AtAll H ys (odD o)) : ys = odV o := by
  have one : ∀ {ys : List V} {d : PyData} {ds : List PyData}, AtAll H ys (d :: ds) → ∃ v r, ys = v :: r ∧ At H v d ∧ AtAll H r ds := fun h => by
    cases h with
    | cons a b => exact ⟨_, _, rfl, a, b⟩
  have nl : ∀ {ys : List V}, AtAll H ys [] → ys = [] := fun h => by cases h; rfl
  have st : ∀ {v : V} {l : List Nat}, At H v (dS l) → v = S l := fun h => h.strd
  cases o with
  | wait s n =>
    obtain ⟨v, r, rfl, a1, h⟩ := one h
    obtain ⟨v2, r, rfl, a2, h⟩ := one h
    obtain ⟨v3, r, rfl, a3, h⟩ := one h
    rw [nl h, st a1, st a2, a3.intd]; rfl
  | count s t n =>
    obtain ⟨v, r, rfl, a1, h⟩ := one h
    obtain ⟨v2, r, rfl, a2, h⟩ := one h
    obtain ⟨v3, r, rfl, a3, h⟩ := one h
    obtain ⟨v4, r, rfl, a4, h⟩ := one h
    rw [nl h, st a1, st a2, st a3, a4.intd]; rfl
  | pass n =>
    obtain ⟨v, r, rfl, a1, h⟩ := one h
    obtain ⟨v2, r, rfl, a2, h⟩ := one h
    rw [nl h, st a1, a2.intd]; rfl
  | more n l =>
    obtain ⟨v, r, rfl, a1, h⟩ := one h
    obtain ⟨v2, r, rfl, a2, h⟩ := one h
    obtain ⟨v3, r, rfl, a3, h⟩ := one h
    rw [nl h, st a1, a2.intd, a3.intd]; rfl
  | last s l =>
    obtain ⟨v, r, rfl, a1, h⟩ := one h
    obtain ⟨v2, r, rfl, a2, h⟩ := one h
    obtain ⟨v3, r, rfl, a3, h⟩ := one h
    rw [nl h, st a1, st a2, a3.intd]; rfl
  | go l =>
    obtain ⟨v, r, rfl, a1, h⟩ := one h
    obtain ⟨v2, r, rfl, a2, h⟩ := one h
    rw [nl h, st a1, a2.intd]; rfl
  | name w =>
    obtain ⟨v, r, rfl, a1, h⟩ := one h
    obtain ⟨v2, r, rfl, a2, h⟩ := one h
    rw [nl h, st a1, st a2]; rfl
  | skip =>
    obtain ⟨v, r, rfl, a1, h⟩ := one h
    rw [nl h, st a1]; rfl
theorem in_ {n : Nat} {lo hi : Int} (h1 : lo ≤ n) (h2 : (n : Int) ≤ hi) : isIn (.int n) lo hi = true := by
  rw [isIn_int, decide_eq_true h1, decide_eq_true h2]; rfl
theorem odD_ord {o : Od} {m : Nat} (h : OdF m o) : isOrd m (.tuple (odD o)) = true := by
  cases o with
  | wait s n => show (sgsL s && isIn (.int n) 1 9) = true; rw [h.1.1, in_ (by have := h.2; omega) (by have := h.2; omega)]; rfl
  | count s t n => show (sgsL s && sgsL t && isIn (.int n) 1 9) = true; rw [h.1.1, h.2.1.1, in_ (by have := h.2.2; omega) (by have := h.2.2; omega)]; rfl
  | pass n => exact in_ (by have := h.1; omega) (by have := h.2; omega)
  | more n l => show (isIn (.int n) 1 9 && isIn (.int l) 0 (m - 1)) = true; rw [in_ (by have := h.1; omega) (by have := h.2; omega), in_ (by omega) (by have := h.2.2; omega)]; rfl
  | last s l => show (sgsL s && isIn (.int l) 0 (m - 1)) = true; rw [h.1.1, in_ (by omega) (by have := h.2; omega)]; rfl
  | go l =>
    have : l < m := h
    show isIn (.int l) 0 (m - 1) = true
    exact in_ (n := l) (by omega) (by omega)
  | name w =>
    obtain ⟨a, b, c, _⟩ := wordsN_ok _ h
    show (isMkL w && decide (w ≠ [])) = true
    unfold isMkL
    rw [decide_eq_true a, decide_eq_true (show w.length ≤ 8 by omega), (List.all_eq_true.mpr fun c' hc' => decide_eq_true (c c' hc') : (w.all fun c => decide (c ∈ MK)) = true)]; rfl
  | skip => rfl
theorem lay_str {l : List Nat} (h : ∀ c ∈ l, c < 256) : (dS l).canLay0 = true := by
  simp only [PyData.canLay0]
  exact strOk_small fun c hc => Nat.lt_trans (h c hc) (by decide)
theorem odD_lay {o : Od} {m : Nat} (h : OdF m o) : PyData.canLayAll0 (odD o) = true := by
  have w : ∀ {l : List Nat}, (∀ c ∈ l, c < 256) → (dS l).canLay0 = true := lay_str
  have i : ∀ i : Int, (PyData.int i).canLay0 = true := fun _ => rfl
  cases o with
  | wait s n => simp only [odD, PyData.canLayAll0, w (l := cWait) (by decide), w h.1.2.2, i, Bool.and_self]
  | count s t n => simp only [odD, PyData.canLayAll0, w (l := cCount) (by decide), w h.1.2.2, w h.2.1.2.2, i, Bool.and_self]
  | pass n => simp only [odD, PyData.canLayAll0, w (l := cPass) (by decide), i, Bool.and_self]
  | more n l => simp only [odD, PyData.canLayAll0, w (l := cMore) (by decide), i, Bool.and_self]
  | last s l => simp only [odD, PyData.canLayAll0, w (l := cLast) (by decide), w h.1.2.2, i, Bool.and_self]
  | go l => simp only [odD, PyData.canLayAll0, w (l := cGo) (by decide), i, Bool.and_self]
  | name v => simp only [odD, PyData.canLayAll0, w (l := cName) (by decide), w (wordsN_ok _ h).2.2.2, Bool.and_self]
  | skip => simp only [odD, PyData.canLayAll0, w (l := cSkip) (by decide), Bool.and_self]
theorem odD_dep (o : Od) : PyData.depthAll (odD o) = 0 := by cases o <;> rfl
theorem odD_deep (o : Od) : deepD.deepDs (odD o) = odD o := by cases o <;> rfl
section
variable {P : Program} {w : World} {K : PySem.W.Frag} {mg : Str → Option Value} {base : Heap} {C_GlimError C_BadLine C_BadOrder C_NoLine C_Lines C_Orders C_WORDS : Addr}
def p_L_signs (K : PySem.W.Frag) : P1 := fun x H Q _ => ∃ Hk dd, x = .ref dd.a ∧ Dr K dd Hk H ∧ ∀ l H', Dr K dd Hk H' → GoodS l → Q (S l) H'
theorem ok_L_signs (T : Txt K mg C_GlimError C_BadLine C_BadOrder C_NoLine C_Lines C_Orders C_WORDS) : OK P w K mg base CX0 3 "_law_signs" ["_law_draw_here"] (sp1  (p_L_signs K)) := by
  refine OK.mk (k := 2) T.d_L_signs sc_L_signs len1 fun f cdv A outer s H vs Q E hr h => ?_
  obtain ⟨x, rfl, h⟩ := h
  refine ⟨_, (pss_cons (ps_set (i := 1) sc_L_signs.nd rfl (Or.inl rfl) (pe_f (ok_L_pick (K := K) T) (hr.mono (by decide)) pass0 (pa_cons (pv 0) (pa_cons pe_int pa_nil)))) (pss_cons (ps_if (pt_cmpR (opEq K hr.units) (pv 1) pe_int (nomark _)) (pss_one (ps_ret (pe_S [46]))) pss_nil) (pss_cons (ps_if (pt_cmpR (opEq K hr.units) (pv 1) pe_int (nomark _)) (pss_one (ps_ret (pe_S [103, 114, 119]))) pss_nil) (pss_cons (ps_set (i := 2) sc_L_signs.nd rfl (Or.inr rfl) (pe_op (opAdd K) pe_int (pe_f (ok_L_pick (K := K) T) (hr.mono (by decide)) pass0 (pa_cons (pv 0) (pa_cons pe_int pa_nil))))) (pss_one (ps_ret (peJoin K (pe_S []) (pe_lc (own := [("_law_place", 3)]) (g := gName 3) (by rfl) sc_L_signs.nd (pi_range1 rfl T.b_range (pa_cons pe_int pa_nil)) (blkOk_by (own := [("_law_place", 3)]) (N := ["_law_draw_here", "_law_kind", "_law_number_here", "_law_place"]) (sc := (defScope s_L_signs)) (by decide +kernel)) (fun _ _ _ _ _ => (pg_name (i := 3) sc_L_signs.nd rfl (Or.inl rfl))) (fun _ _ _ _ _ => (pts_one (pt_cmpR (opEq K hr.units) (pe_op op_modP (pe_callTy call_intP (by rfl) T.b_int (by decide +kernel) (pa_cons (pe_op op_fdivP (pv 2) (pe_ix (ixK K) (pe_lst (pa_cons pe_int (pa_cons pe_int (pa_cons pe_int (pa_cons pe_int pa_nil))))) (pv 3) (fun _ _ => rfl))) pa_nil)) pe_int) pe_int (nomark _)))) (fun _ _ _ _ _ => (pe_ix (ixK K) (pe_S [46, 103, 114, 119]) (pv 3) (fun _ _ => rfl))))))))))), ?_⟩
  show (_ : TS) { nx := fun _ H' => Q .non H', rt := Q } [some x, none, none, none] H
  obtain ⟨Hk, dd, rfl, dr, q⟩ := h
  walk_at "go"
  refine ⟨Hk, dd, 4, rfl, rfl, dr, by decide, fun k G1 d1 bk => ?_⟩
  walk_at "go"
  refine i_dec (fun e => ?_) (fun e => ?_)
  · walk_at "go"
    exact q _ _ d1 ⟨by decide, by decide, by decide⟩
  walk_at "go"
  refine i_dec (fun e2 => ?_) (fun e2 => ?_)
  · walk_at "go"
    exact q _ _ d1 ⟨by decide, by decide, by decide⟩
  walk_at "go"
  refine ⟨Hk, dd, 15, rfl, rfl, d1, by decide, fun n G2 d2 bn => ?_⟩
  have n0 := bn.1
  have n15 := bn.2.1 (by decide)
  walk_at "go"
  refine c_rng1 4 (fun R k => by walk_at "go"; exact k) (by decide) (fun i => decide (((1 + n) / PW i) % 2 = 1)) (fun i => S [SG.getD i 0]) (fun _ => rfl) (fun i H3 hi s3 QB k_1 => ?_) (fun i H3 hi s3 _ QV k_1 => ?_) (fun Dl H3 n3 s3 d3 => ?_)
  · show (_ : TT) [some (.ref dd.a), some (.int k), some (.int (1 + n)), some (.int (i : Int))] H3 QB
    have hi' : i = 0 ∨ i = 1 ∨ i = 2 ∨ i = 3 := by omega
    walk_at "go"
    refine i_new (by show 4 ≤ 100000; omega) fun t nt => ?_
    walk_at "go"
    rcases hi' with rfl | rfl | rfl | rfl
    · refine i_ix_lst (v := .int 1) (.inl (.inl upd_same)) rfl ?_
      walk_at "go"
      exact k_1 _ (same_upd nt)
    · refine i_ix_lst (v := .int 2) (.inl (.inl upd_same)) rfl ?_
      walk_at "go"
      exact k_1 _ (same_upd nt)
    · refine i_ix_lst (v := .int 4) (.inl (.inl upd_same)) rfl ?_
      walk_at "go"
      exact k_1 _ (same_upd nt)
    · refine i_ix_lst (v := .int 8) (.inl (.inl upd_same)) rfl ?_
      walk_at "go"
      exact k_1 _ (same_upd nt)
  · show (_ : TE) [some (.ref dd.a), some (.int k), some (.int (1 + n)), some (.int (i : Int))] H3 QV
    have hc : SG[i]? = some (SG.getD i 0) := by rw [List.getD_eq_getElem?_getD, List.getElem?_eq_getElem (show i < SG.length from hi)]; rfl
    walk_at "go"
    refine i_ix_str (l := SG) (by decide) (by omega) (by rw [Int.toNat_natCast]; exact hc) ?_
    exact k_1 H3 (Same.refl H3)
  · obtain ⟨m, rfl⟩ := Int.eq_ofNat_of_zero_le n0
    have e1 : (1 : Int) + (m : Int) = ((m + 1 : Nat) : Int) := by omega
    have ek : kept (fun i => decide (((1 + (m : Int)) / PW i) % 2 = 1)) (fun i => S [SG.getD i 0]) 4 = (sgOf ((m + 1 : Nat) : Int)).map fun c => S [c] := by
      unfold kept sgOf
      rw [e1, List.map_map]; rfl
    rw [ek] at d3
    have g := sgOf_ok (m + 1) (by omega) (by omega)
    walk_at "go"
    refine i_join1 (.inl (.inl d3)) (by have := g.2.1; omega) ?_
    exact q _ _ (d2.same s3) g
def p_L_order (K : PySem.W.Frag) : P4 := fun x y z u H Q _ => ∃ Hk dd, ∃ m : Nat, ∃ nl n1 n2, ∃ top : Nat, x = .ref dd.a ∧ y = .int (m : Int) ∧ z = .ref nl ∧ u = .int (top : Int) ∧ 1 ≤ m ∧ m ≤ 21 ∧ 1 ≤ top ∧ top ≤ 9 ∧ Dr K dd Hk H ∧ Hk nl = some (.lst ([n1, n2].map S)) ∧ n1 ∈ wordsN ∧ n2 ∈ wordsN ∧
  ∀ a o H', Hk a = none → Dr K dd (upd Hk a (.tup (odV o))) H' → OdF m o → Q (.ref a) H'
theorem to_nat {n : Int} {t : Nat} (b : Btw n t) (h : 1 ≤ t) : ∃ k : Nat, n = (k : Int) ∧ k < t := by
  obtain ⟨k, rfl⟩ := Int.eq_ofNat_of_zero_le b.1
  refine ⟨k, rfl, ?_⟩
  by_cases z : 2 ≤ (t : Int)
  · have := b.2.1 z; omega
  · have := b.2.2 (by omega); omega
theorem one_add (k : Nat) : (1 : Int) + (k : Int) = ((1 + k : Nat) : Int) := by omega
theorem two_names {n1 n2 : List Nat} {n : Int} (w1 : n1 ∈ wordsN) (w2 : n2 ∈ wordsN) (bn : Btw n 2) : ∃ w, atI ([n1, n2].map S) n = some (S w) ∧ w ∈ wordsN := by
  have h0 := bn.1
  have h1 := bn.2.1 (by decide)
  have : n = 0 ∨ n = 1 := by omega
  rcases this with rfl | rfl
  · exact ⟨n1, rfl, w1⟩
  · exact ⟨n2, rfl, w2⟩
theorem ok_L_order (T : Txt K mg C_GlimError C_BadLine C_BadOrder C_NoLine C_Lines C_Orders C_WORDS) : OK P w K mg base CX0 4 "_law_order" ["_law_draw_here", "_law_many", "_law_names_here", "_law_top"] (sp4  (p_L_order K)) := by
  refine OK.mk (k := 3) T.d_L_order sc_L_order len4 fun f cdv A outer s H vs Q E hr h => ?_
  obtain ⟨x, y, z, u, rfl, h⟩ := h
  refine ⟨_, (pss_cons (ps_set (i := 4) sc_L_order.nd rfl (Or.inl rfl) (pe_f (ok_L_pick (K := K) T) (hr.mono (by decide)) pass0 (pa_cons (pv 0) (pa_cons pe_int pa_nil)))) (pss_cons (ps_if (pt_cmpR op_ltP (pv 4) pe_int (nomark _)) (pss_one (ps_ret (pe_tup (pa_cons (pe_S [119, 97, 105, 116]) (pa_cons (pe_f (ok_L_signs (K := K) T) (hr.mono (by decide)) pass0 (pa_cons (pv 0) pa_nil)) (pa_cons (pe_op (opAdd K) pe_int (pe_f (ok_L_pick (K := K) T) (hr.mono (by decide)) pass0 (pa_cons (pv 0) (pa_cons (pv 3) pa_nil)))) pa_nil)))))) pss_nil) (pss_cons (ps_if (pt_cmpR op_ltP (pv 4) pe_int (nomark _)) (pss_one (ps_ret (pe_tup (pa_cons (pe_S [99, 111, 117, 110, 116]) (pa_cons (pe_f (ok_L_signs (K := K) T) (hr.mono (by decide)) pass0 (pa_cons (pv 0) pa_nil)) (pa_cons (pe_f (ok_L_signs (K := K) T) (hr.mono (by decide)) pass0 (pa_cons (pv 0) pa_nil)) (pa_cons (pe_op (opAdd K) pe_int (pe_f (ok_L_pick (K := K) T) (hr.mono (by decide)) pass0 (pa_cons (pv 0) (pa_cons (pv 3) pa_nil)))) pa_nil))))))) pss_nil) (pss_cons (ps_if (pt_cmpR (opEq K hr.units) (pv 4) pe_int (nomark _)) (pss_one (ps_ret (pe_tup (pa_cons (pe_S [112, 97, 115, 115]) (pa_cons (pe_op (opAdd K) pe_int (pe_f (ok_L_pick (K := K) T) (hr.mono (by decide)) pass0 (pa_cons (pv 0) (pa_cons (pv 3) pa_nil)))) pa_nil))))) pss_nil) (pss_cons (ps_if (pt_cmpR (opEq K hr.units) (pv 4) pe_int (nomark _)) (pss_one (ps_ret (pe_tup (pa_cons (pe_S [109, 111, 114, 101]) (pa_cons (pe_op (opAdd K) pe_int (pe_f (ok_L_pick (K := K) T) (hr.mono (by decide)) pass0 (pa_cons (pv 0) (pa_cons (pv 3) pa_nil)))) (pa_cons (pe_f (ok_L_pick (K := K) T) (hr.mono (by decide)) pass0 (pa_cons (pv 0) (pa_cons (pv 1) pa_nil))) pa_nil)))))) pss_nil) (pss_cons (ps_if (pt_cmpR (opEq K hr.units) (pv 4) pe_int (nomark _)) (pss_one (ps_ret (pe_tup (pa_cons (pe_S [108, 97, 115, 116]) (pa_cons (pe_f (ok_L_signs (K := K) T) (hr.mono (by decide)) pass0 (pa_cons (pv 0) pa_nil)) (pa_cons (pe_f (ok_L_pick (K := K) T) (hr.mono (by decide)) pass0 (pa_cons (pv 0) (pa_cons (pv 1) pa_nil))) pa_nil)))))) pss_nil) (pss_cons (ps_if (pt_cmpR (opEq K hr.units) (pv 4) pe_int (nomark _)) (pss_one (ps_ret (pe_tup (pa_cons (pe_S [103, 111]) (pa_cons (pe_f (ok_L_pick (K := K) T) (hr.mono (by decide)) pass0 (pa_cons (pv 0) (pa_cons (pv 1) pa_nil))) pa_nil))))) pss_nil) (pss_cons (ps_if (pt_cmpR op_ltP (pv 4) pe_int (nomark _)) (pss_one (ps_ret (pe_tup (pa_cons (pe_S [110, 97, 109, 101]) (pa_cons (pe_ix (ixK K) (pv 2) (pe_f (ok_L_pick (K := K) T) (hr.mono (by decide)) pass0 (pa_cons (pv 0) (pa_cons (pe_callB (cLen K) (by rfl) T.b_len (by decide +kernel) (pa_cons (pv 2) pa_nil)) pa_nil))) (fun _ _ => rfl)) pa_nil))))) pss_nil) (pss_one (ps_ret (pe_tup (pa_cons (pe_S [115, 107, 105, 112]) pa_nil)))))))))))), ?_⟩
  show (_ : TS) { nx := fun _ H' => Q .non H', rt := Q } [some x, some y, some z, some u, none] H
  obtain ⟨Hk, dd, m, nl, n1, n2, top, rfl, rfl, rfl, rfl, m1, m2, t1, t2, dr, hn, w1, w2, q⟩ := h
  have fin : ∀ {G : Hp} (o : Od), Dr K dd Hk G → OdF m o → ∀ a, G a = none → Q (.ref a) (upd G a (.tup (odV o))) := fun o d f a na => q a o _ (d.free na) (d.new na) f
  walk_at "go"
  refine ⟨Hk, dd, 11, rfl, rfl, dr, by decide, fun k H1 d1 bk => ?_⟩
  have k0 := bk.1
  have k11 := bk.2.1 (by decide)
  walk_at "go"
  refine i_dec (fun e0 => ?_) (fun e0 => ?_)
  · walk_at "go"
    refine ⟨Hk, dd, rfl, d1, fun l H2 d2 gl => ?_⟩
    walk_at "go"
    refine ⟨Hk, dd, top, rfl, rfl, d2, by omega, fun n H3 d3 bn => ?_⟩
    obtain ⟨n, rfl, hn9⟩ := to_nat bn t1
    walk_at "go"
    rw [one_add]
    refine i_new (by show 3 ≤ 100000; omega) (fin (.wait l (1 + n)) d3 ⟨gl, by omega, by omega⟩)
  walk_at "go"
  refine i_dec (fun e1 => ?_) (fun e1 => ?_)
  · walk_at "go"
    refine ⟨Hk, dd, rfl, d1, fun l H2 d2 gl => ?_⟩
    walk_at "go"
    refine ⟨Hk, dd, rfl, d2, fun l2 H3 d3 gl2 => ?_⟩
    walk_at "go"
    refine ⟨Hk, dd, top, rfl, rfl, d3, by omega, fun n H4 d4 bn => ?_⟩
    obtain ⟨n, rfl, hn9⟩ := to_nat bn t1
    walk_at "go"
    rw [one_add]
    refine i_new (by show 4 ≤ 100000; omega) (fin (.count l l2 (1 + n)) d4 ⟨gl, gl2, by omega, by omega⟩)
  walk_at "go"
  refine i_dec (fun e2 => ?_) (fun e2 => ?_)
  · walk_at "go"
    refine ⟨Hk, dd, top, rfl, rfl, d1, by omega, fun n H4 d4 bn => ?_⟩
    obtain ⟨n, rfl, hn9⟩ := to_nat bn t1
    walk_at "go"
    rw [one_add]
    refine i_new (by show 2 ≤ 100000; omega) (fin (.pass (1 + n)) d4 ⟨by omega, by omega⟩)
  walk_at "go"
  refine i_dec (fun e3 => ?_) (fun e3 => ?_)
  · walk_at "go"
    refine ⟨Hk, dd, top, rfl, rfl, d1, by omega, fun n H4 d4 bn => ?_⟩
    obtain ⟨n, rfl, hn9⟩ := to_nat bn t1
    walk_at "go"
    refine ⟨Hk, dd, m, rfl, rfl, d4, by omega, fun n2 H5 d5 bn2 => ?_⟩
    obtain ⟨n2, rfl, hn2⟩ := to_nat bn2 m1
    walk_at "go"
    rw [one_add]
    refine i_new (by show 3 ≤ 100000; omega) (fin (.more (1 + n) n2) d5 ⟨by omega, by omega, hn2⟩)
  walk_at "go"
  refine i_dec (fun e4 => ?_) (fun e4 => ?_)
  · walk_at "go"
    refine ⟨Hk, dd, rfl, d1, fun l H2 d2 gl => ?_⟩
    walk_at "go"
    refine ⟨Hk, dd, m, rfl, rfl, d2, by omega, fun n2 H5 d5 bn2 => ?_⟩
    obtain ⟨n2, rfl, hn2⟩ := to_nat bn2 m1
    walk_at "go"
    refine i_new (by show 3 ≤ 100000; omega) (fin (.last l n2) d5 ⟨gl, hn2⟩)
  walk_at "go"
  refine i_dec (fun e5 => ?_) (fun e5 => ?_)
  · walk_at "go"
    refine ⟨Hk, dd, m, rfl, rfl, d1, by omega, fun n2 H5 d5 bn2 => ?_⟩
    obtain ⟨n2, rfl, hn2⟩ := to_nat bn2 m1
    walk_at "go"
    refine i_new (by show 2 ≤ 100000; omega) (fin (.go n2) d5 hn2)
  walk_at "go"
  refine i_dec (fun e6 => ?_) (fun e6 => ?_)
  · walk_at "go"
    refine i_len_lst (.inl (.inl (d1.old hn))) ?_
    walk_at "go"
    refine ⟨Hk, dd, 2, rfl, rfl, d1, by decide, fun n H5 d5 bn => ?_⟩
    obtain ⟨w', hw, gw⟩ := two_names w1 w2 bn
    refine i_ix_lst (.inl (.inl (d5.old hn))) hw ?_
    walk_at "go"
    refine i_new (by show 2 ≤ 100000; omega) (fin (.name w') d5 gw)
  · walk_at "go"
    refine i_new (by show 1 ≤ 100000; omega) (fin .skip d1 trivial)
end
end K43
namespace K43
open PySem PySem.Spec PyProof.Rows L2 Fg
local macro_rules | `(tactic| walk_at "sq") => `(tactic| first
  | assumption
  | exact .inl (.inl (by assumption))
  | exact .inl (.inl upd_same))
local macro_rules | `(tactic| walk_at "st") => `(tactic| first
  | assumption
  | exact .inl (.inl (by assumption))
  | exact .inl (.inl upd_same))
local macro_rules | `(tactic| walk_at "o") => `(tactic| first
  | omega
  | assumption
  | (simp only [List.length_append, List.length_take, List.length_drop, List.length_cons, List.length_nil, List.length_singleton, List.length_map, List.length_range, Int.toNat_natCast] ; omega))
local macro_rules | `(tactic| walk_at "s") => `(tactic| first
  | (with_reducible refine i_seq ?_)
  | (with_reducible refine i_asg ?_)
  | ((with_reducible refine' i_var ?h1 ?_); (case h1 => rfl))
  | (with_reducible refine i_c ?_)
  | ((with_reducible refine' i_gname' ?h1 ?_); (case h1 => (simp only [List.set_cons_zero, List.set_cons_succ]; rfl)))
  | (with_reducible refine i_op ?_)
  | (with_reducible refine i_ifS ?_)
  | (with_reducible refine i_for ?_)
  | (with_reducible refine i_test ?_)
  | (with_reducible refine i_B ?_)
  | (with_reducible refine i_exbl ?_)
  | (with_reducible refine i_exint ?_)
  | (with_reducible refine i_cb ?_)
  | (with_reducible refine i_nil ?_)
  | (with_reducible refine i_cons ?_)
  | (with_reducible refine i_ret ?_)
  | (with_reducible refine i_sl ?_)
  | (with_reducible refine i_nopart ?_)
  | (with_reducible refine i_part ?_)
  | (with_reducible refine i_add_int ?_)
  | (with_reducible refine i_sub ?_)
  | (with_reducible refine i_lt ?_)
  | ((with_reducible refine' i_mod ?h1 ?_); (case h1 => walk_at "o"))
  | ((with_reducible refine' i_fdiv ?h1 ?_); (case h1 => (refine cdiv_small ?_ ?_ <;> walk_at "o")))
  | ((with_reducible refine' i_sl_to ?h1 ?h2 ?_); (case h1 => walk_at "o"); (case h2 => walk_at "o"))
  | ((with_reducible refine' i_sl_from ?h1 ?h2 ?_); (case h1 => walk_at "o"); (case h2 => walk_at "o"))
  | ((with_reducible refine' i_add_str ?h1 ?_); (case h1 => walk_at "o"))
  | ((with_reducible refine' i_mul_int ?h1 ?_); (case h1 => first | (refine mul_small ?_ ?_ <;> walk_at "o") | (refine mul_smallR ?_ ?_ <;> walk_at "o")))
  | (with_reducible refine i_le ?_)
  | (with_reducible refine i_gt ?_)
  | (with_reducible refine i_ge ?_)
  | (with_reducible refine i_eq_int ?_)
  | (with_reducible refine i_eq_str ?_)
  | (with_reducible refine i_ne_int ?_)
  | (with_reducible refine i_ne_str ?_)
  | (with_reducible refine i_eq_bl ?_)
  | (with_reducible refine i_ne_bl ?_)
  | (with_reducible refine i_in_sg ?_)
  | (with_reducible refine i_notIn_sg ?_)
  | (with_reducible refine i_call ?_)
  | (with_reducible refine i_callS ?_)
  | (with_reducible refine i_sp1 ?_)
  | (with_reducible refine i_sp2 ?_)
  | (with_reducible refine i_sp3 ?_)
  | (with_reducible refine i_sp4 ?_)
  | (with_reducible refine i_sp1' ?_)
  | (with_reducible refine i_sp2' ?_)
  | (with_reducible refine i_sp3' ?_)
  | ((with_reducible refine' i_ix_lst ?h1 ?h2 ?_); (case h1 => walk_at "sq"); (case h2 => first | exact atI_nat rfl | rfl))
  | ((with_reducible refine' i_ix_tup ?h1 ?h2 ?_); (case h1 => walk_at "st"); (case h2 => first | exact atI_nat rfl | rfl))
  | (with_reducible refine i_gsub ?_)
  | (with_reducible refine i_par ?_)
  | (with_reducible refine i_lstRg1 ?_)
  | (with_reducible refine i_app ?_)
  | (with_reducible refine i_par2 ?_)
  | ((with_reducible refine' i_aug ?h1 ?_); (case h1 => rfl))
  | (with_reducible refine i_ipI ?_)
  | ((with_reducible refine' i_gtup2 ?h1 ?_); (case h1 => walk_at "st"))
  | (with_reducible refine i_int_bl ?_)
  | (with_reducible refine i_raise ?_)
  | (with_reducible refine i_mkE ?_)
  | (with_reducible refine i_ex1 ?_)
  | (with_reducible refine i_and ?_)
  | (with_reducible refine i_or ?_)
  | (with_reducible refine i_not ?_)
  | (with_reducible refine i_tt ?_)
  | (with_reducible refine i_ff ?_)
  | (with_reducible refine i_nott ?_)
  | (with_reducible refine i_notf ?_)
  | (with_reducible refine i_andV ?_)
  | (with_reducible refine i_orV ?_)
  | (with_reducible refine i_notV ?_)
  | (with_reducible refine i_ifE ?_)
  | (with_reducible refine i_tup ?_)
  | (with_reducible refine i_lst ?_)
  | (with_reducible refine i_un ?_)
  | (with_reducible refine i_neg ?_)
  | (with_reducible refine i_chain ?_)
  | (with_reducible refine i_next ?_)
  | (with_reducible refine i_retN ?_)
  | (with_reducible refine i_drop ?_)
  | (with_reducible refine i_int_int ?_)
  | (with_reducible refine i_abs ?_)
  | (with_reducible refine i_m1c ?_)
  | (with_reducible refine i_is_non ?_)
  | (with_reducible refine i_is_int ?_)
  | (with_reducible refine i_is_bl ?_)
  | (with_reducible refine i_isn_bl ?_)
  | (with_reducible refine i_is_str ?_)
  | (with_reducible refine i_is_ref ?_)
  | (with_reducible refine i_isn_non ?_)
  | (with_reducible refine i_isn_int ?_)
  | (with_reducible refine i_isn_str ?_)
  | (with_reducible refine i_isn_ref ?_)
  | (with_reducible refine i_len_str ?h1 ?_; (case h1 => walk_at "o"))
  | (with_reducible refine i_callD ?_)
  | (with_reducible refine i_spD2 ?_)
  | (with_reducible refine i_spM1 ?_)
  | (with_reducible refine i_spM2 ?_)
  | (with_reducible refine i_spM3 ?_)
  | (with_reducible refine i_spM4 ?_)
  | (with_reducible refine i_spM3d ?_)
  | (with_reducible refine i_tfld ?_)
  | (with_reducible refine i_sfld ?_)
  | (with_reducible refine i_meth ?_)
  | (with_reducible refine i_make ?_)
  | (with_reducible refine i_spl ?_)
  | (with_reducible refine i_mkE2 ?_)
  | (with_reducible refine i_ex2 ?_)
  | (with_reducible refine i_dget ?_)
  | (with_reducible refine i_tru ?_)
  | (with_reducible refine i_dput ?_)
  | (with_reducible refine i_dnotin ?_)
  | (with_reducible refine i_din ?_)
  | (with_reducible refine i_rev ?_)
  | (with_reducible refine i_isi_int_int ?_) | (with_reducible refine i_isi_int_bool ?_) | (with_reducible refine i_isi_int_str ?_) | (with_reducible refine i_isi_int_tuple ?_) | (with_reducible refine i_isi_int_list ?_)
  | (with_reducible refine i_isi_bl_int ?_) | (with_reducible refine i_isi_bl_bool ?_) | (with_reducible refine i_isi_bl_str ?_) | (with_reducible refine i_isi_bl_tuple ?_) | (with_reducible refine i_isi_bl_list ?_)
  | (with_reducible refine i_isi_str_int ?_) | (with_reducible refine i_isi_str_bool ?_) | (with_reducible refine i_isi_str_str ?_) | (with_reducible refine i_isi_str_tuple ?_) | (with_reducible refine i_isi_str_list ?_)
  | (with_reducible refine i_isi_non_int ?_) | (with_reducible refine i_isi_non_bool ?_) | (with_reducible refine i_isi_non_str ?_) | (with_reducible refine i_isi_non_tuple ?_) | (with_reducible refine i_isi_non_list ?_))
local macro_rules | `(tactic| walk_at "go") => `(tactic| (repeat' (walk_at "s")))
local macro_rules | `(tactic| walk_at "n") => `(tactic| simp only [wipe, List.map_cons, List.map_nil, List.set_cons_zero, List.set_cons_succ])
inductive FrW : List Fm → List (List Nat) → List PyData → Prop
  | nil : FrW [] [] []
  | cons {f : Fm} {fs : List Fm} {u : List Nat} {us : List (List Nat)} {d : PyData} {ds : List PyData} (e : fmD f u = some d) (h : FrW fs us ds) : FrW (f :: fs) (u :: us) (d :: ds)
theorem FrW.read : ∀ {fs : List Fm} {us : List (List Nat)} {ds : List PyData}, FrW fs us ds → ∀ (pre : List (List Nat)) (dn : List PyData), rdk fmD (pre ++ us) pre.length dn fs = .inl (dn ++ ds)
  | _, _, _, .nil, pre, dn => by rw [rdk_end, if_neg (by simp), List.append_nil]
  | _, _, _, .cons (f := f) (fs := fs) (u := u) (us := us) (d := d) (ds := ds) e h, pre, dn => by
    have hk : pre.length < (pre ++ u :: us).length := by rw [List.length_append, List.length_cons]; omega
    have hg : (pre ++ u :: us).getD pre.length [] = u := by
      rw [List.getD_eq_getElem?_getD, List.getElem?_append_right (Nat.le_refl _), Nat.sub_self]; rfl
    rw [rdk_ok hk (by rw [hg]; exact e)]
    have ih := FrW.read h (pre ++ [u]) (dn ++ [d])
    rw [List.length_append, List.length_singleton, List.append_assoc, List.append_assoc] at ih
    exact ih
theorem FrW.words {fs : List Fm} {us : List (List Nat)} {ds : List PyData} {w : List Nat} (h : FrW fs us ds) (hf : forms w = some fs) : rdW fmD forms (w :: us) = .inl (dS w :: ds) := by
  rw [rdW_some (fm := fmD) (ws := w :: us) (fs := fs) hf]
  exact h.read [w] [dS w]
theorem num_t : ∀ n < 10, 1 ≤ n → numIn 1 9 (dec n) = some ((n : Nat) : Int) := by decide +kernel
theorem num_l : ∀ n < 20, numIn 0 19 (dec n) = some ((n : Nat) : Int) := by decide +kernel
theorem dec_no : ∀ n < 100, 32 ∉ dec n := by decide +kernel
theorem dec_256 : ∀ n < 100, ∀ c ∈ dec n, c < 256 := by decide +kernel
theorem f_t {n : Nat} (h1 : 1 ≤ n) (h2 : n ≤ 9) : fmD .t (dec n) = some (.int (n : Int)) := by
  show (numIn 1 9 (dec n)).map PyData.int = _
  rw [num_t n (by omega) h1]; rfl
theorem f_l {n : Nat} (h2 : n < 20) : fmD .l (dec n) = some (.int (n : Int)) := by
  show (numIn 0 19 (dec n)).map PyData.int = _
  rw [num_l n h2]; rfl
theorem f_sg {s : List Nat} (h : GoodS s) : fmD .sg s = some (dS s) := by
  show (if sgsL s = true then some (dS s) else none) = _
  rw [if_pos h.1]
theorem words_mk {w : List Nat} (h : w ∈ wordsN) : (isMkL w && decide (w ≠ [])) = true := by
  obtain ⟨a, b, c, _⟩ := wordsN_ok _ h
  unfold isMkL
  rw [decide_eq_true a, decide_eq_true (show w.length ≤ 8 by omega), (List.all_eq_true.mpr fun c' hc' => decide_eq_true (c c' hc') : (w.all fun c => decide (c ∈ MK)) = true)]; rfl
theorem f_nm {w : List Nat} (h : w ∈ wordsN) : fmD .nm w = some (dS w) := by
  show (if (isMkL w && decide (w ≠ [])) = true then some (dS w) else none) = _
  rw [if_pos (words_mk h)]
theorem sg_no {s : List Nat} (h : GoodS s) : 32 ∉ s := by
  intro hc
  have h1 := h.1
  unfold sgsL at h1
  rw [Bool.and_eq_true, decide_eq_true_eq, decide_eq_true_eq] at h1
  rw [h1.2] at hc
  have : ¬ 32 ∈ SG := by decide
  exact this (List.mem_filter.mp hc).1
theorem nm_no {w : List Nat} (h : w ∈ wordsN) : 32 ∉ w := fun hc => by
  have : ¬ 32 ∈ LET ++ [48, 49, 50, 51, 52, 53, 54, 55, 56, 57] := by decide
  exact this ((wordsN_ok _ h).2.2.1 32 hc)
/-- the words of a drawn line, their forms -/
theorem od_words {o : Od} {m : Nat} (h : OdF m o) (hm : m ≤ 20) : ∃ fs w us ds, odD o = dS w :: ds ∧ (odD o).map txD = w :: us ∧ forms w = some fs ∧ FrW fs us ds ∧ (∀ u ∈ w :: us, 32 ∉ u ∧ u.length ≤ 10 ∧ ∀ c ∈ u, c < 256) ∧ (∀ e ∈ odD o, okT e) ∧ (odD o).length ≤ 4 := by
  have tx : ∀ n : Nat, txD (.int (n : Int)) = dec n := fun n => rfl
  have sg : ∀ {s : List Nat}, GoodS s → 32 ∉ s ∧ s.length ≤ 10 ∧ ∀ c ∈ s, c < 256 := fun h => ⟨sg_no h, by have := h.2.1; omega, h.2.2⟩
  have dc : ∀ {n : Nat}, n < 100 → 32 ∉ dec n ∧ (dec n).length ≤ 10 ∧ ∀ c ∈ dec n, c < 256 := fun h => ⟨dec_no _ h, Nat.le_trans (dec_len _) (by decide), dec_256 _ h⟩
  have cw : ∀ w ∈ [cWait, cCount, cPass, cMore, cLast, cGo, cName, cSkip], 32 ∉ w ∧ w.length ≤ 10 ∧ ∀ c ∈ w, c < 256 := by decide +kernel
  have okI : ∀ {n : Nat}, n < 100 → okT (.int (n : Int)) := fun h => ⟨by omega, by omega⟩
  have okS : ∀ {s : List Nat}, s.length ≤ 10 → okT (dS s) := fun h => by show _ ≤ 100; exact Nat.le_trans (show _ ≤ 10 from h) (by decide)
  have all1 : ∀ {P : List Nat → Prop} {a : List Nat}, P a → ∀ u ∈ [a], P u := fun h u hu => by rw [List.mem_singleton.mp hu]; exact h
  have allc : ∀ {P : List Nat → Prop} {a : List Nat} {r : List (List Nat)}, P a → (∀ u ∈ r, P u) → ∀ u ∈ a :: r, P u := fun h k u hu => by
    rcases List.mem_cons.mp hu with rfl | hu
    · exact h
    · exact k u hu
  have al1 : ∀ {a : PyData}, okT a → ∀ u ∈ [a], okT u := fun h u hu => by rw [List.mem_singleton.mp hu]; exact h
  have alc : ∀ {a : PyData} {r : List PyData}, okT a → (∀ u ∈ r, okT u) → ∀ u ∈ a :: r, okT u := fun h k u hu => by
    rcases List.mem_cons.mp hu with rfl | hu
    · exact h
    · exact k u hu
  cases o with
  | wait s n =>
    obtain ⟨h1, h2, h3⟩ := h
    exact ⟨_, cWait, [s, dec n], _, rfl, rfl, rfl, .cons (f_sg h1) (.cons (f_t h2 h3) .nil), allc (cw _ (by simp)) (allc (sg h1) (all1 (dc (by omega)))), alc (okS (by decide)) (alc (okS (sg h1).2.1) (al1 (okI (by omega)))), by simp [odD]⟩
  | count s t n =>
    obtain ⟨h1, h2, h3, h4⟩ := h
    exact ⟨_, cCount, [s, t, dec n], _, rfl, rfl, rfl, .cons (f_sg h1) (.cons (f_sg h2) (.cons (f_t h3 h4) .nil)), allc (cw _ (by simp)) (allc (sg h1) (allc (sg h2) (all1 (dc (by omega))))), alc (okS (by decide)) (alc (okS (sg h1).2.1) (alc (okS (sg h2).2.1) (al1 (okI (by omega))))), by simp [odD]⟩
  | pass n =>
    obtain ⟨h1, h2⟩ := h
    exact ⟨_, cPass, [dec n], _, rfl, rfl, rfl, .cons (f_t h1 h2) .nil, allc (cw _ (by simp)) (all1 (dc (by omega))), alc (okS (by decide)) (al1 (okI (by omega))), by simp [odD]⟩
  | more n l =>
    obtain ⟨h1, h2, h3⟩ := h
    exact ⟨_, cMore, [dec n, dec l], _, rfl, rfl, rfl, .cons (f_t h1 h2) (.cons (f_l (by omega)) .nil), allc (cw _ (by simp)) (allc (dc (by omega)) (all1 (dc (by omega)))), alc (okS (by decide)) (alc (okI (by omega)) (al1 (okI (by omega)))), by simp [odD]⟩
  | last s l =>
    obtain ⟨h1, h2⟩ := h
    exact ⟨_, cLast, [s, dec l], _, rfl, rfl, rfl, .cons (f_sg h1) (.cons (f_l (by omega)) .nil), allc (cw _ (by simp)) (allc (sg h1) (all1 (dc (by omega)))), alc (okS (by decide)) (alc (okS (sg h1).2.1) (al1 (okI (by omega)))), by simp [odD]⟩
  | go l =>
    have h : l < m := h
    exact ⟨_, cGo, [dec l], _, rfl, rfl, rfl, .cons (f_l (by omega)) .nil, allc (cw _ (by simp)) (all1 (dc (by omega))), alc (okS (by decide)) (al1 (okI (by omega))), by simp [odD]⟩
  | name w =>
    have h : w ∈ wordsN := h
    have hw := wordsN_ok _ h
    have p : 32 ∉ w ∧ w.length ≤ 10 ∧ ∀ c ∈ w, c < 256 := ⟨nm_no h, by omega, hw.2.2.2⟩
    exact ⟨_, cName, [w], _, rfl, rfl, rfl, .cons (f_nm h) .nil, allc (cw _ (by simp)) (all1 p), alc (okS (by decide)) (al1 (okS p.2.1)), by simp [odD]⟩
  | skip =>
    exact ⟨_, cSkip, [], _, rfl, rfl, rfl, .nil, all1 (cw _ (by simp)), al1 (okS (by decide)), by simp [odD]⟩
/-- the text of a drawn line is read back -/
theorem od_read {o : Od} {m : Nat} (h : OdF m o) (hm : m ≤ 20) : readLn fmD forms (dS (lineD (odD o))) = .inl (odD o) := by
  obtain ⟨fs, w, us, ds, e1, e2, hf, fr, hs, _⟩ := od_words h hm
  have e3 : lineD (odD o) = TL.joinL [32] (w :: us) := by unfold lineD; rw [e2]
  rw [e3, readLn_W, wrds_join (by simp) (fun u hu => (hs u hu).1), fr.words hf, e1]
theorem joinL_mem {sep : List Nat} : ∀ {ls : List (List Nat)} {c : Nat}, c ∈ TL.joinL sep ls → c ∈ sep ∨ ∃ l ∈ ls, c ∈ l
  | [], c, h => by cases h
  | [p], c, h => .inr ⟨p, by simp, h⟩
  | p :: q :: r, c, h => by
    have h : c ∈ p ++ (sep ++ TL.joinL sep (q :: r)) := h
    rcases List.mem_append.mp h with h | h
    · exact .inr ⟨p, by simp, h⟩
    · rcases List.mem_append.mp h with h | h
      · exact .inl h
      · rcases joinL_mem h with h | ⟨l, hl, h⟩
        · exact .inl h
        · exact .inr ⟨l, List.mem_cons_of_mem _ hl, h⟩
theorem od_text {o : Od} {m : Nat} (h : OdF m o) (hm : m ≤ 20) : (lineD (odD o)).length ≤ 50 ∧ ∀ c ∈ lineD (odD o), c < 256 := by
  obtain ⟨fs, w, us, ds, e1, e2, hf, fr, hs, _, l4⟩ := od_words h hm
  have ul : (w :: us).length ≤ 4 := by rw [← e2, List.length_map]; exact l4
  have sum : ∀ ls : List (List Nat), (∀ u ∈ ls, u.length ≤ 10) → (ls.map List.length).sum ≤ 10 * ls.length := fun ls => by
    induction ls with
    | nil => intro _; exact Nat.zero_le _
    | cons p r ih =>
      intro h
      have := ih fun u hu => h u (List.mem_cons_of_mem _ hu)
      have := h p (List.mem_cons_self ..)
      rw [List.map_cons, List.sum_cons, List.length_cons]
      omega
  unfold lineD
  rw [e2]
  refine ⟨?_, fun c hc => ?_⟩
  · have h1 := joinL_bound [32] (w :: us)
    have h2 := sum (w :: us) fun u hu => (hs u hu).2.1
    have h3 : (w :: us).length * [32].length = (w :: us).length := Nat.mul_one _
    omega
  · rcases joinL_mem hc with h | ⟨l, hl, h⟩
    · rw [List.mem_singleton.mp h]; decide
    · exact (hs l hl).2.2 c h
end K43
namespace K43
open PySem PySem.Spec PyProof.Rows L2 Fg
local macro_rules | `(tactic| walk_at "sq") => `(tactic| first
  | assumption
  | exact .inl (.inl (by assumption))
  | exact .inl (.inl upd_same))
local macro_rules | `(tactic| walk_at "st") => `(tactic| first
  | assumption
  | exact .inl (.inl (by assumption))
  | exact .inl (.inl upd_same))
local macro_rules | `(tactic| walk_at "o") => `(tactic| first
  | omega
  | assumption
  | (simp only [List.length_append, List.length_take, List.length_drop, List.length_cons, List.length_nil, List.length_singleton, List.length_map, List.length_range, Int.toNat_natCast] ; omega))
local macro_rules | `(tactic| walk_at "s") => `(tactic| first
  | (with_reducible refine i_seq ?_)
  | (with_reducible refine i_asg ?_)
  | ((with_reducible refine' i_var ?h1 ?_); (case h1 => rfl))
  | (with_reducible refine i_c ?_)
  | ((with_reducible refine' i_gname' ?h1 ?_); (case h1 => (simp only [List.set_cons_zero, List.set_cons_succ]; rfl)))
  | (with_reducible refine i_op ?_)
  | (with_reducible refine i_ifS ?_)
  | (with_reducible refine i_for ?_)
  | (with_reducible refine i_test ?_)
  | (with_reducible refine i_B ?_)
  | (with_reducible refine i_exbl ?_)
  | (with_reducible refine i_exint ?_)
  | (with_reducible refine i_cb ?_)
  | (with_reducible refine i_nil ?_)
  | (with_reducible refine i_cons ?_)
  | (with_reducible refine i_ret ?_)
  | (with_reducible refine i_sl ?_)
  | (with_reducible refine i_nopart ?_)
  | (with_reducible refine i_part ?_)
  | (with_reducible refine i_add_int ?_)
  | (with_reducible refine i_sub ?_)
  | (with_reducible refine i_lt ?_)
  | ((with_reducible refine' i_mod ?h1 ?_); (case h1 => walk_at "o"))
  | ((with_reducible refine' i_fdiv ?h1 ?_); (case h1 => (refine cdiv_small ?_ ?_ <;> walk_at "o")))
  | ((with_reducible refine' i_sl_to ?h1 ?h2 ?_); (case h1 => walk_at "o"); (case h2 => walk_at "o"))
  | ((with_reducible refine' i_sl_from ?h1 ?h2 ?_); (case h1 => walk_at "o"); (case h2 => walk_at "o"))
  | ((with_reducible refine' i_add_str ?h1 ?_); (case h1 => walk_at "o"))
  | ((with_reducible refine' i_mul_int ?h1 ?_); (case h1 => first | (refine mul_small ?_ ?_ <;> walk_at "o") | (refine mul_smallR ?_ ?_ <;> walk_at "o")))
  | (with_reducible refine i_le ?_)
  | (with_reducible refine i_gt ?_)
  | (with_reducible refine i_ge ?_)
  | (with_reducible refine i_eq_int ?_)
  | (with_reducible refine i_eq_str ?_)
  | (with_reducible refine i_ne_int ?_)
  | (with_reducible refine i_ne_str ?_)
  | (with_reducible refine i_eq_bl ?_)
  | (with_reducible refine i_ne_bl ?_)
  | (with_reducible refine i_in_sg ?_)
  | (with_reducible refine i_notIn_sg ?_)
  | (with_reducible refine i_call ?_)
  | (with_reducible refine i_callS ?_)
  | (with_reducible refine i_sp1 ?_)
  | (with_reducible refine i_sp2 ?_)
  | (with_reducible refine i_sp3 ?_)
  | (with_reducible refine i_sp4 ?_)
  | (with_reducible refine i_sp1' ?_)
  | (with_reducible refine i_sp2' ?_)
  | (with_reducible refine i_sp3' ?_)
  | ((with_reducible refine' i_ix_lst ?h1 ?h2 ?_); (case h1 => walk_at "sq"); (case h2 => first | exact atI_nat rfl | rfl))
  | ((with_reducible refine' i_ix_tup ?h1 ?h2 ?_); (case h1 => walk_at "st"); (case h2 => first | exact atI_nat rfl | rfl))
  | (with_reducible refine i_gsub ?_)
  | (with_reducible refine i_par ?_)
  | (with_reducible refine i_lstRg1 ?_)
  | (with_reducible refine i_app ?_)
  | (with_reducible refine i_par2 ?_)
  | ((with_reducible refine' i_aug ?h1 ?_); (case h1 => rfl))
  | (with_reducible refine i_ipI ?_)
  | ((with_reducible refine' i_gtup2 ?h1 ?_); (case h1 => walk_at "st"))
  | (with_reducible refine i_int_bl ?_)
  | (with_reducible refine i_raise ?_)
  | (with_reducible refine i_mkE ?_)
  | (with_reducible refine i_ex1 ?_)
  | (with_reducible refine i_and ?_)
  | (with_reducible refine i_or ?_)
  | (with_reducible refine i_not ?_)
  | (with_reducible refine i_tt ?_)
  | (with_reducible refine i_ff ?_)
  | (with_reducible refine i_nott ?_)
  | (with_reducible refine i_notf ?_)
  | (with_reducible refine i_andV ?_)
  | (with_reducible refine i_orV ?_)
  | (with_reducible refine i_notV ?_)
  | (with_reducible refine i_ifE ?_)
  | (with_reducible refine i_tup ?_)
  | (with_reducible refine i_lst ?_)
  | (with_reducible refine i_un ?_)
  | (with_reducible refine i_neg ?_)
  | (with_reducible refine i_chain ?_)
  | (with_reducible refine i_next ?_)
  | (with_reducible refine i_retN ?_)
  | (with_reducible refine i_drop ?_)
  | (with_reducible refine i_int_int ?_)
  | (with_reducible refine i_abs ?_)
  | (with_reducible refine i_m1c ?_)
  | (with_reducible refine i_is_non ?_)
  | (with_reducible refine i_is_int ?_)
  | (with_reducible refine i_is_bl ?_)
  | (with_reducible refine i_isn_bl ?_)
  | (with_reducible refine i_is_str ?_)
  | (with_reducible refine i_is_ref ?_)
  | (with_reducible refine i_isn_non ?_)
  | (with_reducible refine i_isn_int ?_)
  | (with_reducible refine i_isn_str ?_)
  | (with_reducible refine i_isn_ref ?_)
  | (with_reducible refine i_len_str ?h1 ?_; (case h1 => walk_at "o"))
  | (with_reducible refine i_callD ?_)
  | (with_reducible refine i_spD2 ?_)
  | (with_reducible refine i_spM1 ?_)
  | (with_reducible refine i_spM2 ?_)
  | (with_reducible refine i_spM3 ?_)
  | (with_reducible refine i_spM4 ?_)
  | (with_reducible refine i_spM3d ?_)
  | (with_reducible refine i_tfld ?_)
  | (with_reducible refine i_sfld ?_)
  | (with_reducible refine i_meth ?_)
  | (with_reducible refine i_make ?_)
  | (with_reducible refine i_spl ?_)
  | (with_reducible refine i_mkE2 ?_)
  | (with_reducible refine i_ex2 ?_)
  | (with_reducible refine i_dget ?_)
  | (with_reducible refine i_tru ?_)
  | (with_reducible refine i_dput ?_)
  | (with_reducible refine i_dnotin ?_)
  | (with_reducible refine i_din ?_)
  | (with_reducible refine i_rev ?_)
  | (with_reducible refine i_isi_int_int ?_) | (with_reducible refine i_isi_int_bool ?_) | (with_reducible refine i_isi_int_str ?_) | (with_reducible refine i_isi_int_tuple ?_) | (with_reducible refine i_isi_int_list ?_)
  | (with_reducible refine i_isi_bl_int ?_) | (with_reducible refine i_isi_bl_bool ?_) | (with_reducible refine i_isi_bl_str ?_) | (with_reducible refine i_isi_bl_tuple ?_) | (with_reducible refine i_isi_bl_list ?_)
  | (with_reducible refine i_isi_str_int ?_) | (with_reducible refine i_isi_str_bool ?_) | (with_reducible refine i_isi_str_str ?_) | (with_reducible refine i_isi_str_tuple ?_) | (with_reducible refine i_isi_str_list ?_)
  | (with_reducible refine i_isi_non_int ?_) | (with_reducible refine i_isi_non_bool ?_) | (with_reducible refine i_isi_non_str ?_) | (with_reducible refine i_isi_non_tuple ?_) | (with_reducible refine i_isi_non_list ?_))
local macro_rules | `(tactic| walk_at "go") => `(tactic| (repeat' (walk_at "s")))
local macro_rules | `(tactic| walk_at "n") => `(tactic| simp only [wipe, List.map_cons, List.map_nil, List.set_cons_zero, List.set_cons_succ])
abbrev MA : List (List Nat) := [[], [48], [49], [57], [49, 48], [49, 57], [50, 48], [48, 48], [48, 49], [43, 49], [45, 49], [49, 46], [120], [46], [103, 114, 119], [119, 114, 103], [119, 119]]
abbrev MB : List (List Nat) := [[97, 110, 110, 97], [65, 110, 110, 97], [97, 98, 99, 100, 101, 102, 103, 104, 105], [45], [119, 97, 105, 116], [115, 107, 105, 112], [101, 110, 100], [119, 46], (List.replicate 30 [57]).flatten, [103, 114], [110, 97, 109, 101], [103, 111]]
theorem menu_ok : ∀ w ∈ MA ++ MB, w.length ≤ 30 ∧ ∀ c ∈ w, c < 256 := by decide +kernel
theorem set_sum : ∀ (ws : List (List Nat)) (p : Nat) (o : List Nat), ((ws.set p o).map List.length).sum ≤ (ws.map List.length).sum + o.length
  | [], p, o => by simp
  | w :: r, 0, o => by simp only [List.set_cons_zero, List.map_cons, List.sum_cons]; omega
  | w :: r, p + 1, o => by
    have := set_sum r p o
    simp only [List.set_cons_succ, List.map_cons, List.sum_cons]
    omega
theorem odd_sign : ∀ i < 12, ∃ c, ([32, 46, 103, 114, 119, 48, 49, 50, 57, 97, 120, 65] : List Nat)[i]? = some c ∧ c < 256 := by decide +kernel
/-- small signs, at most so many -/
def Sm (L : Nat) (l : List Nat) : Prop := l.length ≤ L ∧ ∀ c ∈ l, c < 256
section
variable {P : Program} {w : World} {K : PySem.W.Frag} {mg : Str → Option Value} {base : Heap} {C_GlimError C_BadLine C_BadOrder C_NoLine C_Lines C_Orders C_WORDS : Addr}
def p_L_spoilt_text (K : PySem.W.Frag) : P2 := fun x y H Q _ => ∃ Hk dd l L, x = .ref dd.a ∧ y = S l ∧ Sm L l ∧ L ≤ 1000 ∧ Dr K dd Hk H ∧ ∀ m H', Dr K dd Hk H' → Sm (L + 40) m → Q (S m) H'
theorem ok_L_spoilt_text (T : Txt K mg C_GlimError C_BadLine C_BadOrder C_NoLine C_Lines C_Orders C_WORDS) : OK P w K mg base CX0 3 "_law_spoilt_text" ["_law_draw_here", "_law_text"] (sp2  (p_L_spoilt_text K)) := by
  refine OK.mk (k := 2) T.d_L_spoilt_text sc_L_spoilt_text len2 fun f cdv A outer s H vs Q E hr h => ?_
  obtain ⟨x, y, rfl, h⟩ := h
  refine ⟨_, (pss_cons (ps_set (i := 2) sc_L_spoilt_text.nd rfl (Or.inl rfl) (peSplit K (pv 1) (pa_cons (pe_S [32]) pa_nil))) (pss_cons (ps_set (i := 3) sc_L_spoilt_text.nd rfl (Or.inl rfl) (pe_f (ok_L_pick (K := K) T) (hr.mono (by decide)) pass0 (pa_cons (pv 0) (pa_cons (pe_callB (cLen K) (by rfl) T.b_len (by decide +kernel) (pa_cons (pv 2) pa_nil)) pa_nil)))) (pss_cons (ps_set (i := 4) sc_L_spoilt_text.nd rfl (Or.inl rfl) (pe_f (ok_L_pick (K := K) T) (hr.mono (by decide)) pass0 (pa_cons (pv 0) (pa_cons pe_int pa_nil)))) (pss_cons (ps_set (i := 5) sc_L_spoilt_text.nd rfl (Or.inl rfl) (pe_lst (pa_cons (pe_S []) (pa_cons (pe_S [48]) (pa_cons (pe_S [49]) (pa_cons (pe_S [57]) (pa_cons (pe_S [49, 48]) (pa_cons (pe_S [49, 57]) (pa_cons (pe_S [50, 48]) (pa_cons (pe_S [48, 48]) (pa_cons (pe_S [48, 49]) (pa_cons (pe_S [43, 49]) (pa_cons (pe_S [45, 49]) (pa_cons (pe_S [49, 46]) (pa_cons (pe_S [120]) (pa_cons (pe_S [46]) (pa_cons (pe_S [103, 114, 119]) (pa_cons (pe_S [119, 114, 103]) (pa_cons (pe_S [119, 119]) pa_nil))))))))))))))))))) (pss_cons (ps_set (i := 5) sc_L_spoilt_text.nd rfl (Or.inl rfl) (pe_op (opAdd K) (pv 5) (pe_lst (pa_cons (pe_S [97, 110, 110, 97]) (pa_cons (pe_S [65, 110, 110, 97]) (pa_cons (pe_S [97, 98, 99, 100, 101, 102, 103, 104, 105]) (pa_cons (pe_S [45]) (pa_cons (pe_S [119, 97, 105, 116]) (pa_cons (pe_S [115, 107, 105, 112]) (pa_cons (pe_S [101, 110, 100]) (pa_cons (pe_S [119, 46]) (pa_cons (pe_op op_mulP (pe_S [57]) pe_int) (pa_cons (pe_S [103, 114]) (pa_cons (pe_S [110, 97, 109, 101]) (pa_cons (pe_S [103, 111]) pa_nil))))))))))))))) (pss_cons (ps_set (i := 6) sc_L_spoilt_text.nd rfl (Or.inl rfl) (pe_ix (ixK K) (pv 5) (pe_f (ok_L_pick (K := K) T) (hr.mono (by decide)) pass0 (pa_cons (pv 0) (pa_cons (pe_callB (cLen K) (by rfl) T.b_len (by decide +kernel) (pa_cons (pv 5) pa_nil)) pa_nil))) (fun _ _ => rfl))) (Evl.pss_cut (ps_if (pt_cmpR (opEq K hr.units) (pv 4) pe_int (nomark _)) (pss_one (ps_set (i := 2) sc_L_spoilt_text.nd rfl (Or.inl rfl) (pe_op (opAdd K) (pe_slice (slK K) (pv 2) po_none (po_some (pv 3))) (pe_slice (slK K) (pv 2) (po_some (pe_op (opAdd K) (pv 3) pe_int)) po_none)))) (pss_one (ps_if (pt_cmpR (opEq K hr.units) (pv 4) pe_int (nomark _)) (pss_one (ps_set (i := 2) sc_L_spoilt_text.nd rfl (Or.inl rfl) (pe_op (opAdd K) (pe_op (opAdd K) (pe_slice (slK K) (pv 2) po_none (po_some (pv 3))) (pe_lst (pa_cons (pv 6) pa_nil))) (pe_slice (slK K) (pv 2) (po_some (pv 3)) po_none)))) (pss_one (ps_if (pt_cmpR (opEq K hr.units) (pv 4) pe_int (nomark _)) (pss_one (ps_set (i := 2) sc_L_spoilt_text.nd rfl (Or.inl rfl) (pe_op (opAdd K) (pv 2) (pe_lst (pa_cons (pv 6) pa_nil))))) (pss_one (ps_if (pw_and (pt_cmpR (opEq K hr.units) (pv 4) pe_int (nomark _)) (pw_and1 (pt_cmpR op_gtP (pe_callB (cLen K) (by rfl) T.b_len (by decide +kernel) (pa_cons (pv 1) pa_nil)) pe_int (nomark _)))).pt (pss_cons (ps_set (i := 7) sc_L_spoilt_text.nd rfl (Or.inl rfl) (pe_f (ok_L_pick (K := K) T) (hr.mono (by decide)) pass0 (pa_cons (pv 0) (pa_cons (pe_callB (cLen K) (by rfl) T.b_len (by decide +kernel) (pa_cons (pv 1) pa_nil)) pa_nil)))) (pss_cons (ps_set (i := 8) sc_L_spoilt_text.nd rfl (Or.inl rfl) (pe_ix (ixK K) (pe_S [32, 46, 103, 114, 119, 48, 49, 50, 57, 97, 120, 65]) (pe_f (ok_L_pick (K := K) T) (hr.mono (by decide)) pass0 (pa_cons (pv 0) (pa_cons pe_int pa_nil))) (fun _ _ => rfl))) (pss_one (ps_ret (pe_op (opAdd K) (pe_op (opAdd K) (pe_slice (slK K) (pv 1) po_none (po_some (pv 7))) (pv 8)) (pe_slice (slK K) (pv 1) (po_some (pe_op (opAdd K) (pv 7) pe_int)) po_none)))))) (pss_one (ps_if (pt_cmpR (opEq K hr.units) (pv 4) pe_int (nomark _)) (pss_one (ps_ret (pe_ix (ixK K) (pe_lst (pa_cons (pe_S []) (pa_cons (pe_S [32]) (pa_cons (pe_op (opAdd K) (pv 1) (pe_S [32])) (pa_cons (pe_op (opAdd K) (pe_S [32]) (pv 1)) pa_nil))))) (pe_f (ok_L_pick (K := K) T) (hr.mono (by decide)) pass0 (pa_cons (pv 0) (pa_cons pe_int pa_nil))) (fun _ _ => rfl)))) (pss_one (ps_asg (pv 6) (pg_sub (pv 2) (pv 3) set_list)))))))))))) (pss_one (ps_ret (peJoin K (pe_S [32]) (pv 2))))))))))), ?_⟩
  show (_ : TS) { nx := fun _ H' => Q .non H', rt := Q } [some x, some y, none, none, none, none, none, none, none] H
  obtain ⟨Hk, dd, l, L, rfl, rfl, ⟨hl, small⟩, hL, dr, q⟩ := h
  walk_at "go"
  refine ⟨rfl, ?_⟩
  walk_at "go"
  refine ⟨⟨l.toArray⟩, ⟨#[32]⟩, rfl, rfl, rfl, ?_, ?_⟩
  · rw [str_len]
    exact Nat.le_trans (show l.length + 2 ≤ 100000 by omega) (by decide)
  intro wl nwl
  rw [words_V]
  have wsum := words_sum l
  have wpos := words_pos ⟨l.toArray⟩
  have wsm : ∀ w ∈ wrds ⟨l.toArray⟩, ∀ c ∈ w, c < 256 := fun w hw => wrds_small hw small
  generalize wrds ⟨l.toArray⟩ = ws at *
  have wmap : (ws.map S).length = ws.length := List.length_map ..
  have kwl := dr.free nwl
  have cells := dr.cells
  have d1 := dr.new (o := .lst (ws.map S)) nwl
  have hk : (upd Hk wl (.lst (ws.map S))) wl = some (.lst (ws.map S)) := upd_same
  walk_at "go"
  refine i_len_lst (.inl (.inl (d1.old hk))) ?_
  walk_at "go"
  rw [wmap]
  refine ⟨_, dd, (ws.length : Int), rfl, rfl, d1, by omega, fun p H2 d2 bp => ?_⟩
  obtain ⟨p, rfl, hp⟩ := to_nat bp wpos
  walk_at "go"
  refine ⟨_, dd, 7, rfl, rfl, d2, by decide, fun kd H3 d3 bk => ?_⟩
  walk_at "go"
  refine i_new (by show 17 ≤ 100000; omega) fun ma nma => ?_
  have d4 := d3.same (same_upd (o := .lst (MA.map S)) nma)
  have hma : (upd H3 ma (.lst (MA.map S))) ma = some (.lst (MA.map S)) := upd_same
  change gName 5 (.ref ma) _ (upd H3 ma (.lst (MA.map S))) _
  generalize upd H3 ma (.lst (MA.map S)) = H4 at *
  walk_at "go"
  refine i_mul_str (n := 30) (by decide) ?_
  walk_at "go"
  refine i_new (by show 12 ≤ 100000; omega) fun mb nmb => ?_
  have d5 := d4.same (same_upd (o := .lst (MB.map S)) nmb)
  have hma2 := same_upd (o := .lst (MB.map S)) nmb _ _ hma
  have hmb : (upd H4 mb (.lst (MB.map S))) mb = some (.lst (MB.map S)) := upd_same
  refine i_catL hma2 hmb (by decide) fun mc nmc => ?_
  have d6 := d5.new (o := .lst ((MA ++ MB).map S)) nmc
  have kmc := d5.free nmc
  rw [← List.map_append]
  walk_at "go"
  refine i_len_lst (.inl (.inl upd_same)) ?_
  walk_at "go"
  refine ⟨_, dd, 29, rfl, rfl, d6, by decide, fun n H7 d7 bn => ?_⟩
  obtain ⟨n, rfl, hn⟩ := to_nat (t := 29) bn (by decide)
  have hn' : n < (MA ++ MB).length := hn
  obtain ⟨ol, oc⟩ := menu_ok _ (List.getElem_mem hn')
  have ho : ((MA ++ MB).map S)[n]? = some (S (MA ++ MB)[n]) := by rw [List.getElem?_map, List.getElem?_eq_getElem hn']; rfl
  refine i_ix_lst (.inl (.inl (d7.old upd_same))) (atI_nat ho) ?_
  generalize (MA ++ MB)[n] = odd at *
  have d8 := d7.less d1.cells kmc
  clear d7 d6 d5 d4 d3 d2 hmb hma2 hma
  walk_at "go"
  refine i_cut (fun σ G => ∃ b, ∃ us : List (List Nat), ∃ v7 v8, σ = [some (.ref dd.a), some (S l), some (.ref b), some (.int (p : Int)), some (.int kd), some (.ref mc), some (S odd), v7, v8] ∧ Dr K dd Hk G ∧ G b = some (.lst (us.map S)) ∧ (us.map List.length).sum + us.length ≤ l.length + 33 ∧ ∀ u ∈ us, ∀ c ∈ u, c < 256) ?_ ?_
  · have sc := fun q (h : p ≤ q) => sum_cut ws p q h
    have hW := d8.old hk
    have d0 := d8.less cells kwl
    have ep : (p : Int) + 1 = ((p + 1 : Nat) : Int) := by omega
    walk_at "go"
    refine i_dec (fun e0 => ?_) (fun e0 => ?_)
    · walk_at "go"
      refine i_slL (.inl (.inl hW)) fun l1 n1 => ?_
      rw [cutV_to']
      have d4 := d8.same (same_upd (o := .lst ((ws.take p).map S)) n1)
      walk_at "go"
      refine i_slL (.inl (.inl (d4.old hk))) fun l4 n4 => ?_
      rw [ep, cutV_fr']
      refine i_catL ((upd_ne (ne_of_none upd_same n4)).trans upd_same) upd_same (by rw [List.length_map, List.length_map, List.length_take, List.length_drop]; omega) fun l5 n5 => ?_
      have d6 := ((d4.less cells kwl).same (same_upd (o := .lst ((ws.drop (p + 1)).map S)) n4)).same (same_upd (o := .lst ((ws.take p).map S ++ (ws.drop (p + 1)).map S)) n5)
      rw [← List.map_append] at d6 ⊢
      walk_at "go"
      refine ⟨l5, _, _, _, rfl, d6, upd_same, ?_, fun u hu => ?_⟩
      · have := sc (p + 1) (by omega)
        rw [List.map_append, List.sum_append, List.length_append, List.length_take, List.length_drop]
        omega
      · rcases List.mem_append.mp hu with h | h
        · exact wsm u (List.mem_of_mem_take h)
        · exact wsm u (List.mem_of_mem_drop h)
    walk_at "go"
    refine i_dec (fun e1 => ?_) (fun e1 => ?_)
    · walk_at "go"
      refine i_slL (.inl (.inl hW)) fun l1 n1 => ?_
      rw [cutV_to']
      have d4 := d8.same (same_upd (o := .lst ((ws.take p).map S)) n1)
      walk_at "go"
      refine i_new (by show 1 ≤ 100000; omega) fun l2 n2 => ?_
      have d5 := d4.same (same_upd (o := .lst [S odd]) n2)
      refine i_catL ((upd_ne (ne_of_none upd_same n2)).trans upd_same) upd_same (by rw [List.length_map, List.length_take]; show _ + 1 ≤ 100000; omega) fun l3 n3 => ?_
      have d6 := d5.same (same_upd (o := .lst ((ws.take p).map S ++ [S odd])) n3)
      walk_at "go"
      refine i_slL (.inl (.inl (d6.old hk))) fun l4 n4 => ?_
      rw [cutV_fr']
      have d7 := d6.same (same_upd (o := .lst ((ws.drop p).map S)) n4)
      refine i_catL ((upd_ne (ne_of_none upd_same n4)).trans upd_same) upd_same (by rw [List.length_append, List.length_map, List.length_map, List.length_take, List.length_drop]; show _ + 1 + _ ≤ 100000; omega) fun l5 n5 => ?_
      have d9 := (d7.less cells kwl).same (same_upd (o := .lst ((ws.take p).map S ++ [S odd] ++ (ws.drop p).map S)) n5)
      have em : (ws.take p).map S ++ [S odd] ++ (ws.drop p).map S = (ws.take p ++ [odd] ++ ws.drop p).map S := by rw [List.map_append, List.map_append]; rfl
      rw [em] at d9 ⊢
      walk_at "go"
      refine ⟨l5, _, _, _, rfl, d9, upd_same, ?_, fun u hu => ?_⟩
      · have := sc p (Nat.le_refl _)
        simp only [List.map_append, List.sum_append, List.length_append, List.length_take, List.length_drop, List.map_cons, List.map_nil, List.sum_cons, List.sum_nil, List.length_cons, List.length_nil]
        omega
      · rcases List.mem_append.mp hu with h | h
        · rcases List.mem_append.mp h with h | h
          · exact wsm u (List.mem_of_mem_take h)
          · rw [List.mem_singleton.mp h]; exact oc
        · exact wsm u (List.mem_of_mem_drop h)
    walk_at "go"
    refine i_dec (fun e2 => ?_) (fun e2 => ?_)
    · walk_at "go"
      refine i_new (by show 1 ≤ 100000; omega) fun l2 n2 => ?_
      have d5 := d8.same (same_upd (o := .lst [S odd]) n2)
      refine i_catL (d5.old hk) upd_same (by rw [List.length_map]; show _ + 1 ≤ 100000; omega) fun l3 n3 => ?_
      have d6 := (d5.less cells kwl).same (same_upd (o := .lst (ws.map S ++ [S odd])) n3)
      have em : ws.map S ++ [S odd] = (ws ++ [odd]).map S := by rw [List.map_append]; rfl
      rw [em] at d6 ⊢
      walk_at "go"
      refine ⟨l3, _, _, _, rfl, d6, upd_same, ?_, fun u hu => ?_⟩
      · simp only [List.map_append, List.sum_append, List.length_append, List.map_cons, List.map_nil, List.sum_cons, List.sum_nil, List.length_cons, List.length_nil]
        omega
      · rcases List.mem_append.mp hu with h | h
        · exact wsm u h
        · rw [List.mem_singleton.mp h]; exact oc
    walk_at "go"
    have wp : p < (ws.map S).length := by rw [wmap]; exact hp
    have ms : (ws.map S).set p (S odd) = (ws.set p odd).map S := by rw [List.map_set]
    have mid : ∀ v7 v8 : Option V, ∃ b, ∃ us : List (List Nat), ∃ v7' v8', ([some (.ref dd.a), some (S l), some (.ref wl), some (.int (p : Int)), some (.int kd), some (.ref mc), some (S odd), v7, v8] : L2.St) = [some (.ref dd.a), some (S l), some (.ref b), some (.int (p : Int)), some (.int kd), some (.ref mc), some (S odd), v7', v8'] ∧ Dr K dd Hk (upd H7 wl (.lst ((ws.set p odd).map S))) ∧ (upd H7 wl (.lst ((ws.set p odd).map S))) b = some (.lst (us.map S)) ∧ (us.map List.length).sum + us.length ≤ l.length + 33 ∧ ∀ u ∈ us, ∀ c ∈ u, c < 256 := fun v7 v8 => by
      refine ⟨wl, ws.set p odd, v7, v8, rfl, (d8.put (o' := .lst ((ws.set p odd).map S)) cells kwl).less cells kwl, upd_same, ?_, fun u hu => ?_⟩
      · have := set_sum ws p odd
        rw [List.length_set]
        omega
      · rcases List.mem_or_eq_of_mem_set hu with h | h
        · exact wsm u h
        · rw [h]; exact oc
    refine i_dec (fun e3 => ?_) (fun e3 => ?_)
    · walk_at "go"
      refine i_dec (fun e4 => ?_) (fun e4 => ?_)
      · walk_at "go"
        refine ⟨Hk, dd, (l.length : Int), rfl, rfl, d0, by omega, fun sp H8 d9 bs => ?_⟩
        obtain ⟨sp, rfl, hsp⟩ := to_nat bs (by omega)
        walk_at "go"
        refine ⟨Hk, dd, 12, rfl, rfl, d9, by decide, fun sg H9 d10 bs2 => ?_⟩
        obtain ⟨sg, rfl, hsg⟩ := to_nat (t := 12) bs2 (by decide)
        obtain ⟨c, hc, c256⟩ := odd_sign sg hsg
        refine i_ix_str (by decide) (by omega) (by rw [Int.toNat_natCast]; exact hc) ?_
        have one : ([c] : List Nat).length = 1 := rfl
        walk_at "go"
        refine q _ _ d10 ⟨?_, fun x hx => ?_⟩
        · simp only [List.length_append, List.length_take, List.length_drop]
          omega
        · rcases List.mem_append.mp hx with h | h
          · rcases List.mem_append.mp h with h | h
            · exact small x (List.mem_of_mem_take h)
            · rw [List.mem_singleton.mp h]; exact c256
          · exact small x (List.mem_of_mem_drop h)
      · walk_at "go"
        rw [decide_eq_false (show ¬ kd = 4 by omega)]
        walk_at "go"
        refine i_setL p hW (Evl.ixN_nat wp) ms ?_
        exact mid _ _
    walk_at "go"
    refine i_dec (fun e4 => ?_) (fun e4 => ?_)
    · have sp1 : ([32] : List Nat).length = 1 := rfl
      walk_at "go"
      refine i_new (by show 4 ≤ 100000; omega) fun l4 n4 => ?_
      have d9 := d0.new (o := .lst ([[], [32], l ++ [32], [32] ++ l].map S)) n4
      walk_at "go"
      refine ⟨_, dd, 4, rfl, rfl, d9, by decide, fun n4' H9 d10 bs => ?_⟩
      obtain ⟨k, rfl, hk4⟩ := to_nat (t := 4) bs (by decide)
      have key : ∃ m, atI ([[], [32], l ++ [32], [32] ++ l].map S) (k : Int) = some (S m) ∧ Sm (L + 40) m := by
        have : k = 0 ∨ k = 1 ∨ k = 2 ∨ k = 3 := by omega
        rcases this with rfl | rfl | rfl | rfl
        · exact ⟨[], rfl, by show 0 ≤ _; omega, by simp⟩
        · exact ⟨[32], rfl, by show 1 ≤ _; omega, by simp⟩
        · refine ⟨l ++ [32], rfl, by rw [List.length_append]; show _ + 1 ≤ _; omega, fun c hc => ?_⟩
          rcases List.mem_append.mp hc with h | h
          · exact small c h
          · rw [List.mem_singleton.mp h]; decide
        · refine ⟨[32] ++ l, rfl, by rw [List.length_append]; show 1 + _ ≤ _; omega, fun c hc => ?_⟩
          rcases List.mem_append.mp hc with h | h
          · rw [List.mem_singleton.mp h]; decide
          · exact small c h
      obtain ⟨m, hm, sm⟩ := key
      refine i_ix_lst (.inl (.inl (d10.old upd_same))) hm ?_
      exact q _ _ (d10.less cells (d0.free n4)) sm
    · walk_at "go"
      refine i_setL p hW (Evl.ixN_nat wp) ms ?_
      exact mid _ _
  · rintro σ G ⟨b, us, v7, v8, rfl, d9, hb, hs, sm⟩
    walk_at "go"
    refine i_joinG (.inl (.inl hb)) (by show _ + us.length * 1 ≤ 100000; omega) ?_
    refine q _ _ d9 ⟨?_, fun c hc => ?_⟩
    · have := joinL_bound [32] us
      have e1 : us.length * ([32] : List Nat).length = us.length := by show us.length * 1 = _; omega
      omega
    · rcases joinL_mem hc with h | ⟨u, hu, h⟩
      · rw [List.mem_singleton.mp h]; decide
      · exact sm u hu c h
end
end K43
namespace K43
open PySem PySem.Spec PyProof.Rows L2 Fg
local macro_rules | `(tactic| walk_at "sq") => `(tactic| first
  | assumption
  | exact .inl (.inl (by assumption))
  | exact .inl (.inl upd_same))
local macro_rules | `(tactic| walk_at "st") => `(tactic| first
  | assumption
  | exact .inl (.inl (by assumption))
  | exact .inl (.inl upd_same))
local macro_rules | `(tactic| walk_at "o") => `(tactic| first
  | omega
  | assumption
  | (simp only [List.length_append, List.length_take, List.length_drop, List.length_cons, List.length_nil, List.length_singleton, List.length_map, List.length_range, Int.toNat_natCast] ; omega))
local macro_rules | `(tactic| walk_at "s") => `(tactic| first
  | (with_reducible refine i_seq ?_)
  | (with_reducible refine i_asg ?_)
  | ((with_reducible refine' i_var ?h1 ?_); (case h1 => rfl))
  | (with_reducible refine i_c ?_)
  | ((with_reducible refine' i_gname' ?h1 ?_); (case h1 => (simp only [List.set_cons_zero, List.set_cons_succ]; rfl)))
  | (with_reducible refine i_op ?_)
  | (with_reducible refine i_ifS ?_)
  | (with_reducible refine i_for ?_)
  | (with_reducible refine i_test ?_)
  | (with_reducible refine i_B ?_)
  | (with_reducible refine i_exbl ?_)
  | (with_reducible refine i_exint ?_)
  | (with_reducible refine i_cb ?_)
  | (with_reducible refine i_nil ?_)
  | (with_reducible refine i_cons ?_)
  | (with_reducible refine i_ret ?_)
  | (with_reducible refine i_sl ?_)
  | (with_reducible refine i_nopart ?_)
  | (with_reducible refine i_part ?_)
  | (with_reducible refine i_add_int ?_)
  | (with_reducible refine i_sub ?_)
  | (with_reducible refine i_lt ?_)
  | ((with_reducible refine' i_mod ?h1 ?_); (case h1 => walk_at "o"))
  | ((with_reducible refine' i_fdiv ?h1 ?_); (case h1 => (refine cdiv_small ?_ ?_ <;> walk_at "o")))
  | ((with_reducible refine' i_sl_to ?h1 ?h2 ?_); (case h1 => walk_at "o"); (case h2 => walk_at "o"))
  | ((with_reducible refine' i_sl_from ?h1 ?h2 ?_); (case h1 => walk_at "o"); (case h2 => walk_at "o"))
  | ((with_reducible refine' i_add_str ?h1 ?_); (case h1 => walk_at "o"))
  | ((with_reducible refine' i_mul_int ?h1 ?_); (case h1 => first | (refine mul_small ?_ ?_ <;> walk_at "o") | (refine mul_smallR ?_ ?_ <;> walk_at "o")))
  | (with_reducible refine i_le ?_)
  | (with_reducible refine i_gt ?_)
  | (with_reducible refine i_ge ?_)
  | (with_reducible refine i_eq_int ?_)
  | (with_reducible refine i_eq_str ?_)
  | (with_reducible refine i_ne_int ?_)
  | (with_reducible refine i_ne_str ?_)
  | (with_reducible refine i_eq_bl ?_)
  | (with_reducible refine i_ne_bl ?_)
  | (with_reducible refine i_in_sg ?_)
  | (with_reducible refine i_notIn_sg ?_)
  | (with_reducible refine i_call ?_)
  | (with_reducible refine i_callS ?_)
  | (with_reducible refine i_sp1 ?_)
  | (with_reducible refine i_sp2 ?_)
  | (with_reducible refine i_sp3 ?_)
  | (with_reducible refine i_sp4 ?_)
  | (with_reducible refine i_sp1' ?_)
  | (with_reducible refine i_sp2' ?_)
  | (with_reducible refine i_sp3' ?_)
  | ((with_reducible refine' i_ix_lst ?h1 ?h2 ?_); (case h1 => walk_at "sq"); (case h2 => first | exact atI_nat rfl | rfl))
  | ((with_reducible refine' i_ix_tup ?h1 ?h2 ?_); (case h1 => walk_at "st"); (case h2 => first | exact atI_nat rfl | rfl))
  | (with_reducible refine i_gsub ?_)
  | (with_reducible refine i_par ?_)
  | (with_reducible refine i_lstRg1 ?_)
  | (with_reducible refine i_app ?_)
  | (with_reducible refine i_par2 ?_)
  | ((with_reducible refine' i_aug ?h1 ?_); (case h1 => rfl))
  | (with_reducible refine i_ipI ?_)
  | ((with_reducible refine' i_gtup2 ?h1 ?_); (case h1 => walk_at "st"))
  | (with_reducible refine i_int_bl ?_)
  | (with_reducible refine i_raise ?_)
  | (with_reducible refine i_mkE ?_)
  | (with_reducible refine i_ex1 ?_)
  | (with_reducible refine i_and ?_)
  | (with_reducible refine i_or ?_)
  | (with_reducible refine i_not ?_)
  | (with_reducible refine i_tt ?_)
  | (with_reducible refine i_ff ?_)
  | (with_reducible refine i_nott ?_)
  | (with_reducible refine i_notf ?_)
  | (with_reducible refine i_andV ?_)
  | (with_reducible refine i_orV ?_)
  | (with_reducible refine i_notV ?_)
  | (with_reducible refine i_ifE ?_)
  | (with_reducible refine i_tup ?_)
  | (with_reducible refine i_lst ?_)
  | (with_reducible refine i_un ?_)
  | (with_reducible refine i_neg ?_)
  | (with_reducible refine i_chain ?_)
  | (with_reducible refine i_next ?_)
  | (with_reducible refine i_retN ?_)
  | (with_reducible refine i_drop ?_)
  | (with_reducible refine i_int_int ?_)
  | (with_reducible refine i_abs ?_)
  | (with_reducible refine i_m1c ?_)
  | (with_reducible refine i_is_non ?_)
  | (with_reducible refine i_is_int ?_)
  | (with_reducible refine i_is_bl ?_)
  | (with_reducible refine i_isn_bl ?_)
  | (with_reducible refine i_is_str ?_)
  | (with_reducible refine i_is_ref ?_)
  | (with_reducible refine i_isn_non ?_)
  | (with_reducible refine i_isn_int ?_)
  | (with_reducible refine i_isn_str ?_)
  | (with_reducible refine i_isn_ref ?_)
  | (with_reducible refine i_len_str ?h1 ?_; (case h1 => walk_at "o"))
  | (with_reducible refine i_callD ?_)
  | (with_reducible refine i_spD2 ?_)
  | (with_reducible refine i_spM1 ?_)
  | (with_reducible refine i_spM2 ?_)
  | (with_reducible refine i_spM3 ?_)
  | (with_reducible refine i_spM4 ?_)
  | (with_reducible refine i_spM3d ?_)
  | (with_reducible refine i_tfld ?_)
  | (with_reducible refine i_sfld ?_)
  | (with_reducible refine i_meth ?_)
  | (with_reducible refine i_make ?_)
  | (with_reducible refine i_spl ?_)
  | (with_reducible refine i_mkE2 ?_)
  | (with_reducible refine i_ex2 ?_)
  | (with_reducible refine i_dget ?_)
  | (with_reducible refine i_tru ?_)
  | (with_reducible refine i_dput ?_)
  | (with_reducible refine i_dnotin ?_)
  | (with_reducible refine i_din ?_)
  | (with_reducible refine i_rev ?_)
  | (with_reducible refine i_isi_int_int ?_) | (with_reducible refine i_isi_int_bool ?_) | (with_reducible refine i_isi_int_str ?_) | (with_reducible refine i_isi_int_tuple ?_) | (with_reducible refine i_isi_int_list ?_)
  | (with_reducible refine i_isi_bl_int ?_) | (with_reducible refine i_isi_bl_bool ?_) | (with_reducible refine i_isi_bl_str ?_) | (with_reducible refine i_isi_bl_tuple ?_) | (with_reducible refine i_isi_bl_list ?_)
  | (with_reducible refine i_isi_str_int ?_) | (with_reducible refine i_isi_str_bool ?_) | (with_reducible refine i_isi_str_str ?_) | (with_reducible refine i_isi_str_tuple ?_) | (with_reducible refine i_isi_str_list ?_)
  | (with_reducible refine i_isi_non_int ?_) | (with_reducible refine i_isi_non_bool ?_) | (with_reducible refine i_isi_non_str ?_) | (with_reducible refine i_isi_non_tuple ?_) | (with_reducible refine i_isi_non_list ?_))
local macro_rules | `(tactic| walk_at "go") => `(tactic| (repeat' (walk_at "s")))
local macro_rules | `(tactic| walk_at "n") => `(tactic| simp only [wipe, List.map_cons, List.map_nil, List.set_cons_zero, List.set_cons_succ])
/-- what can stand in the place of a line -/
def TxI (L : Nat) (d : PyData) : Prop := (∃ l, d = dS l ∧ Sm L l) ∨ d = .none ∨ d = .int 7 ∨ d = .bool true ∨ d = .list [dS cSkip] ∨ d = .tuple [dS cGo, dS [48]]
theorem TxI.mono {L M : Nat} {d : PyData} (h : TxI L d) (k : L ≤ M) : TxI M d := by
  rcases h with ⟨l, e, a, b⟩ | h
  · exact .inl ⟨l, e, Nat.le_trans a k, b⟩
  · exact .inr h
theorem TxI.str {L : Nat} {l : List Nat} (h : Sm L l) : TxI L (dS l) := .inl ⟨l, rfl, h⟩
theorem txi_take {L : Nat} {ds : List PyData} (h : ∀ d ∈ ds, TxI L d) (n : Nat) : ∀ d ∈ ds.take n, TxI L d := fun d hd => h d (List.mem_of_mem_take hd)
theorem txi_drop {L : Nat} {ds : List PyData} (h : ∀ d ∈ ds, TxI L d) (n : Nat) : ∀ d ∈ ds.drop n, TxI L d := fun d hd => h d (List.mem_of_mem_drop hd)
theorem txi_app {L : Nat} {ds es : List PyData} (h : ∀ d ∈ ds, TxI L d) (k : ∀ d ∈ es, TxI L d) : ∀ d ∈ ds ++ es, TxI L d := fun d hd => (List.mem_append.mp hd).elim (h d) (k d)
theorem txi_one {L : Nat} {d : PyData} (h : TxI L d) : ∀ e ∈ [d], TxI L e := fun e he => by rw [List.mem_singleton.mp he]; exact h
theorem AtAll.rev {H : Hp} : ∀ {vs : List V} {ds : List PyData}, AtAll H vs ds → AtAll H vs.reverse ds.reverse
  | _, _, .nil => .nil
  | _, _, .cons a b => by
    rw [List.reverse_cons, List.reverse_cons]
    exact (AtAll.rev b).app (.one a)
section
variable {P : Program} {w : World} {K : PySem.W.Frag} {mg : Str → Option Value} {base : Heap} {C_GlimError C_BadLine C_BadOrder C_NoLine C_Lines C_Orders C_WORDS : Addr}
def p_L_spoilt (K : PySem.W.Frag) : P2 := fun x y H Q _ => ∃ Hk dd A L ds, x = .ref dd.a ∧ Dr K dd Hk H ∧ Same A Hk ∧ At A y (.list ds) ∧ (∀ d ∈ ds, TxI L d) ∧ 10 ≤ L ∧ L ≤ 1000 ∧ ds.length ≤ 50 ∧
  ∀ Hk' H' A' v es, Ext A Hk A' Hk' → Dr K dd Hk' H' → At A' v (.list es) → (∀ e ∈ es, TxI (L + 40) e) → es.length ≤ ds.length + 1 → Q v H'
theorem ok_L_spoilt (T : Txt K mg C_GlimError C_BadLine C_BadOrder C_NoLine C_Lines C_Orders C_WORDS) : OK P w K mg base CX0 4 "_law_spoilt" ["_law_draw_here", "_law_texts"] (sp2  (p_L_spoilt K)) := by
  refine OK.mk (k := 3) T.d_L_spoilt sc_L_spoilt len2 fun f cdv A outer s H vs Q E hr h => ?_
  obtain ⟨x, y, rfl, h⟩ := h
  refine ⟨_, (pss_cons (ps_set (i := 2) sc_L_spoilt.nd rfl (Or.inl rfl) (pe_f (ok_L_pick (K := K) T) (hr.mono (by decide)) pass0 (pa_cons (pv 0) (pa_cons pe_int pa_nil)))) (pss_cons (ps_if (pt_not (ptTruth K (pv 1) (fun _ => rfl))) (pss_one (ps_ret (pe_lst (pa_cons (pe_S [115, 107, 105, 112]) pa_nil)))) pss_nil) (pss_cons (ps_set (i := 3) sc_L_spoilt.nd rfl (Or.inl rfl) (pe_f (ok_L_pick (K := K) T) (hr.mono (by decide)) pass0 (pa_cons (pv 0) (pa_cons (pe_callB (cLen K) (by rfl) T.b_len (by decide +kernel) (pa_cons (pv 1) pa_nil)) pa_nil)))) (pss_cons (ps_if (pt_cmpR (opEq K hr.units) (pv 2) pe_int (nomark _)) (pss_one (ps_ret (pe_op (opAdd K) (pe_slice (slK K) (pv 1) po_none (po_some (pv 3))) (pe_slice (slK K) (pv 1) (po_some (pe_op (opAdd K) (pv 3) pe_int)) po_none)))) pss_nil) (pss_cons (ps_if (pt_cmpR (opEq K hr.units) (pv 2) pe_int (nomark _)) (pss_one (ps_ret (pe_op (opAdd K) (pe_op (opAdd K) (pe_slice (slK K) (pv 1) po_none (po_some (pv 3))) (pe_lst (pa_cons (pe_S [115, 107, 105, 112]) pa_nil))) (pe_slice (slK K) (pv 1) (po_some (pv 3)) po_none)))) pss_nil) (pss_cons (ps_if (pt_cmpR (opEq K hr.units) (pv 2) pe_int (nomark _)) (pss_one (ps_ret (pe_op (opAdd K) (pe_op (opAdd K) (pe_slice (slK K) (pv 1) po_none (po_some (pv 3))) (pe_lst (pa_cons (pe_ix (ixK K) (pe_lst (pa_cons pe_non (pa_cons pe_int (pa_cons (pe_lst (pa_cons (pe_S [115, 107, 105, 112]) pa_nil)) (pa_cons (pe_tup (pa_cons (pe_S [103, 111]) (pa_cons (pe_S [48]) pa_nil))) (pa_cons pe_bl pa_nil)))))) (pe_f (ok_L_pick (K := K) T) (hr.mono (by decide)) pass0 (pa_cons (pv 0) (pa_cons pe_int pa_nil))) (fun _ _ => rfl)) pa_nil))) (pe_slice (slK K) (pv 1) (po_some (pe_op (opAdd K) (pv 3) pe_int)) po_none)))) pss_nil) (pss_cons (ps_if (pt_cmpR (opEq K hr.units) (pv 2) pe_int (nomark _)) (pss_one (ps_ret (pe_op (opAdd K) (pe_slice (slK K) (pv 1) po_none (po_some (pv 3))) (Fg.pe_rev K (pe_slice (slK K) (pv 1) (po_some (pv 3)) po_none) (po_some (pe_un un_neg pe_int)))))) pss_nil) (pss_cons (ps_if (pt_not (pt_val (pe_callB (cIsi K) (by rfl) T.b_isinstance (by decide +kernel) (pa_cons (pe_ix (ixK K) (pv 1) (pv 3) (fun _ _ => rfl)) (pa_cons (pe_bltn (v := .ty "str") (by rfl) T.b_str (by decide +kernel) rfl) pa_nil))))) (pss_one (ps_ret (pv 1))) pss_nil) (pss_one (ps_ret (pe_op (opAdd K) (pe_op (opAdd K) (pe_slice (slK K) (pv 1) po_none (po_some (pv 3))) (pe_lst (pa_cons (pe_f (ok_L_spoilt_text (K := K) T) (hr.mono (by decide)) pass0 (pa_cons (pv 0) (pa_cons (pe_ix (ixK K) (pv 1) (pv 3) (fun _ _ => rfl)) pa_nil))) pa_nil))) (pe_slice (slK K) (pv 1) (po_some (pe_op (opAdd K) (pv 3) pe_int)) po_none)))))))))))), ?_⟩
  show (_ : TS) { nx := fun _ H' => Q .non H', rt := Q } [some x, some y, none, none] H
  obtain ⟨Hk, dd, A0, L, ds, rfl, dr, sa, hy, ln, hL0, hL, h50, q⟩ := h
  obtain ⟨a, xs, rfl, hA, hl, al⟩ := hy.listed
  have ll := al.len
  have ln4 : ∀ d ∈ ds, TxI (L + 40) d := fun d hd => (ln d hd).mono (by omega)
  have hk := sa _ _ hA
  have x0 : Ext A0 Hk A0 Hk := Ext.refl sa
  have fin : ∀ {G A1 Hk1 : Hp} {r : Addr} {zs : List V} {es : List PyData}, Ext A0 Hk A1 Hk1 → Dr K dd Hk1 G → G r = none → AtAll A1 zs es → (∀ e ∈ es, TxI (L + 40) e) → es.length ≤ ds.length + 1 → Q (.ref r) (upd G r (.lst zs)) := fun {G A1 Hk1 r zs es} x d n h1 h2 h3 =>
    q _ _ _ _ es (x.new (d.free n)) (d.new n) (At.mkLst upd_same (h1.same (same_upd (x.ag.free (d.free n)))) (by omega)) h2 h3
  have skipI : TxI (L + 40) (dS cSkip) := TxI.str ⟨by show 4 ≤ _; omega, by decide⟩
  walk_at "go"
  refine ⟨Hk, dd, 10, rfl, rfl, dr, by decide, fun kd G1 dr1 bk => ?_⟩
  walk_at "go"
  refine i_truL (dr1.old hk) ?_
  cases xs with
  | nil =>
    have e0 : ds = [] := by
      cases ds with
      | nil => rfl
      | cons d r => simp at ll
    subst e0
    walk_at "go"
    rw [if_pos (by rfl)]
    walk_at "go"
    refine i_new (by show 1 ≤ 100000; omega) fun l1 n1 => ?_
    exact fin (es := [dS cSkip]) x0 dr1 n1 (.one (.str _ (by decide))) (txi_one skipI) (by simp)
  | cons x0' xr =>
  walk_at "go"
  rw [if_neg (by simp)]
  generalize hxs : x0' :: xr = xs at *
  have xp : 1 ≤ xs.length := by rw [← hxs, List.length_cons]; omega
  walk_at "go"
  refine i_len_lst (.inl (.inl (dr1.old hk))) ?_
  walk_at "go"
  refine ⟨Hk, dd, _, rfl, rfl, dr1, by omega, fun p G2 dr2 bp => ?_⟩
  obtain ⟨p, rfl, hp⟩ := to_nat bp xp
  have ep : (p : Int) + 1 = ((p + 1 : Nat) : Int) := by omega
  walk_at "go"
  refine i_dec (fun e0 => ?_) (fun e0 => ?_)
  · walk_at "go"
    refine i_slL (.inl (.inl (dr2.old hk))) fun l1 n1 => ?_
    rw [cutV_to]
    walk_at "go"
    have d3 := dr2.same (same_upd (o := .lst (xs.take p)) n1)
    refine i_slL (.inl (.inl (d3.old hk))) fun l2 n2 => ?_
    rw [ep, cutV_fr]
    have d4 := d3.same (same_upd (o := .lst (xs.drop (p + 1))) n2)
    refine i_catL ((upd_ne (ne_of_none upd_same n2)).trans upd_same) upd_same (by rw [List.length_take, List.length_drop]; omega) fun l3 n3 => ?_
    exact fin x0 d4 n3 ((al.take p).app (al.drop (p + 1))) (txi_app (txi_take ln4 _) (txi_drop ln4 _)) (by rw [List.length_append, List.length_take, List.length_drop]; omega)
  walk_at "go"
  refine i_dec (fun e1 => ?_) (fun e1 => ?_)
  · walk_at "go"
    refine i_slL (.inl (.inl (dr2.old hk))) fun l1 n1 => ?_
    rw [cutV_to]
    have d3 := dr2.same (same_upd (o := .lst (xs.take p)) n1)
    walk_at "go"
    refine i_new (by show 1 ≤ 100000; omega) fun l2 n2 => ?_
    have d5 := d3.same (same_upd (o := .lst [S cSkip]) n2)
    refine i_catL ((upd_ne (ne_of_none upd_same n2)).trans upd_same) upd_same (by rw [List.length_take]; show _ + 1 ≤ 100000; omega) fun l3 n3 => ?_
    have d6 := d5.same (same_upd (o := .lst (xs.take p ++ [S cSkip])) n3)
    walk_at "go"
    refine i_slL (.inl (.inl (d6.old hk))) fun l4 n4 => ?_
    rw [cutV_fr]
    have d7 := d6.same (same_upd (o := .lst (xs.drop p)) n4)
    refine i_catL ((upd_ne (ne_of_none upd_same n4)).trans upd_same) upd_same (by rw [List.length_append, List.length_take, List.length_drop]; show _ + 1 + _ ≤ 100000; omega) fun l5 n5 => ?_
    exact fin x0 d7 n5 (((al.take p).app (.one (.str cSkip (by decide)))).app (al.drop p)) (txi_app (txi_app (txi_take ln4 _) (txi_one skipI)) (txi_drop ln4 _)) (by simp only [List.length_append, List.length_take, List.length_drop, List.length_cons, List.length_nil]; omega)
  walk_at "go"
  refine i_dec (fun e2 => ?_) (fun e2 => ?_)
  · walk_at "go"
    refine i_slL (.inl (.inl (dr2.old hk))) fun l1 n1 => ?_
    rw [cutV_to]
    have k1 := dr2.free n1
    have d3 := dr2.new (o := .lst (xs.take p)) n1
    have x1 := x0.hid (o := .lst (xs.take p)) k1
    walk_at "go"
    refine i_new (by show 1 ≤ 100000; omega) fun la nla => ?_
    have d4 := d3.new (o := .lst [S cSkip]) nla
    have ka := d3.free nla
    have x2 := x1.new (o := .lst [S cSkip]) ka
    walk_at "go"
    refine i_new (by show 2 ≤ 100000; omega) fun ta nta => ?_
    have d5 := d4.new (o := .tup [S cGo, S [48]]) nta
    have ka2 := d4.free nta
    have x3 := x2.new (o := .tup [S cGo, S [48]]) ka2
    walk_at "go"
    refine i_new (by show 5 ≤ 100000; omega) fun l5 nl5 => ?_
    have d6 := d5.new (o := .lst [.non, .int 7, .ref la, .ref ta, .bl true]) nl5
    have k5 := d5.free nl5
    have x4 := x3.hid (o := .lst [.non, .int 7, .ref la, .ref ta, .bl true]) k5
    have g1 : (upd (upd (upd (upd Hk l1 (.lst (xs.take p))) la (.lst [S cSkip])) ta (.tup [S cGo, S [48]])) l5 (.lst [.non, .int 7, .ref la, .ref ta, .bl true])) l1 = some (.lst (xs.take p)) :=
      same_upd k5 _ _ (same_upd ka2 _ _ (same_upd ka _ _ upd_same))
    have gk : (upd (upd (upd (upd Hk l1 (.lst (xs.take p))) la (.lst [S cSkip])) ta (.tup [S cGo, S [48]])) l5 (.lst [.non, .int 7, .ref la, .ref ta, .bl true])) a = some (.lst xs) :=
      same_upd k5 _ _ (same_upd ka2 _ _ (same_upd ka _ _ (same_upd k1 _ _ hk)))
    have aA := x1.ag.free ka
    have aA2 := x2.ag.free ka2
    have atl : At (upd (upd A0 la (.lst [S cSkip])) ta (.tup [S cGo, S [48]])) (.ref la) (.list [dS cSkip]) := At.mkLst (same_upd aA2 _ _ upd_same) (.one (.str _ (by decide))) (by decide)
    have att : At (upd (upd A0 la (.lst [S cSkip])) ta (.tup [S cGo, S [48]])) (.ref ta) (.tuple [dS cGo, dS [48]]) := At.mkTup upd_same (.cons (.str _ (by decide)) (.one (.str _ (by decide)))) (by decide)
    have al2 := al.same ((same_upd aA).trans (same_upd (o := .tup [S cGo, S [48]]) aA2))
    generalize upd (upd A0 la (.lst [S cSkip])) ta (.tup [S cGo, S [48]]) = A2 at *
    have h5 : (upd (upd (upd (upd Hk l1 (.lst (xs.take p))) la (.lst [S cSkip])) ta (.tup [S cGo, S [48]])) l5 (.lst [.non, .int 7, .ref la, .ref ta, .bl true])) l5 = some (.lst [.non, .int 7, .ref la, .ref ta, .bl true]) := upd_same
    generalize upd (upd (upd (upd Hk l1 (.lst (xs.take p))) la (.lst [S cSkip])) ta (.tup [S cGo, S [48]])) l5 (.lst [.non, .int 7, .ref la, .ref ta, .bl true]) = Hk2 at *
    walk_at "go"
    refine ⟨Hk2, dd, 5, rfl, rfl, d6, by decide, fun n G7 d7 bn => ?_⟩
    obtain ⟨n, rfl, hn⟩ := to_nat (t := 5) bn (by decide)
    have key : ∃ v d, atI [V.non, .int 7, .ref la, .ref ta, .bl true] (n : Int) = some v ∧ At A2 v d ∧ TxI (L + 40) d := by
      have : n = 0 ∨ n = 1 ∨ n = 2 ∨ n = 3 ∨ n = 4 := by omega
      rcases this with rfl | rfl | rfl | rfl | rfl
      · exact ⟨_, _, rfl, .non, .inr (.inl rfl)⟩
      · exact ⟨_, _, rfl, .int 7, .inr (.inr (.inl rfl))⟩
      · exact ⟨_, _, rfl, atl, .inr (.inr (.inr (.inr (.inl rfl))))⟩
      · exact ⟨_, _, rfl, att, .inr (.inr (.inr (.inr (.inr rfl))))⟩
      · exact ⟨_, _, rfl, .bl true, .inr (.inr (.inr (.inl rfl)))⟩
    obtain ⟨v, d, hv, av, iv⟩ := key
    refine i_ix_lst (.inl (.inl (d7.old h5))) hv ?_
    walk_at "go"
    refine i_new (by show 1 ≤ 100000; omega) fun l2 n2 => ?_
    have d8 := d7.same (same_upd (o := .lst [v]) n2)
    refine i_catL (d8.old g1) upd_same (by rw [List.length_take]; show _ + 1 ≤ 100000; omega) fun l3 n3 => ?_
    have d9 := d8.same (same_upd (o := .lst (xs.take p ++ [v])) n3)
    walk_at "go"
    refine i_slL (.inl (.inl (d9.old gk))) fun l4 n4 => ?_
    rw [ep, cutV_fr]
    have d10 := d9.same (same_upd (o := .lst (xs.drop (p + 1))) n4)
    refine i_catL ((upd_ne (ne_of_none upd_same n4)).trans upd_same) upd_same (by rw [List.length_append, List.length_take, List.length_drop]; show _ + 1 + _ ≤ 100000; omega) fun l5' n5' => ?_
    exact fin x4 d10 n5' (((al2.take p).app (.one av)).app (al2.drop (p + 1))) (txi_app (txi_app (txi_take ln4 _) (txi_one iv)) (txi_drop ln4 _)) (by simp only [List.length_append, List.length_take, List.length_drop, List.length_cons, List.length_nil]; omega)
  walk_at "go"
  refine i_dec (fun e3 => ?_) (fun e3 => ?_)
  · walk_at "go"
    refine i_slL (.inl (.inl (dr2.old hk))) fun l1 n1 => ?_
    rw [cutV_to]
    have d3 := dr2.same (same_upd (o := .lst (xs.take p)) n1)
    walk_at "go"
    refine i_slL (.inl (.inl (d3.old hk))) fun l2 n2 => ?_
    rw [cutV_fr]
    have d4 := d3.same (same_upd (o := .lst (xs.drop p)) n2)
    refine .inl ⟨l2, _, rfl, .inl (.inl upd_same), fun l3 n3 => ?_⟩
    have d5 := d4.same (same_upd (o := .lst (xs.drop p).reverse) n3)
    refine i_catL (same_upd n3 _ _ (same_upd n2 _ _ upd_same)) upd_same (by rw [List.length_take, List.length_reverse, List.length_drop]; omega) fun l4 n4 => ?_
    exact fin x0 d5 n4 ((al.take p).app (AtAll.rev (al.drop p))) (txi_app (txi_take ln4 _) fun d hd => txi_drop ln4 p d (List.mem_reverse.mp hd)) (by rw [List.length_append, List.length_take, List.length_reverse, List.length_drop]; omega)
  walk_at "go"
  have hp' : p < xs.length := by omega
  have hx : xs[p]? = some xs[p] := List.getElem?_eq_getElem hp'
  generalize xs[p] = v at hx
  obtain ⟨d, hd, ad⟩ := al.get hx
  have ix : ∀ {R : VK}, R v G2 → ixP K (.ref a) (.int (p : Int)) G2 R := fun k => i_ix_lst (.inl (.inl (dr2.old hk))) (atI_nat hx) k
  refine ix ?_
  walk_at "go"
  have adG := ad.same (sa.trans dr2.1)
  cases es : isStrD d with
  | false =>
    refine i_isiStr false adG es ?_
    walk_at "go"
    exact q _ _ _ _ ds x0 dr2 hy ln4 (by omega)
  | true =>
    refine i_isiStr true adG es ?_
    obtain ⟨z, rfl⟩ : ∃ z, d = .str z := by
      cases d <;> first
        | exact ⟨_, rfl⟩
        | cases es
    obtain ⟨l, rfl, rfl, hl0⟩ := ad.strl
    have sm : Sm L l := by
      rcases ln _ (List.mem_of_getElem? hd) with ⟨l', e, h⟩ | h | h | h | h | h
      · have : l = l' := by
          injection e with e
          injection e with e
          simpa using congrArg Array.toList e
        rw [this]; exact h
      all_goals cases h
    walk_at "go"
    refine i_slL (.inl (.inl (dr2.old hk))) fun l1 n1 => ?_
    rw [cutV_to]
    have k1 := dr2.free n1
    have d3 := dr2.new (o := .lst (xs.take p)) n1
    have x1 := x0.hid (o := .lst (xs.take p)) k1
    have gk := same_upd (o := .lst (xs.take p)) k1 _ _ hk
    walk_at "go"
    refine i_ix_lst (v := S l) (.inl (.inl (d3.old gk))) (atI_nat hx) ?_
    walk_at "go"
    refine ⟨_, dd, l, L, rfl, rfl, sm, hL, d3, fun m G4 d5 hm => ?_⟩
    have g1 := d5.old upd_same
    walk_at "go"
    refine i_new (by show 1 ≤ 100000; omega) fun l2 n2 => ?_
    have d6 := d5.same (same_upd (o := .lst [S m]) n2)
    refine i_catL (d6.old upd_same) upd_same (by rw [List.length_take]; show _ + 1 ≤ 100000; omega) fun l3 n3 => ?_
    have d7 := d6.same (same_upd (o := .lst (xs.take p ++ [S m])) n3)
    walk_at "go"
    refine i_slL (.inl (.inl (d7.old gk))) fun l4 n4 => ?_
    rw [ep, cutV_fr]
    have d8 := d7.same (same_upd (o := .lst (xs.drop (p + 1))) n4)
    refine i_catL ((upd_ne (ne_of_none upd_same n4)).trans upd_same) upd_same (by rw [List.length_append, List.length_take, List.length_drop]; show _ + 1 + _ ≤ 100000; omega) fun l5 n5 => ?_
    have ml := hm.1
    exact fin x1 d8 n5 (((al.take p).app (.one (.str m (by omega)))).app (al.drop (p + 1))) (txi_app (txi_app (txi_take ln4 _) (txi_one (TxI.str hm))) (txi_drop ln4 _)) (by simp only [List.length_append, List.length_take, List.length_drop, List.length_cons, List.length_nil]; omega)
end
end K43
namespace K43
open PySem PySem.Spec PyProof.Rows L2 Fg
local macro_rules | `(tactic| walk_at "sq") => `(tactic| first
  | assumption
  | exact .inl (.inl (by assumption))
  | exact .inl (.inl upd_same))
local macro_rules | `(tactic| walk_at "st") => `(tactic| first
  | assumption
  | exact .inl (.inl (by assumption))
  | exact .inl (.inl upd_same))
local macro_rules | `(tactic| walk_at "o") => `(tactic| first
  | omega
  | assumption
  | (simp only [List.length_append, List.length_take, List.length_drop, List.length_cons, List.length_nil, List.length_singleton, List.length_map, List.length_range, Int.toNat_natCast] ; omega))
local macro_rules | `(tactic| walk_at "s") => `(tactic| first
  | (with_reducible refine i_seq ?_)
  | (with_reducible refine i_asg ?_)
  | ((with_reducible refine' i_var ?h1 ?_); (case h1 => rfl))
  | (with_reducible refine i_c ?_)
  | ((with_reducible refine' i_gname' ?h1 ?_); (case h1 => (simp only [List.set_cons_zero, List.set_cons_succ]; rfl)))
  | (with_reducible refine i_op ?_)
  | (with_reducible refine i_ifS ?_)
  | (with_reducible refine i_for ?_)
  | (with_reducible refine i_test ?_)
  | (with_reducible refine i_B ?_)
  | (with_reducible refine i_exbl ?_)
  | (with_reducible refine i_exint ?_)
  | (with_reducible refine i_cb ?_)
  | (with_reducible refine i_nil ?_)
  | (with_reducible refine i_cons ?_)
  | (with_reducible refine i_ret ?_)
  | (with_reducible refine i_sl ?_)
  | (with_reducible refine i_nopart ?_)
  | (with_reducible refine i_part ?_)
  | (with_reducible refine i_add_int ?_)
  | (with_reducible refine i_sub ?_)
  | (with_reducible refine i_lt ?_)
  | ((with_reducible refine' i_mod ?h1 ?_); (case h1 => walk_at "o"))
  | ((with_reducible refine' i_fdiv ?h1 ?_); (case h1 => (refine cdiv_small ?_ ?_ <;> walk_at "o")))
  | ((with_reducible refine' i_sl_to ?h1 ?h2 ?_); (case h1 => walk_at "o"); (case h2 => walk_at "o"))
  | ((with_reducible refine' i_sl_from ?h1 ?h2 ?_); (case h1 => walk_at "o"); (case h2 => walk_at "o"))
  | ((with_reducible refine' i_add_str ?h1 ?_); (case h1 => walk_at "o"))
  | ((with_reducible refine' i_mul_int ?h1 ?_); (case h1 => first | (refine mul_small ?_ ?_ <;> walk_at "o") | (refine mul_smallR ?_ ?_ <;> walk_at "o")))
  | (with_reducible refine i_le ?_)
  | (with_reducible refine i_gt ?_)
  | (with_reducible refine i_ge ?_)
  | (with_reducible refine i_eq_int ?_)
  | (with_reducible refine i_eq_str ?_)
  | (with_reducible refine i_ne_int ?_)
  | (with_reducible refine i_ne_str ?_)
  | (with_reducible refine i_eq_bl ?_)
  | (with_reducible refine i_ne_bl ?_)
  | (with_reducible refine i_in_sg ?_)
  | (with_reducible refine i_notIn_sg ?_)
  | (with_reducible refine i_call ?_)
  | (with_reducible refine i_callS ?_)
  | (with_reducible refine i_sp1 ?_)
  | (with_reducible refine i_sp2 ?_)
  | (with_reducible refine i_sp3 ?_)
  | (with_reducible refine i_sp4 ?_)
  | (with_reducible refine i_sp1' ?_)
  | (with_reducible refine i_sp2' ?_)
  | (with_reducible refine i_sp3' ?_)
  | ((with_reducible refine' i_ix_lst ?h1 ?h2 ?_); (case h1 => walk_at "sq"); (case h2 => first | exact atI_nat rfl | rfl))
  | ((with_reducible refine' i_ix_tup ?h1 ?h2 ?_); (case h1 => walk_at "st"); (case h2 => first | exact atI_nat rfl | rfl))
  | (with_reducible refine i_gsub ?_)
  | (with_reducible refine i_par ?_)
  | (with_reducible refine i_lstRg1 ?_)
  | (with_reducible refine i_app ?_)
  | (with_reducible refine i_par2 ?_)
  | ((with_reducible refine' i_aug ?h1 ?_); (case h1 => rfl))
  | (with_reducible refine i_ipI ?_)
  | ((with_reducible refine' i_gtup2 ?h1 ?_); (case h1 => walk_at "st"))
  | (with_reducible refine i_int_bl ?_)
  | (with_reducible refine i_raise ?_)
  | (with_reducible refine i_mkE ?_)
  | (with_reducible refine i_ex1 ?_)
  | (with_reducible refine i_and ?_)
  | (with_reducible refine i_or ?_)
  | (with_reducible refine i_not ?_)
  | (with_reducible refine i_tt ?_)
  | (with_reducible refine i_ff ?_)
  | (with_reducible refine i_nott ?_)
  | (with_reducible refine i_notf ?_)
  | (with_reducible refine i_andV ?_)
  | (with_reducible refine i_orV ?_)
  | (with_reducible refine i_notV ?_)
  | (with_reducible refine i_ifE ?_)
  | (with_reducible refine i_tup ?_)
  | (with_reducible refine i_lst ?_)
  | (with_reducible refine i_un ?_)
  | (with_reducible refine i_neg ?_)
  | (with_reducible refine i_chain ?_)
  | (with_reducible refine i_next ?_)
  | (with_reducible refine i_retN ?_)
  | (with_reducible refine i_drop ?_)
  | (with_reducible refine i_int_int ?_)
  | (with_reducible refine i_abs ?_)
  | (with_reducible refine i_m1c ?_)
  | (with_reducible refine i_is_non ?_)
  | (with_reducible refine i_is_int ?_)
  | (with_reducible refine i_is_bl ?_)
  | (with_reducible refine i_isn_bl ?_)
  | (with_reducible refine i_is_str ?_)
  | (with_reducible refine i_is_ref ?_)
  | (with_reducible refine i_isn_non ?_)
  | (with_reducible refine i_isn_int ?_)
  | (with_reducible refine i_isn_str ?_)
  | (with_reducible refine i_isn_ref ?_)
  | (with_reducible refine i_len_str ?h1 ?_; (case h1 => walk_at "o"))
  | (with_reducible refine i_callD ?_)
  | (with_reducible refine i_spD2 ?_)
  | (with_reducible refine i_spM1 ?_)
  | (with_reducible refine i_spM2 ?_)
  | (with_reducible refine i_spM3 ?_)
  | (with_reducible refine i_spM4 ?_)
  | (with_reducible refine i_spM3d ?_)
  | (with_reducible refine i_tfld ?_)
  | (with_reducible refine i_sfld ?_)
  | (with_reducible refine i_meth ?_)
  | (with_reducible refine i_make ?_)
  | (with_reducible refine i_spl ?_)
  | (with_reducible refine i_mkE2 ?_)
  | (with_reducible refine i_ex2 ?_)
  | (with_reducible refine i_dget ?_)
  | (with_reducible refine i_tru ?_)
  | (with_reducible refine i_dput ?_)
  | (with_reducible refine i_dnotin ?_)
  | (with_reducible refine i_din ?_)
  | (with_reducible refine i_rev ?_)
  | (with_reducible refine i_isi_int_int ?_) | (with_reducible refine i_isi_int_bool ?_) | (with_reducible refine i_isi_int_str ?_) | (with_reducible refine i_isi_int_tuple ?_) | (with_reducible refine i_isi_int_list ?_)
  | (with_reducible refine i_isi_bl_int ?_) | (with_reducible refine i_isi_bl_bool ?_) | (with_reducible refine i_isi_bl_str ?_) | (with_reducible refine i_isi_bl_tuple ?_) | (with_reducible refine i_isi_bl_list ?_)
  | (with_reducible refine i_isi_str_int ?_) | (with_reducible refine i_isi_str_bool ?_) | (with_reducible refine i_isi_str_str ?_) | (with_reducible refine i_isi_str_tuple ?_) | (with_reducible refine i_isi_str_list ?_)
  | (with_reducible refine i_isi_non_int ?_) | (with_reducible refine i_isi_non_bool ?_) | (with_reducible refine i_isi_non_str ?_) | (with_reducible refine i_isi_non_tuple ?_) | (with_reducible refine i_isi_non_list ?_))
local macro_rules | `(tactic| walk_at "go") => `(tactic| (repeat' (walk_at "s")))
local macro_rules | `(tactic| walk_at "n") => `(tactic| simp only [wipe, List.map_cons, List.map_nil, List.set_cons_zero, List.set_cons_succ])
def OdAll (H : Hp) (xs : List V) (os : List Od) : Prop := xs.length = os.length ∧ ∀ (i : Nat) (o : Od), os[i]? = some o → ∃ a, xs[i]? = some (.ref a) ∧ H a = some (.tup (odV o))
theorem OdAll.same {H H' : Hp} {xs : List V} {os : List Od} (h : OdAll H xs os) (s : Same H H') : OdAll H' xs os := by
  refine ⟨h.1, fun i o e => ?_⟩
  obtain ⟨a, e1, e2⟩ := h.2 i o e
  exact ⟨a, e1, s _ _ e2⟩
theorem OdAll.app {H : Hp} {xs : List V} {os : List Od} {a : Addr} {o : Od} (h : OdAll H xs os) (e : H a = some (.tup (odV o))) : OdAll H (xs ++ [.ref a]) (os ++ [o]) := by
  refine ⟨by rw [List.length_append, List.length_append, h.1]; rfl, fun i o' e' => ?_⟩
  rcases Nat.lt_or_ge i os.length with hi | hi
  · rw [List.getElem?_append_left hi] at e'
    obtain ⟨b, e1, e2⟩ := h.2 i o' e'
    exact ⟨b, by rw [List.getElem?_append_left (by rw [h.1]; exact hi)]; exact e1, e2⟩
  · have hlt := (List.getElem?_eq_some_iff.mp e').1
    rw [List.length_append, List.length_singleton] at hlt
    obtain rfl : i = os.length := by omega
    rw [List.getElem?_append_right (Nat.le_refl _), Nat.sub_self] at e'
    cases e'
    exact ⟨a, by rw [List.getElem?_append_right (by rw [h.1]; exact Nat.le_refl _), h.1, Nat.sub_self]; rfl, e⟩
abbrev TO (os : List Od) : List PyData := os.map fun o => PyData.tuple (odD o)
theorem TO_bad {os : List Od} (f : ∀ o ∈ os, OdF os.length o) (h1 : 1 ≤ os.length) (h2 : os.length ≤ 20) : badO (.tuple (TO os)) = none := by
  show (if 1 ≤ (TO os).length ∧ (TO os).length ≤ 20 then (badOAt (TO os).length (TO os)).map fun n : Nat => (n : Int) else some (-1)) = none
  rw [if_pos (by rw [List.length_map]; omega), badO_none (fun k hk c hc => ?_)]
  · rfl
  · obtain ⟨o, ho, rfl⟩ := List.mem_map.mp (List.mem_of_getElem? hc)
    rw [List.length_map]
    exact odD_ord (f o ho)
theorem Dr.ext {K : PySem.W.Frag} {d : Dd} {Hk H A1 G1 : Hp} (h : Dr K d Hk H) (x : Ext Hk H A1 G1) : Dr K d A1 G1 := by
  obtain ⟨o, eo⟩ : ∃ o, H d.a = some o := by
    obtain ⟨s0, n0, hc, hl, p, b, u, x, sd, ha, hp⟩ := h
    exact ⟨_, ha⟩
  exact (h.same x.gg).know x.aa x.ag (x.free h.2.1 (by rw [eo]; simp))

theorem odD_le (o : Od) : (odD o).length ≤ 4 := by cases o <;> simp [odD]
theorem TO_all {H : Hp} {xs : List V} {os : List Od} {m : Nat} (al : OdAll H xs os) (f : ∀ o ∈ os, OdF m o) : AtAll H xs (TO os) := by
  refine atAll_of (by rw [al.1, List.length_map]) fun i v d hv hd => ?_
  rw [List.getElem?_map] at hd
  obtain ⟨o, ho, rfl⟩ := Option.map_eq_some_iff.mp hd
  obtain ⟨a, ha, hb⟩ := al.2 i o ho
  rw [hv] at ha
  cases ha
  exact At.mkTup hb (odD_at (f o (List.mem_of_getElem? ho)) H) (by have := odD_le o; omega)
theorem od_part {o : Od} {m : Nat} (h : OdF m o) (hm : m ≤ 20) : ∀ e ∈ odD o, PartF e := by
  have hr := od_read h hm
  exact (ln_part hr).1
theorem TO_line {os : List Od} {m : Nat} (f : ∀ o ∈ os, OdF m o) (hm : m ≤ 20) : ∀ d ∈ TO os, LineF d := fun d hd => by
  obtain ⟨o, ho, rfl⟩ := List.mem_map.mp hd
  exact ⟨odD o, rfl, od_part (f o ho) hm, odD_le o⟩
theorem TO_lineT {os : List Od} {m : Nat} (f : ∀ o ∈ os, OdF m o) (hm : m ≤ 20) : ∀ d ∈ TO os, LineT d := fun d hd => by
  obtain ⟨o, ho, rfl⟩ := List.mem_map.mp hd
  obtain ⟨_, _, _, _, _, _, _, _, _, ok, _⟩ := od_words (f o ho) hm
  exact ⟨odD o, rfl, ok, odD_le o⟩
theorem lines_deep {ws : List PyData} (h : ∀ w ∈ ws, LineF w) : deepD (.tuple ws) = .tuple ws := congrArg PyData.tuple (deeps_id fun d hd => (h d hd).deep)
theorem lines_dep {ws : List PyData} (h : ∀ w ∈ ws, LineF w) : (PyData.tuple ws).depth ≤ 2 := by
  have := deps_of fun d hd => (h d hd).dep
  show PyData.depthAll ws + 1 ≤ 2
  omega
theorem lines_lay {ws : List PyData} (h : ∀ w ∈ ws, LineF w) : (PyData.tuple ws).canLay0 = true := by
  simp only [PyData.canLay0]
  exact lays_of fun d hd => (h d hd).lay
/-- the texts of drawn lines -/
abbrev TX (os : List Od) : List PyData := (TO os).map fun d => dS (lineW d)
theorem TX_read {os : List Od} {m : Nat} (f : ∀ o ∈ os, OdF m o) (hm : m ≤ 20) : readAll (readLn fmD forms) (TX os) 0 = .inl (TO os) := by
  have key : ∀ (os : List Od), (∀ o ∈ os, OdF m o) → ∀ n, readAll (readLn fmD forms) (TX os) n = .inl (TO os) := fun os => by
    induction os with
    | nil => intro _ n; rfl
    | cons o r ih =>
      intro f n
      show (match readLn fmD forms (dS (lineD (odD o))) with
        | .inr e => Sum.inr (n, e)
        | .inl es => match readAll (readLn fmD forms) (TX r) (n + 1) with
          | .inl ws => Sum.inl (PyData.tuple es :: ws)
          | .inr p => Sum.inr p) = _
      rw [od_read (f o (List.mem_cons_self ..)) hm, ih (fun o' ho => f o' (List.mem_cons_of_mem _ ho))]
      rfl
  exact key os f 0
theorem TX_good {os : List Od} (f : ∀ o ∈ os, OdF os.length o) (h1 : 1 ≤ os.length) (h2 : os.length ≤ 20) : resA (TX os) = .good (TO os) := by
  unfold resA
  rw [TX_read f h2]
  show resW (TO os) = _
  unfold resW
  rw [TO_bad f h1 h2]
theorem TX_txi {os : List Od} {m : Nat} (f : ∀ o ∈ os, OdF m o) (hm : m ≤ 20) : ∀ d ∈ TX os, TxI 50 d := fun d hd => by
  obtain ⟨w, hw, rfl⟩ := List.mem_map.mp hd
  obtain ⟨o, ho, rfl⟩ := List.mem_map.mp hw
  exact TxI.str (od_text (f o ho) hm)
/-! ### what can be shown -/
theorem TxI.rp {L : Nat} {d : PyData} (h : TxI L d) (hL : 20 ≤ L) (hL2 : L ≤ 1000) : Rp L d ∧ d.hasDict = false ∧ d.depth ≤ 1 := by
  have small : ∀ {l : List Nat}, (∀ c ∈ l, c < 256) → ∀ c ∈ l, c < 16 ^ 8 := fun h c hc => Nat.lt_trans (h c hc) (by decide)
  rcases h with ⟨l, rfl, a, b⟩ | rfl | rfl | rfl | rfl | rfl
  · exact ⟨Rp.str a (small b), rfl, Nat.zero_le _⟩
  · exact ⟨Rp.non, rfl, Nat.zero_le _⟩
  · exact ⟨Rp.int (by decide), rfl, Nat.zero_le _⟩
  · exact ⟨Rp.bool _, rfl, Nat.zero_le _⟩
  · exact ⟨(rp_of (m := 20) (by decide +kernel)).mono hL, rfl, by decide⟩
  · exact ⟨(rp_of (m := 20) (by decide +kernel)).mono hL, rfl, by decide⟩
theorem nodicts_of {ds : List PyData} (h : ∀ d ∈ ds, d.hasDict = false) : PyData.hasDictAll ds = false := by
  induction ds with
  | nil => rfl
  | cons d r ih =>
    show (d.hasDict || PyData.hasDictAll r) = false
    rw [h d (List.mem_cons_self ..), ih fun e he => h e (List.mem_cons_of_mem _ he)]; rfl
theorem txs_rp {L : Nat} {ds : List PyData} (h : ∀ d ∈ ds, TxI L d) (hL : 20 ≤ L) (hL2 : L ≤ 400) (hn : ds.length ≤ 40) : (Rp 20000 (.list ds) ∧ (PyData.list ds).hasDict = false ∧ (PyData.list ds).depth ≤ 60) ∧ Rp 20000 (.tuple ds) ∧ (PyData.tuple ds).hasDict = false ∧ (PyData.tuple ds).depth ≤ 60 := by
  have h' := fun d hd => (h d hd).rp hL (by omega)
  have b : (L + 1) * ds.length ≤ 20000 := Nat.le_trans (Nat.mul_le_mul (show L + 1 ≤ 401 by omega) hn) (by decide)
  have nd : PyData.hasDictAll ds = false := nodicts_of fun d hd => (h' d hd).2.1
  have dp := deps_of (ds := ds) (n := 1) fun d hd => (h' d hd).2.2
  refine ⟨⟨(Rp.list fun d hd => (h' d hd).1).mono b, nd, ?_⟩, (Rp.tuple fun d hd => (h' d hd).1).mono b, nd, ?_⟩
  · show PyData.depthAll ds + 1 ≤ 60; omega
  · show PyData.depthAll ds + 1 ≤ 60; omega
theorem PartF.rp {e : PyData} (h : PartF e) : Rp 20 e ∧ e.hasDict = false := by
  rcases h with ⟨l, rfl, a, b⟩ | ⟨i, rfl, h0, h1⟩
  · exact ⟨Rp.str (by omega) fun c hc => Nat.lt_trans (b c hc) (by decide), rfl⟩
  · refine ⟨Rp.int ?_, rfl⟩
    have e : (10 : Nat) ^ 40 = 10000000000000000000000000000000000000000 := by decide
    rw [e]; omega
theorem LineF.rp {d : PyData} (h : LineF d) : Rp 100 d ∧ d.hasDict = false := by
  obtain ⟨es, rfl, p, l⟩ := h
  exact ⟨(Rp.tuple fun e he => (p e he).rp.1).mono (by omega), nodicts_of fun e he => (p e he).rp.2⟩
theorem lines_rp {ws : List PyData} (h : ∀ w ∈ ws, LineF w) (hn : ws.length ≤ 40) : Rp 5000 (.tuple ws) ∧ (PyData.tuple ws).hasDict = false ∧ (PyData.tuple ws).depth ≤ 2 :=
  ⟨(Rp.tuple fun d hd => (h d hd).rp.1).mono (by omega), nodicts_of fun d hd => (h d hd).rp.2, lines_dep h⟩
theorem readAll_lines : ∀ {ds : List PyData} {n : Nat} {ws : List PyData}, readAll (readLn fmD forms) ds n = .inl ws → (∀ w ∈ ws, LineF w) ∧ ws.length = ds.length
  | [], n, ws, h => by cases h; exact ⟨fun _ h => absurd h (by simp), rfl⟩
  | d :: r, n, ws, h => by
    have h : (match readLn fmD forms d with
        | .inr e => Sum.inr (n, e)
        | .inl es => match readAll (readLn fmD forms) r (n + 1) with
          | .inl ws => Sum.inl (PyData.tuple es :: ws)
          | .inr p => Sum.inr p) = (Sum.inl ws : List PyData ⊕ (Nat × Nat)) := h
    cases e1 : readLn fmD forms d with
    | inr e => rw [e1] at h; cases h
    | inl es =>
      rw [e1] at h
      cases e2 : readAll (readLn fmD forms) r (n + 1) with
      | inr p => rw [e2] at h; cases h
      | inl us =>
        rw [e2] at h
        cases h
        obtain ⟨a, b⟩ := readAll_lines e2
        obtain ⟨p, l4, _⟩ := ln_part e1
        exact ⟨fun w hw => by
          rcases List.mem_cons.mp hw with rfl | hw
          · exact ⟨es, rfl, p, l4⟩
          · exact a w hw, by rw [List.length_cons, List.length_cons, b]⟩
theorem readAll_num : ∀ {ds : List PyData} {n a b : Nat}, readAll (readLn fmD forms) ds n = .inr (a, b) → a < n + ds.length
  | [], n, a, b, h => by cases h
  | d :: r, n, a, b, h => by
    have h : (match readLn fmD forms d with
        | .inr e => Sum.inr (n, e)
        | .inl es => match readAll (readLn fmD forms) r (n + 1) with
          | .inl ws => Sum.inl (PyData.tuple es :: ws)
          | .inr p => Sum.inr p) = (Sum.inr (a, b) : List PyData ⊕ (Nat × Nat)) := h
    rw [List.length_cons]
    cases e1 : readLn fmD forms d with
    | inr e => rw [e1] at h; cases h; omega
    | inl es =>
      rw [e1] at h
      cases e2 : readAll (readLn fmD forms) r (n + 1) with
      | inr p =>
        obtain ⟨a', b'⟩ := p
        rw [e2] at h
        cases h
        have := readAll_num e2
        omega
      | inl us => rw [e2] at h; cases h
theorem rdk_num : ∀ {ws : List (List Nat)} {fs : List Fm} {k : Nat} {dn : List PyData} {e : Nat}, rdk fmD ws k dn fs = .inr e → e ≤ ws.length
  | ws, [], k, dn, e, h => by
    rw [rdk_end] at h
    split at h
    · cases h; omega
    · cases h
  | ws, f :: fs, k, dn, e, h => by
    by_cases hk : k < ws.length
    · cases e1 : fmD f (ws.getD k []) with
      | none => rw [rdk_bad hk e1] at h; cases h; omega
      | some d => rw [rdk_ok hk e1] at h; exact rdk_num h
    · rw [rdk_short hk] at h; cases h; exact Nat.le_refl _
theorem int_rp {i : Int} (h : i.natAbs ≤ 1000000) : Rp 0 (.int i) := by
  refine Rp.int ?_
  have e : (10 : Nat) ^ 40 = 10000000000000000000000000000000000000000 := by decide
  rw [e]; omega
theorem readAll_word : ∀ {ds : List PyData} {n a b : Nat}, readAll (readLn fmD forms) ds n = .inr (a, b) → (∀ z, PyData.str z ∈ ds → z.length ≤ 2000) → b ≤ 3000
  | [], n, a, b, h, _ => by cases h
  | d :: r, n, a, b, h, hz => by
    have h : (match readLn fmD forms d with
        | .inr e => Sum.inr (n, e)
        | .inl es => match readAll (readLn fmD forms) r (n + 1) with
          | .inl ws => Sum.inl (PyData.tuple es :: ws)
          | .inr p => Sum.inr p) = (Sum.inr (a, b) : List PyData ⊕ (Nat × Nat)) := h
    cases e1 : readLn fmD forms d with
    | inr e =>
      rw [e1] at h; cases h
      cases d with
      | str z =>
        rw [readLn_W] at e1
        have := hz z (List.mem_cons_self ..)
        have wm := words_many z
        cases hf : forms ((wrds z).getD 0 []) with
        | none => rw [rdW_none fmD hf] at e1; cases e1; omega
        | some fs => rw [rdW_some fmD hf] at e1; have := rdk_num e1; omega
      | _ => cases e1; omega
    | inl es =>
      rw [e1] at h
      cases e2 : readAll (readLn fmD forms) r (n + 1) with
      | inr p =>
        obtain ⟨a', b'⟩ := p
        rw [e2] at h
        cases h
        exact readAll_word e2 fun z hm => hz z (List.mem_cons_of_mem _ hm)
      | inl us => rw [e2] at h; cases h
/-- what is told can be shown -/
theorem resT_rp {ds : List PyData} (hn : ds.length ≤ 40) (hz : ∀ z, PyData.str z ∈ ds → z.length ≤ 2000) : Rp 20000 (resT (resA ds)) ∧ (resT (resA ds)).hasDict = false ∧ (resT (resA ds)).depth ≤ 60 := by
  have cls : ∀ {l : List Nat}, l.length ≤ 10 → (∀ c ∈ l, c < 256) → Rp 10 (dS l) := fun h k => Rp.str h fun c hc => Nat.lt_trans (k c hc) (by decide)
  unfold resA
  cases e : readAll (readLn fmD forms) ds 0 with
  | inr p =>
    obtain ⟨a, b⟩ := p
    have h1 := readAll_num e
    have h2 := readAll_word e hz
    refine ⟨(Rp.tuple (m := 10) fun d hd => ?_).mono (by show 11 * 3 ≤ _; decide), rfl, by show 1 ≤ 60; decide⟩
    simp only [List.mem_cons, List.not_mem_nil, or_false] at hd
    rcases hd with rfl | rfl | rfl
    · exact cls (by decide) (by decide)
    · exact (int_rp (by omega)).mono (Nat.zero_le _)
    · exact (int_rp (by omega)).mono (Nat.zero_le _)
  | inl ws =>
    obtain ⟨lf, wl⟩ := readAll_lines e
    show Rp 20000 (resT (resW ws)) ∧ (resT (resW ws)).hasDict = false ∧ (resT (resW ws)).depth ≤ 60
    unfold resW
    cases eb : badO (.tuple ws) with
    | some k =>
      have hk : k.natAbs ≤ 1000000 := by
        have eb : (if 1 ≤ ws.length ∧ ws.length ≤ 20 then (badOAt ws.length ws).map fun n : Nat => (n : Int) else some (-1)) = some k := eb
        split at eb
        · obtain ⟨n, hn', rfl⟩ := Option.map_eq_some_iff.mp eb
          unfold badOAt at hn'
          rw [List.findIdx?_eq_some_iff_getElem] at hn'
          obtain ⟨hp, _⟩ := hn'
          omega
        · cases eb; decide
      refine ⟨(Rp.tuple (m := 10) fun d hd => ?_).mono (by show 11 * 2 ≤ _; decide), rfl, by show 1 ≤ 60; decide⟩
      simp only [List.mem_cons, List.not_mem_nil, or_false] at hd
      rcases hd with rfl | rfl
      · exact cls (by decide) (by decide)
      · exact (int_rp hk).mono (Nat.zero_le _)
    | none =>
      obtain ⟨r1, r2, r3⟩ := lines_rp lf (by omega)
      refine ⟨(Rp.tuple (m := 5000) fun d hd => ?_).mono (by show 5001 * 2 ≤ _; decide), ?_, ?_⟩
      · simp only [List.mem_cons, List.not_mem_nil, or_false] at hd
        rcases hd with rfl | rfl
        · exact (cls (l := cGood) (by decide) (by decide)).mono (by decide)
        · exact r1
      · exact nodicts_of (ds := [dS cGood, PyData.tuple ws]) fun d hd => by
          simp only [List.mem_cons, List.not_mem_nil, or_false] at hd
          rcases hd with rfl | rfl
          · rfl
          · exact r2
      · have := deps_of (ds := [dS cGood, PyData.tuple ws]) (n := 2) fun d hd => by
          simp only [List.mem_cons, List.not_mem_nil, or_false] at hd
          rcases hd with rfl | rfl
          · exact Nat.zero_le _
          · exact r3
        show PyData.depthAll [dS cGood, PyData.tuple ws] + 1 ≤ 60
        omega
end K43
namespace K43
open PySem PySem.Spec PyProof.Rows L2 Fg
local macro_rules | `(tactic| walk_at "sq") => `(tactic| first
  | assumption
  | exact .inl (.inl (by assumption))
  | exact .inl (.inl upd_same))
local macro_rules | `(tactic| walk_at "st") => `(tactic| first
  | assumption
  | exact .inl (.inl (by assumption))
  | exact .inl (.inl upd_same))
local macro_rules | `(tactic| walk_at "o") => `(tactic| first
  | omega
  | assumption
  | (simp only [List.length_append, List.length_take, List.length_drop, List.length_cons, List.length_nil, List.length_singleton, List.length_map, List.length_range, Int.toNat_natCast] ; omega))
local macro_rules | `(tactic| walk_at "s") => `(tactic| first
  | (with_reducible refine i_seq ?_)
  | (with_reducible refine i_asg ?_)
  | ((with_reducible refine' i_var ?h1 ?_); (case h1 => rfl))
  | (with_reducible refine i_c ?_)
  | ((with_reducible refine' i_gname' ?h1 ?_); (case h1 => (simp only [List.set_cons_zero, List.set_cons_succ]; rfl)))
  | (with_reducible refine i_op ?_)
  | (with_reducible refine i_ifS ?_)
  | (with_reducible refine i_for ?_)
  | (with_reducible refine i_test ?_)
  | (with_reducible refine i_B ?_)
  | (with_reducible refine i_exbl ?_)
  | (with_reducible refine i_exint ?_)
  | (with_reducible refine i_cb ?_)
  | (with_reducible refine i_nil ?_)
  | (with_reducible refine i_cons ?_)
  | (with_reducible refine i_ret ?_)
  | (with_reducible refine i_sl ?_)
  | (with_reducible refine i_nopart ?_)
  | (with_reducible refine i_part ?_)
  | (with_reducible refine i_add_int ?_)
  | (with_reducible refine i_sub ?_)
  | (with_reducible refine i_lt ?_)
  | ((with_reducible refine' i_mod ?h1 ?_); (case h1 => walk_at "o"))
  | ((with_reducible refine' i_fdiv ?h1 ?_); (case h1 => (refine cdiv_small ?_ ?_ <;> walk_at "o")))
  | ((with_reducible refine' i_sl_to ?h1 ?h2 ?_); (case h1 => walk_at "o"); (case h2 => walk_at "o"))
  | ((with_reducible refine' i_sl_from ?h1 ?h2 ?_); (case h1 => walk_at "o"); (case h2 => walk_at "o"))
  | ((with_reducible refine' i_add_str ?h1 ?_); (case h1 => walk_at "o"))
  | ((with_reducible refine' i_mul_int ?h1 ?_); (case h1 => first | (refine mul_small ?_ ?_ <;> walk_at "o") | (refine mul_smallR ?_ ?_ <;> walk_at "o")))
  | (with_reducible refine i_le ?_)
  | (with_reducible refine i_gt ?_)
  | (with_reducible refine i_ge ?_)
  | (with_reducible refine i_eq_int ?_)
  | (with_reducible refine i_eq_str ?_)
  | (with_reducible refine i_ne_int ?_)
  | (with_reducible refine i_ne_str ?_)
  | (with_reducible refine i_eq_bl ?_)
  | (with_reducible refine i_ne_bl ?_)
  | (with_reducible refine i_in_sg ?_)
  | (with_reducible refine i_notIn_sg ?_)
  | (with_reducible refine i_call ?_)
  | (with_reducible refine i_callS ?_)
  | (with_reducible refine i_sp1 ?_)
  | (with_reducible refine i_sp2 ?_)
  | (with_reducible refine i_sp3 ?_)
  | (with_reducible refine i_sp4 ?_)
  | (with_reducible refine i_sp1' ?_)
  | (with_reducible refine i_sp2' ?_)
  | (with_reducible refine i_sp3' ?_)
  | ((with_reducible refine' i_ix_lst ?h1 ?h2 ?_); (case h1 => walk_at "sq"); (case h2 => first | exact atI_nat rfl | rfl))
  | ((with_reducible refine' i_ix_tup ?h1 ?h2 ?_); (case h1 => walk_at "st"); (case h2 => first | exact atI_nat rfl | rfl))
  | (with_reducible refine i_gsub ?_)
  | (with_reducible refine i_par ?_)
  | (with_reducible refine i_lstRg1 ?_)
  | (with_reducible refine i_app ?_)
  | (with_reducible refine i_par2 ?_)
  | ((with_reducible refine' i_aug ?h1 ?_); (case h1 => rfl))
  | (with_reducible refine i_ipI ?_)
  | ((with_reducible refine' i_gtup2 ?h1 ?_); (case h1 => walk_at "st"))
  | (with_reducible refine i_int_bl ?_)
  | (with_reducible refine i_raise ?_)
  | (with_reducible refine i_mkE ?_)
  | (with_reducible refine i_ex1 ?_)
  | (with_reducible refine i_and ?_)
  | (with_reducible refine i_or ?_)
  | (with_reducible refine i_not ?_)
  | (with_reducible refine i_tt ?_)
  | (with_reducible refine i_ff ?_)
  | (with_reducible refine i_nott ?_)
  | (with_reducible refine i_notf ?_)
  | (with_reducible refine i_andV ?_)
  | (with_reducible refine i_orV ?_)
  | (with_reducible refine i_notV ?_)
  | (with_reducible refine i_ifE ?_)
  | (with_reducible refine i_tup ?_)
  | (with_reducible refine i_lst ?_)
  | (with_reducible refine i_un ?_)
  | (with_reducible refine i_neg ?_)
  | (with_reducible refine i_chain ?_)
  | (with_reducible refine i_next ?_)
  | (with_reducible refine i_retN ?_)
  | (with_reducible refine i_drop ?_)
  | (with_reducible refine i_int_int ?_)
  | (with_reducible refine i_abs ?_)
  | (with_reducible refine i_m1c ?_)
  | (with_reducible refine i_is_non ?_)
  | (with_reducible refine i_is_int ?_)
  | (with_reducible refine i_is_bl ?_)
  | (with_reducible refine i_isn_bl ?_)
  | (with_reducible refine i_is_str ?_)
  | (with_reducible refine i_is_ref ?_)
  | (with_reducible refine i_isn_non ?_)
  | (with_reducible refine i_isn_int ?_)
  | (with_reducible refine i_isn_str ?_)
  | (with_reducible refine i_isn_ref ?_)
  | (with_reducible refine i_len_str ?h1 ?_; (case h1 => walk_at "o"))
  | (with_reducible refine i_callD ?_)
  | (with_reducible refine i_spD2 ?_)
  | (with_reducible refine i_spM1 ?_)
  | (with_reducible refine i_spM2 ?_)
  | (with_reducible refine i_spM3 ?_)
  | (with_reducible refine i_spM4 ?_)
  | (with_reducible refine i_spM3d ?_)
  | (with_reducible refine i_tfld ?_)
  | (with_reducible refine i_sfld ?_)
  | (with_reducible refine i_meth ?_)
  | (with_reducible refine i_make ?_)
  | (with_reducible refine i_spl ?_)
  | (with_reducible refine i_mkE2 ?_)
  | (with_reducible refine i_ex2 ?_)
  | (with_reducible refine i_dget ?_)
  | (with_reducible refine i_tru ?_)
  | (with_reducible refine i_dput ?_)
  | (with_reducible refine i_dnotin ?_)
  | (with_reducible refine i_din ?_)
  | (with_reducible refine i_rev ?_)
  | (with_reducible refine i_isi_int_int ?_) | (with_reducible refine i_isi_int_bool ?_) | (with_reducible refine i_isi_int_str ?_) | (with_reducible refine i_isi_int_tuple ?_) | (with_reducible refine i_isi_int_list ?_)
  | (with_reducible refine i_isi_bl_int ?_) | (with_reducible refine i_isi_bl_bool ?_) | (with_reducible refine i_isi_bl_str ?_) | (with_reducible refine i_isi_bl_tuple ?_) | (with_reducible refine i_isi_bl_list ?_)
  | (with_reducible refine i_isi_str_int ?_) | (with_reducible refine i_isi_str_bool ?_) | (with_reducible refine i_isi_str_str ?_) | (with_reducible refine i_isi_str_tuple ?_) | (with_reducible refine i_isi_str_list ?_)
  | (with_reducible refine i_isi_non_int ?_) | (with_reducible refine i_isi_non_bool ?_) | (with_reducible refine i_isi_non_str ?_) | (with_reducible refine i_isi_non_tuple ?_) | (with_reducible refine i_isi_non_list ?_))
local macro_rules | `(tactic| walk_at "go") => `(tactic| (repeat' (walk_at "s")))
local macro_rules | `(tactic| walk_at "n") => `(tactic| simp only [wipe, List.map_cons, List.map_nil, List.set_cons_zero, List.set_cons_succ])
/-- what the law asks -/
def p_law (K : PySem.W.Frag) : P1 := fun x H Q _ => ∃ (a : Addr) (ns : List Int), x = .ref a ∧ SqL K H a (ns.map V.int) ∧ ns.length ≤ 63 ∧ ∀ H', Q (.bl true) H'
/-- what a call of Orders(..) makes of a tuple of good lines -/
theorem mk_callT {C CB : Addr} {K : PySem.W.Frag} {d : Dd} {Hk G : Hp} {y : V} {ws : List PyData} {R : Hp → Prop} {E : XK} {p dx : Addr} (dr : Dr K d Hk G) (lf : ∀ w ∈ ws, LineF w) (good : badO (.tuple ws) = none) (hy : At Hk y (.tuple ws))
    (q : ∀ Hk' G' dx t, Same Hk Hk' → Dr K d Hk' G' → Hk' p = some (.ins C dx (OF t)) → At Hk' (.ref t) (.tuple ws) → R G') (np : G p = none) (ndx : G dx = none) (ne : dx ≠ p) :
    p_init C CB (.ref p) y (upd (upd G dx (.own p)) p (.ins C dx [])) (fun v H2 => v = .non ∧ R H2) E := by
  have sH : Same G (upd (upd G dx (.own p)) p (.ins C dx [])) := (same_upd ndx).trans (same_upd ((upd_ne ne.symm).trans np))
  refine ⟨Hk, p, dx, _, rfl, dr.1.trans sH, dr.free np, upd_same, hy, by have := lines_dep lf; omega, lines_lay lf, ?_⟩
  rw [lines_deep lf, good]
  intro A1 H1 t ds' ed s1 s2 b nw n1 hp at1
  cases ed
  obtain ⟨x1, s3⟩ := made_ext dr.1 np ndx ne s1 s2 b nw n1 hp
  exact ⟨rfl, q _ _ dx t x1.aa (dr.ext x1) upd_same (at1.same s3)⟩
theorem txt_ok {L : Nat} {ds : List PyData} (h : ∀ d ∈ ds, TxI L d) (hn : ds.length ≤ 100) {d : PyData} (e : seqOf d = some ds) : TxtOK d := fun ds' e' => by
  rw [e] at e'
  cases e'
  refine ⟨hn, fun z hz => ?_⟩
  rcases h _ hz with ⟨l, e, _, c⟩ | h | h | h | h | h
  · injection e with e
    subst e
    simpa using c
  all_goals cases h
theorem txt_len {L : Nat} {ds : List PyData} (h : ∀ d ∈ ds, TxI L d) (hL : L ≤ 2000) : ∀ z, PyData.str z ∈ ds → z.length ≤ 2000 := fun z hz => by
  rcases h _ hz with ⟨l, e, a, c⟩ | h | h | h | h | h
  · injection e with e
    subst e
    rw [str_len]; omega
  all_goals cases h
def RpOK (d : PyData) : Prop := Rp 20000 d ∧ d.hasDict = false ∧ d.depth ≤ 60
theorem line00 : RpOK (resT (.line 0 0)) := ⟨rp_of (by decide +kernel), rfl, by decide⟩
abbrev oGo : List Nat := [103, 111, 32, 49, 57]
abbrev oMore : List Nat := [109, 111, 114, 101, 32, 49, 32, 48]
def ODD : List PyData := [dS cSkip, .none, .int 7, .list [], .tuple [], .bool true, .list (List.replicate 21 (dS cSkip)), .list (List.replicate 20 (dS oGo)), .list (List.replicate 19 (dS oGo)), .list (List.replicate 21 (dS oMore))]
theorem odd_seq {l : List Nat} {n : Nat} (hn : n ≤ 40) (hl : Sm 20 l) : TxtOK (.list (List.replicate n (dS l))) ∧ RpOK (resT (resD (.list (List.replicate n (dS l))))) := by
  have t : ∀ d ∈ List.replicate n (dS l), TxI 20 d := fun d hd => by rw [List.eq_of_mem_replicate hd]; exact TxI.str hl
  exact ⟨txt_ok t (by rw [List.length_replicate]; omega) rfl, resT_rp (by rw [List.length_replicate]; exact hn) (txt_len t (by decide))⟩
theorem odd_ok : ∀ d ∈ ODD, TxtOK d ∧ RpOK (resT (resD d)) := fun d hd => by
  simp only [ODD, List.mem_cons, List.not_mem_nil, or_false] at hd
  have no : ∀ {d : PyData}, seqOf d = none → TxtOK d ∧ RpOK (resT (resD d)) := fun {d} e => ⟨fun ds h => (by rw [e] at h; cases h), by unfold resD; rw [e]; exact line00⟩
  rcases hd with rfl | rfl | rfl | rfl | rfl | rfl | rfl | rfl | rfl | rfl
  · exact no rfl
  · exact no rfl
  · exact no rfl
  · exact ⟨fun ds h => by cases h; exact ⟨by decide, fun z h => absurd h (by simp)⟩, resT_rp (ds := []) (by decide) fun z h => absurd h (by simp)⟩
  · exact ⟨fun ds h => by cases h; exact ⟨by decide, fun z h => absurd h (by simp)⟩, resT_rp (ds := []) (by decide) fun z h => absurd h (by simp)⟩
  · exact no rfl
  · exact odd_seq (by decide) ⟨by decide, by decide⟩
  · exact odd_seq (by decide) ⟨by decide, by decide⟩
  · exact odd_seq (by decide) ⟨by decide, by decide⟩
  · exact odd_seq (by decide) ⟨by decide, by decide⟩
theorem OF_no (t : Addr) {m : Str} (h : ¬ m = "lines") : (OF t).lookup m = none := by
  unfold OF
  rw [lookup_putF, if_neg h]
  all_goals rfl
section
variable {P : Program} {w : World} {K : PySem.W.Frag} {mg : Str → Option Value} {base : Heap} {C_GlimError C_BadLine C_BadOrder C_NoLine C_Lines C_Orders C_WORDS : Addr}
theorem ok_law_at {f : Addr} {fd : FuncData} (F : Fun K "law" "law" s_law f fd) (T : Txt K mg C_GlimError C_BadLine C_BadOrder C_NoLine C_Lines C_Orders C_WORDS) : GOk P w K mg base CX0 11 f fd ["_law_script"] (sp1 (p_law K)) := by
  refine FnGOk.mk (k := 10) F sc_law len1 fun cdv A outer s H vs Q E hgu hr h => ?_
  obtain ⟨x, rfl, h⟩ := h
  refine ⟨_, (pss_cons (ps_set (i := 1) sc_law.nd rfl (Or.inr rfl) (pe_f (ok_L_draw (K := K) T) (hr.mono (by decide)) pass0 (pa_cons (pv 0) pa_nil))) (pss_cons (ps_set (i := 2) sc_law.nd rfl (Or.inr rfl) (pe_f (ok_L_names (K := K) T) (hr.mono (by decide)) pass0 (pa_cons (pv 1) (pa_cons pe_int pa_nil)))) (pss_cons (ps_set (i := 3) sc_law.nd rfl (Or.inr rfl) (pe_op (opAdd K) pe_int (pe_f (ok_L_pick (K := K) T) (hr.mono (by decide)) pass0 (pa_cons (pv 1) (pa_cons pe_int pa_nil))))) (Evl.pss_cut (ps_if (pt_cmpR (opEq K hr.units) (pe_f (ok_L_pick (K := K) T) (hr.mono (by decide)) pass0 (pa_cons (pv 1) (pa_cons pe_int pa_nil))) pe_int (nomark _)) (pss_one (ps_set (i := 3) sc_law.nd rfl (Or.inr rfl) pe_int)) pss_nil) (pss_cons (ps_set (i := 4) sc_law.nd rfl (Or.inl rfl) (pe_callTy (cTup K) (by rfl) T.b_tuple (by decide +kernel) (pa_cons (pe_lc (own := [("_law_turn", 10)]) (g := gName 10) (tt := tYes) (by rfl) sc_law.nd (pi_range1 rfl T.b_range (pa_cons (pv 3) pa_nil)) (blkOk_by (own := [("_law_turn", 10)]) (N := ["_law_script", "_law_draw_here", "_law_names_here", "_law_many", "_law_lines", "_law_texts", "_law_orders", "_law_told_here", "_law_back", "_law_handed", "_law_turn", "_law_before", "_law_odd", "_law_again", "_law_line_here", "_law_part", "_law_text"]) (sc := (defScope s_law)) (by decide +kernel)) (fun _ _ _ _ _ => (pg_name (i := 10) sc_law.nd rfl (Or.inl rfl))) (fun _ _ _ _ _ => pts_nil) (fun _ _ _ _ _ => (pe_f (ok_L_order (K := K) T) (hr.mono (by decide)) pass0 (pa_cons (pv 1) (pa_cons (pv 3) (pa_cons (pv 2) (pa_cons pe_int pa_nil))))))) pa_nil))) (pss_cons (ps_setLc (i := 5) (own := [("_law_line_here", 14)]) (g := gName 14) (tt := tYes) (by rfl) sc_law.nd rfl rfl (sw_true rfl rfl rfl (by decide +kernel)) (piAny K (pv 4)) (blkOk_by (own := [("_law_line_here", 14)]) (N := ["_law_script", "_law_draw_here", "_law_names_here", "_law_many", "_law_lines", "_law_texts", "_law_orders", "_law_told_here", "_law_back", "_law_handed", "_law_turn", "_law_before", "_law_odd", "_law_again", "_law_line_here", "_law_part", "_law_text"]) (sc := (defScope s_law)) (by decide +kernel)) (fun _ _ _ _ _ => (pg_name (i := 14) sc_law.nd rfl (Or.inl rfl))) (fun _ _ _ _ _ => pts_nil) (fun _ _ _ _ _ => (peJoin K (pe_S [32]) (pe_lc (own := [("_law_part", 15)]) (g := gName 15) (tt := tYes) (by rfl) sc_law.nd (piAny K (pv 14)) (Fg.blkOk_in (own := [("_law_part", 15)]) (N := ["_law_script", "_law_draw_here", "_law_names_here", "_law_many", "_law_lines", "_law_texts", "_law_orders", "_law_told_here", "_law_back", "_law_handed", "_law_turn", "_law_before", "_law_odd", "_law_again", "_law_line_here", "_law_part", "_law_text"]) (sc := (defScope s_law)) (by rfl) (by rfl) (by decide +kernel)) (fun _ _ _ _ _ => (pg_name (i := 15) sc_law.nd rfl (Or.inl rfl))) (fun _ _ _ _ _ => pts_nil) (fun _ _ _ _ _ => (pe_callTy call_strP (by rfl) T.b_str (by decide +kernel) (pa_cons (pv 15) pa_nil))))))) (pss_cons (ps_set (i := 6) sc_law.nd rfl (Or.inl rfl) (pe_mk (ok_Orders___init__ (K := K) T) (hr.mono (by decide)) Fg.passN (pa_cons (pv 4) pa_nil))) (pss_cons (ps_set (i := 7) sc_law.nd rfl (Or.inl rfl) (pe_f (ok_write_orders (K := K) T) (hr.mono (by decide)) pass0 (pa_cons (pv 6) pa_nil))) (pss_cons (ps_if (pw_or (pt_cmpR (opNe K hr.units) (pe_callB (Fg.cReprA K hgu hr.units) (by rfl) T.b_repr (by decide +kernel) (pa_cons (pv 7) pa_nil)) (pe_callB (Fg.cReprA K hgu hr.units) (by rfl) T.b_repr (by decide +kernel) (pa_cons (pe_callTy (cTup K) (by rfl) T.b_tuple (by decide +kernel) (pa_cons (pv 5) pa_nil)) pa_nil)) (nomark _)) (pw_or1 (pt_cmpR (opNe K hr.units) (pe_callB (Fg.cReprA K hgu hr.units) (by rfl) T.b_repr (by decide +kernel) (pa_cons (peFld K (pv 6)) pa_nil)) (pe_callB (Fg.cReprA K hgu hr.units) (by rfl) T.b_repr (by decide +kernel) (pa_cons (pv 4) pa_nil)) (nomark _)))).pt (pss_one (ps_ret pe_bl)) pss_nil) (pss_cons (ps_set (i := 8) sc_law.nd rfl (Or.inl rfl) (pe_f (ok_read_orders (K := K) T) (hr.mono (by decide)) Fg.passN (pa_cons (pv 7) pa_nil))) (pss_cons (ps_if (pw_or (pt_not (pt_val (pe_callB (cIsi K) (by rfl) T.b_isinstance (by decide +kernel) (pa_cons (pv 8) (pa_cons (pe_gR _ T.c_Orders) pa_nil))))) (pw_or (pt_not (pt_cmpR (Fg.op_eqO (ok_Orders___eq__ (K := K) T) T.nt_Orders (hr.mono (by decide)) pass0) (pv 8) (pv 6) (nomark _))) (pw_or1 (pt_cmpR (opNe K hr.units) (pe_callB (Fg.cReprA K hgu hr.units) (by rfl) T.b_repr (by decide +kernel) (pa_cons (peFld K (pv 8)) pa_nil)) (pe_callB (Fg.cReprA K hgu hr.units) (by rfl) T.b_repr (by decide +kernel) (pa_cons (pv 4) pa_nil)) (nomark _))))).pt (pss_one (ps_ret pe_bl)) pss_nil) (pss_cons (ps_setLc (i := 9) (own := [("_law_text", 16)]) (g := gName 16) (tt := tYes) (by rfl) sc_law.nd rfl rfl (sw_true rfl rfl rfl (by decide +kernel)) (piAny K (pv 5)) (blkOk_by (own := [("_law_text", 16)]) (N := ["_law_script", "_law_draw_here", "_law_names_here", "_law_many", "_law_lines", "_law_texts", "_law_orders", "_law_told_here", "_law_back", "_law_handed", "_law_turn", "_law_before", "_law_odd", "_law_again", "_law_line_here", "_law_part", "_law_text"]) (sc := (defScope s_law)) (by decide +kernel)) (fun _ _ _ _ _ => (pg_name (i := 16) sc_law.nd rfl (Or.inl rfl))) (fun _ _ _ _ _ => pts_nil) (fun _ _ _ _ _ => (pv 16))) (pss_cons (ps_for PassesOwn.never rfl (pi_range1 rfl T.b_range (pa_cons pe_int pa_nil)) (pg_name (i := 10) sc_law.nd rfl (Or.inl rfl)) (pss_cons (ps_set (i := 9) sc_law.nd rfl (Or.inl rfl) (pe_f (ok_L_spoilt (K := K) T) (hr.mono (by decide)) pass0 (pa_cons (pv 1) (pa_cons (pv 9) pa_nil)))) (pss_cons (ps_set (i := 11) sc_law.nd rfl (Or.inl rfl) (pe_callB (Fg.cReprA K hgu hr.units) (by rfl) T.b_repr (by decide +kernel) (pa_cons (pv 9) pa_nil))) (pss_cons (ps_if (pw_or (pt_cmpR (opNe K hr.units) (pe_callB (Fg.cReprA K hgu hr.units) (by rfl) T.b_repr (by decide +kernel) (pa_cons (pe_f (ok_L_told (K := K) T) (hr.mono (by decide)) pass0 (pa_cons (pv 9) pa_nil)) pa_nil)) (pe_callB (Fg.cReprA K hgu hr.units) (by rfl) T.b_repr (by decide +kernel) (pa_cons (pe_f (ok_L_read (K := K) T) (hr.mono (by decide)) pass0 (pa_cons (pv 9) pa_nil)) pa_nil)) (nomark _)) (pw_or1 (pt_cmpR (opNe K hr.units) (pe_callB (Fg.cReprA K hgu hr.units) (by rfl) T.b_repr (by decide +kernel) (pa_cons (pv 9) pa_nil)) (pv 11) (nomark _)))).pt (pss_one (ps_ret pe_bl)) pss_nil) (pss_one (ps_if (pt_cmpR (opNe K hr.units) (pe_callB (Fg.cReprA K hgu hr.units) (by rfl) T.b_repr (by decide +kernel) (pa_cons (pe_f (ok_L_told (K := K) T) (hr.mono (by decide)) pass0 (pa_cons (pe_callTy (cTup K) (by rfl) T.b_tuple (by decide +kernel) (pa_cons (pv 9) pa_nil)) pa_nil)) pa_nil)) (pe_callB (Fg.cReprA K hgu hr.units) (by rfl) T.b_repr (by decide +kernel) (pa_cons (pe_f (ok_L_read (K := K) T) (hr.mono (by decide)) pass0 (pa_cons (pv 9) pa_nil)) pa_nil)) (nomark _)) (pss_one (ps_ret pe_bl)) pss_nil)))))) (pss_cons (ps_set (i := 12) sc_law.nd rfl (Or.inl rfl) (pe_lst (pa_cons (pe_S [115, 107, 105, 112]) (pa_cons pe_non (pa_cons pe_int (pa_cons (pe_lst pa_nil) (pa_cons (pe_tup pa_nil) (pa_cons pe_bl (pa_cons (pe_op op_mulP (pe_lst (pa_cons (pe_S [115, 107, 105, 112]) pa_nil)) pe_int) (pa_cons (pe_op op_mulP (pe_lst (pa_cons (pe_S [103, 111, 32, 49, 57]) pa_nil)) pe_int) (pa_cons (pe_op op_mulP (pe_lst (pa_cons (pe_S [103, 111, 32, 49, 57]) pa_nil)) pe_int) (pa_cons (pe_op op_mulP (pe_lst (pa_cons (pe_S [109, 111, 114, 101, 32, 49, 32, 48]) pa_nil)) pe_int) pa_nil)))))))))))) (pss_cons (ps_set (i := 9) sc_law.nd rfl (Or.inl rfl) (pe_ix (ixK K) (pv 12) (pe_f (ok_L_pick (K := K) T) (hr.mono (by decide)) pass0 (pa_cons (pv 1) (pa_cons (pe_callB (cLen K) (by rfl) T.b_len (by decide +kernel) (pa_cons (pv 12) pa_nil)) pa_nil))) (fun _ _ => rfl))) (pss_cons (ps_if (pt_cmpR (opNe K hr.units) (pe_callB (Fg.cReprA K hgu hr.units) (by rfl) T.b_repr (by decide +kernel) (pa_cons (pe_f (ok_L_told (K := K) T) (hr.mono (by decide)) pass0 (pa_cons (pv 9) pa_nil)) pa_nil)) (pe_callB (Fg.cReprA K hgu hr.units) (by rfl) T.b_repr (by decide +kernel) (pa_cons (pe_f (ok_L_read (K := K) T) (hr.mono (by decide)) pass0 (pa_cons (pv 9) pa_nil)) pa_nil)) (nomark _)) (pss_one (ps_ret pe_bl)) pss_nil) (pss_cons (ps_set (i := 13) sc_law.nd rfl (Or.inl rfl) (pe_f (ok_L_told (K := K) T) (hr.mono (by decide)) pass0 (pa_cons (pv 5) pa_nil))) (pss_one (ps_ret (pe_and (pe_cmpR (opEq K hr.units) (pe_callB (Fg.cReprA K hgu hr.units) (by rfl) T.b_repr (by decide +kernel) (pa_cons (pv 13) pa_nil)) (pe_callB (Fg.cReprA K hgu hr.units) (by rfl) T.b_repr (by decide +kernel) (pa_cons (pe_tup (pa_cons (pe_S [103, 111, 111, 100]) (pa_cons (pv 4) pa_nil))) pa_nil)) (nomark _)) (pe_one (pe_cmpR (opEq K hr.units) (pe_callB (Fg.cReprA K hgu hr.units) (by rfl) T.b_repr (by decide +kernel) (pa_cons (pe_f (ok_write_orders (K := K) T) (hr.mono (by decide)) pass0 (pa_cons (pv 8) pa_nil)) pa_nil)) (pe_callB (Fg.cReprA K hgu hr.units) (by rfl) T.b_repr (by decide +kernel) (pa_cons (pe_callTy (cTup K) (by rfl) T.b_tuple (by decide +kernel) (pa_cons (pv 5) pa_nil)) pa_nil)) (nomark _))))))))))))))))))))))), ?_⟩
  show (_ : TS) { nx := fun _ H' => Q .non H', rt := Q } [some x, none, none, none, none, none, none, none, none, none, none, none, none, none, none, none, none] H
  obtain ⟨a, ns, rfl, hS, hl, q⟩ := h
  walk_at "go"
  refine ⟨a, ns, rfl, hS, by omega, fun H0 d H1 s0 dr => ?_⟩
  walk_at "go"
  refine ⟨H0, d, 2, rfl, rfl, by decide, dr, fun nl ns2 H2 knl dr2 l2 nd2 hw2 => ?_⟩
  obtain ⟨n1, n2, rfl⟩ := two_of l2
  have w1 := hw2 n1 (by simp)
  have w2 := hw2 n2 (by simp)
  have hnl : (upd H0 nl (.lst ([n1, n2].map S))) nl = some (.lst ([n1, n2].map S)) := upd_same
  generalize upd H0 nl (.lst ([n1, n2].map S)) = N at *
  clear knl dr s0 hw2 nd2 l2
  walk_at "go"
  refine ⟨N, d, 6, rfl, rfl, dr2, by decide, fun k H3 d3 bk => ?_⟩
  obtain ⟨k, rfl, hk6⟩ := to_nat (t := 6) bk (by decide)
  walk_at "go"
  rw [one_add]
  refine i_cut (fun σ G => ∃ m : Nat, σ = [some (.ref a), some (.ref d.a), some (.ref nl), some (.int (m : Int)), none, none, none, none, none, none, none, none, none, none, none, none, none] ∧ Dr K d N G ∧ 1 ≤ m ∧ m ≤ 20) ?_ ?_
  · walk_at "go"
    refine ⟨N, d, 6, rfl, rfl, d3, by decide, fun k' H4 d4 bk' => ?_⟩
    walk_at "go"
    refine i_dec (fun _ => ?_) (fun _ => ?_)
    · walk_at "go"
      exact ⟨20, rfl, d4, by decide, by decide⟩
    · walk_at "go"
      exact ⟨1 + k, rfl, d4, by omega, by omega⟩
  clear d3 bk dr2
  rintro σ G ⟨m, rfl, d3, hm1, hm2⟩
  walk_at "go"
  refine i_lcR ?_
  walk_at "go"
  refine i_lcRg (by omega) (by omega) (fun _ => rfl) fun Dl nDl => ?_
  refine ⟨fun i G => ∃ Hk xs os, Same N Hk ∧ Hk Dl = none ∧ Dr K d (upd Hk Dl (.lst xs)) G ∧ OdAll Hk xs os ∧ os.length = i ∧ ∀ o ∈ os, OdF m o, ⟨N, [], [], Same.refl _, d3.free nDl, d3.new nDl, ⟨rfl, fun i o h => by simp at h⟩, rfl, fun o h => absurd h (by simp)⟩, ?_, ?_⟩
  · rintro i G hi ⟨Hk, xs, os, s1, n1', d4, al, oi, fo⟩
    walk_at "n"
    walk_at "go"
    refine ⟨_, d, m, nl, n1, n2, 9, rfl, rfl, rfl, rfl, by omega, by omega, by decide, by decide, d4, same_upd n1' _ _ (s1 _ _ hnl), w1, w2, fun t o G2 nt d5 fo' => ?_⟩
    have tD : t ≠ Dl := fun z => by rw [z, upd_same] at nt; cases nt
    rw [upd_ne tD] at nt
    have hacc := d5.old ((upd_ne tD.symm).trans upd_same)
    rw [upd_comm tD.symm] at d5
    have s2 : Same Hk (upd Hk t (.tup (odV o))) := same_upd nt
    have n2' : (upd Hk t (.tup (odV o))) Dl = none := (upd_ne tD.symm).trans n1'
    refine ⟨xs, hacc, by rw [al.1, oi, sizeLine_eq]; omega, upd Hk t (.tup (odV o)), xs ++ [.ref t], os ++ [o], s1.trans s2, n2', d5.put ((s1.trans s2).seq d3.cells) n2', (al.same s2).app upd_same, by rw [List.length_append, oi]; rfl, fun x hx => ?_⟩
    rcases List.mem_append.mp hx with hx | hx
    · exact fo x hx
    · rw [List.mem_singleton.mp hx]; exact fo'
  rintro G ⟨Hk, xs, os, s1, n1', d4, al, oi, fo⟩
  rw [Int.toNat_natCast] at oi
  subst oi
  walk_at "go"
  refine i_tuple_lst (.inl (.inl (d4.old upd_same))) fun tt ntt => ?_
  have d5 := d4.new (o := .tup xs) ntt
  have kt := d4.free ntt
  have al1 := TO_all ((al.same (same_upd (o := .lst xs) n1')).same (same_upd (o := .tup xs) kt)) fo
  have ht : (upd (upd Hk Dl (.lst xs)) tt (.tup xs)) tt = some (.tup xs) := upd_same
  generalize upd (upd Hk Dl (.lst xs)) tt (.tup xs) = A1 at *
  generalize upd G tt (.tup xs) = G1 at *
  clear al d4 n1' s1 nDl d3 kt ntt
  have xl : xs.length = os.length := by rw [al1.len, List.length_map]
  have aL : At A1 (.ref tt) (.tuple (TO os)) := At.mkTup ht al1 (by rw [List.length_map]; omega)
  have lf := TO_line fo hm2
  have lt := TO_lineT fo hm2
  have gd := TO_bad fo hm1 hm2
  have tl : (TO os).length = os.length := List.length_map ..
  have xl' : (TX os).length = os.length := by rw [List.length_map, List.length_map]
  obtain ⟨⟨rl1, rl2, rl3⟩, rt1, rt2, rt3⟩ := txs_rp (ds := TX os) (TX_txi fo hm2) (by decide) (by decide) (by omega)
  obtain ⟨ro1, ro2, ro3⟩ := lines_rp lf (by omega)
  walk_at "go"
  refine Fg.c_tupD d5.1 (fun R k => by walk_at "go"; exact k) (.inl (.inl (d5.old ht))) al1 (by omega) (fun w => dS (lineW w)) (fun _ => rfl) (fun y w B1 F1 hw hy y1 QV k => ?_) (fun Dt B1 F1 l y1 e ea al2 ll => ?_)
  · obtain ⟨es, rfl, ok, l4⟩ := lt w hw
    obtain ⟨b, ys, rfl, hb, hyl, aly⟩ := hy.tupled
    have len := line_len1 ok
    walk_at "n"
    walk_at "go"
    refine Fg.c_tupD y1.ag (fun R k => by walk_at "go"; exact k) (.inl (.inl (y1.ag _ _ hb))) aly hyl (fun e => dS (txD e)) (fun _ => rfl) (fun y e B2 F2 he hy2 y2 QV2 k2 => ?_) (fun Du B2 F2 l2 y2 e2 ea2 al3 ll2 => ?_)
    · have oke := ok e he
      have lene := okT_len oke
      walk_at "n"
      walk_at "go"
      exact i_strPt oke (hy2.same y2.ag) (k2 _ _ _ (Ext.refl y2.ag) (.str _ (by omega)))
    · have el : l2 = (es.map txD).map S := by
        have al4 : AtAll B2 l2 ((es.map txD).map dS) := by rw [List.map_map]; exact al3
        exact strs_of al4
      rw [el] at e2
      walk_at "go"
      refine i_joinG (.inl (.inl e2)) ?_ ?_
      · have := tx_sum es ok
        rw [List.length_map]
        show _ + es.length * 1 ≤ 100000
        omega
      · exact k _ _ _ y2 (.str _ (by show (lineD es).length ≤ 10000; omega))
  have d6 := d5.ext y1
  replace aL := aL.same y1.aa
  have al2 : AtAll B1 l (TX os) := al2
  have ll : l.length = os.length := by rw [ll, tl]
  clear d5 e al1 ht y1
  walk_at "go"
  intro p1 dx1 np ndx ne
  walk_at "go"
  refine mk_callT d6 lf gd aL (fun A2 G2 dx1 t1 s2 d7 hp1 at1 => ?_) np ndx ne
  clear np ndx ne
  replace aL := aL.same s2
  replace al2 := al2.same s2
  replace ea := s2 _ _ ea
  clear s2 d6
  walk_at "go"
  refine ⟨A2, p1, dx1, t1, TO os, rfl, d7.1, d7.old hp1, at1, lt, by omega, fun A3 G3 v7 x3 av7 => ?_⟩
  have d8 := d7.ext x3
  replace aL := aL.same x3.aa
  replace al2 := al2.same x3.aa
  replace ea := x3.aa _ _ ea
  replace hp1 := x3.aa _ _ hp1
  replace at1 := at1.same x3.aa
  have av7 : At A3 v7 (.tuple (TX os)) := av7
  clear x3 d7
  walk_at "go"
  refine i_reprA (av7.same d8.1) rt1 (by decide) rt2 rt3 ?_
  walk_at "go"
  refine i_tuple_lst (.inl (.inl (d8.old ea))) fun u nu => ?_
  walk_at "go"
  have d9 := d8.same (same_upd (o := .tup l) nu)
  refine i_reprA (At.mkTup upd_same (al2.same d9.1) (by omega)) rt1 (by decide) rt2 rt3 ?_
  refine i_ne_same ?_
  walk_at "go"
  refine i_fld (d9.old hp1) T.cl_Orders T.na_Orders_lines (OF_at t1) ?_
  walk_at "go"
  refine i_reprA (at1.same d9.1) ro1 (by decide) ro2 (by omega) ?_
  walk_at "go"
  refine i_reprA (aL.same d9.1) ro1 (by decide) ro2 (by omega) ?_
  refine i_ne_same ?_
  generalize upd G3 u (.tup l) = G4 at *
  clear nu d8
  walk_at "go"
  have rg : resD (.tuple (TX os)) = .good (TO os) := TX_good fo hm1 hm2
  have rg2 : resD (.list (TX os)) = .good (TO os) := TX_good fo hm1 hm2
  refine ⟨A3, _, d9.1, av7, ?_⟩
  rw [rg]
  intro A4 G5 p2 dx2 t2 x4 hp2 at2
  have d10 := d9.ext x4
  replace aL := aL.same x4.aa
  replace al2 := al2.same x4.aa
  replace ea := x4.aa _ _ ea
  replace hp1 := x4.aa _ _ hp1
  replace at1 := at1.same x4.aa
  clear x4 d9 av7
  have lay := lines_lay lf
  have dep := lines_dep lf
  walk_at "go"
  refine i_isiO (d10.old hp2) T.ic_Orders (.own _) T.k_Orders_Orders ?_
  walk_at "go"
  refine ⟨p2, dx2, _, rfl, d10.old hp2, .inl ⟨p1, dx1, _, rfl, d10.old hp1⟩, _, _, rfl, p2, dx2, t2, TO os, rfl, d10.old hp2, at2.same d10.1, lay, by omega, .inl ⟨p1, dx1, t1, TO os, rfl, d10.old hp1, at1.same d10.1, lay, by omega, _, rfl, ?_⟩⟩
  rw [PySem.SeqAt.eqv_refl _ lay]
  walk_at "go"
  refine i_fld (d10.old hp2) T.cl_Orders T.na_Orders_lines (OF_at t2) ?_
  walk_at "go"
  refine i_reprA (at2.same d10.1) ro1 (by decide) ro2 (by omega) ?_
  walk_at "go"
  refine i_reprA (aL.same d10.1) ro1 (by decide) ro2 (by omega) ?_
  refine i_ne_same ?_
  walk_at "go"
  -- a list of the texts
  refine Fg.c_lstD d10.1 (fun R k => by walk_at "go"; exact k) (.inl (.inl (d10.old ea))) al2 (by omega) id (fun _ => rfl) (fun y w B1 F1 hw hy y1 QV k => ?_) (fun Dh B1 F1 lh y1 eh eah alh llh => ?_)
  · walk_at "n"
    walk_at "go"
    exact k _ _ _ (Ext.refl y1.ag) hy
  rw [List.map_id] at alh
  have d11 := d10.ext y1
  replace aL := aL.same y1.aa
  replace al2 := al2.same y1.aa
  replace ea := y1.aa _ _ ea
  replace hp2 := y1.aa _ _ hp2
  replace at2 := at2.same y1.aa
  clear hp1 at1 d10 eh
  have txi := TX_txi fo hm2
  walk_at "go"
  refine f_rng1 3 (fun R k => by walk_at "go"; exact k) (by decide) (fun i σ G => ∃ vh v10 v11 ds Hk', σ = [some (.ref a), some (.ref d.a), some (.ref nl), some (.int (os.length : Int)), some (.ref tt), some (.ref Dt), some (.ref p1), some v7, some (.ref p2), some vh, v10, v11, none, none, none, none, none] ∧ Same B1 Hk' ∧ Dr K d Hk' G ∧ At Hk' vh (.list ds) ∧ (∀ e ∈ ds, TxI (50 + 40 * i) e) ∧ ds.length ≤ 20 + i)
    ⟨.ref Dh, none, none, TX os, B1, rfl, Same.refl _, d11, At.mkLst eah alh (by omega), txi, by omega⟩ ?_ ?_
  · rintro i σ G hi ⟨vh, v10, v11, ds, Hk', rfl, sk, d12, ah, ti, dl⟩
    show (_ : TS) _ [some (.ref a), some (.ref d.a), some (.ref nl), some (.int (os.length : Int)), some (.ref tt), some (.ref Dt), some (.ref p1), some v7, some (.ref p2), some vh, some (.int (i : Int)), v11, none, none, none, none, none] G
    walk_at "go"
    refine ⟨Hk', d, Hk', 50 + 40 * i, ds, rfl, d12, Same.refl _, ah, ti, by omega, by omega, by omega, fun Hk2 G2 C1 vh2 es x1 d13 av ti2 el => ?_⟩
    have av := av.same x1.ag
    have sk2 := sk.trans x1.gg
    have ti2 : ∀ e ∈ es, TxI (50 + 40 * (i + 1)) e := fun e he => (ti2 e he).mono (by omega)
    clear x1 d12
    have tiw : ∀ e ∈ es, TxI 200 e := fun e he => (ti2 e he).mono (by omega)
    obtain ⟨⟨q1, q2, q3⟩, q4, q5, q6⟩ := txs_rp tiw (by decide) (by decide) (by omega)
    obtain ⟨u1, u2, u3⟩ := resT_rp (ds := es) (by omega) (txt_len tiw (by decide))
    walk_at "go"
    refine i_reprA (av.same d13.1) q1 (by decide) q2 q3 ?_
    walk_at "go"
    refine ⟨Hk2, _, d13.1, av, fun A3 G3 v3 x3 av3 => ?_⟩
    have d14 := d13.ext x3
    replace av := av.same x3.aa
    have av3 : At A3 v3 (resT (resA es)) := av3
    replace sk2 := sk2.trans x3.aa
    clear x3 d13
    walk_at "go"
    refine i_reprA (av3.same d14.1) u1 (by decide) u2 u3 ?_
    walk_at "go"
    refine ⟨A3, _, d14.1, av, txt_ok tiw (by omega) rfl, fun A4 G4 v4 x4 av4 => ?_⟩
    have d15 := d14.ext x4
    replace av := av.same x4.aa
    have av4 : At A4 v4 (resT (resA es)) := av4
    replace sk2 := sk2.trans x4.aa
    clear x4 d14
    walk_at "go"
    refine i_reprA (av4.same d15.1) u1 (by decide) u2 u3 ?_
    refine i_ne_same ?_
    walk_at "go"
    refine i_reprA (av.same d15.1) q1 (by decide) q2 q3 ?_
    walk_at "go"
    refine i_ne_same ?_
    walk_at "go"
    obtain ⟨b, ys, rfl, hb, hyl, aly⟩ := av.listed
    refine i_tuple_lst (.inl (.inl (d15.old hb))) fun t nt => ?_
    have d16 := d15.new (o := .tup ys) nt
    have kt := d15.free nt
    have atT : At (upd A4 t (.tup ys)) (.ref t) (.tuple es) := At.mkTup upd_same (aly.same (same_upd kt)) (by rw [← aly.len]; exact hyl)
    replace av := av.same (same_upd (o := .tup ys) kt)
    replace sk2 := sk2.trans (same_upd (o := .tup ys) kt)
    generalize upd A4 t (.tup ys) = A5 at *
    walk_at "go"
    refine ⟨A5, _, d16.1, atT, fun A6 G6 v6 x6 av6 => ?_⟩
    have d17 := d16.ext x6
    replace av := av.same x6.aa
    have av6 : At A6 v6 (resT (resA es)) := av6
    replace sk2 := sk2.trans x6.aa
    clear x6 d16
    walk_at "go"
    refine i_reprA (av6.same d17.1) u1 (by decide) u2 u3 ?_
    walk_at "go"
    refine ⟨A6, _, d17.1, av, txt_ok tiw (by omega) rfl, fun A7 G7 v8 x7 av8 => ?_⟩
    have d18 := d17.ext x7
    replace av := av.same x7.aa
    have av8 : At A7 v8 (resT (resA es)) := av8
    replace sk2 := sk2.trans x7.aa
    walk_at "go"
    refine i_reprA (av8.same d18.1) u1 (by decide) u2 u3 ?_
    refine i_ne_same ?_
    walk_at "go"
    exact ⟨_, _, _, es, A7, rfl, sk2, d18, av, ti2, by omega⟩
  rintro σ G ⟨vh, v10, v11, ds, Hk', rfl, sk, d12, ah, ti, dl⟩
  replace aL := aL.same sk
  replace al2 := al2.same sk
  replace ea := sk _ _ ea
  replace hp2 := sk _ _ hp2
  replace at2 := at2.same sk
  clear ah ti dl sk d11
  walk_at "go"
  refine i_new (by show 0 ≤ 100000; omega) fun e1 n1 => ?_
  obtain ⟨K1, s1, h1, d13⟩ := d12.step (.lst []) n1
  have a1 : At K1 (.ref e1) (.list []) := At.mkLst h1 .nil (by decide)
  generalize upd G e1 (.lst []) = G1 at *
  walk_at "go"
  refine i_new (by show 0 ≤ 100000; omega) fun e2 n2 => ?_
  obtain ⟨K2, s2, h2, d14⟩ := d13.step (.tup []) n2
  have a2 : At K2 (.ref e2) (.tuple []) := At.mkTup h2 .nil (by decide)
  replace a1 := a1.same s2
  replace s1 := s1.trans s2
  generalize upd G1 e2 (.tup []) = G2 at *
  have mul : ∀ {Kk G : Hp} {c : List Nat} {n : Nat} {R : VK}, c.length ≤ 10000 → n ≤ 100 → Dr K d Kk G → (∀ p Kk' G', Same Kk Kk' → Dr K d Kk' G' → At Kk' (.ref p) (.list (List.replicate n (dS c))) → R (.ref p) G') → ∀ z, G z = none → mulP (.ref z) (.int (n : Int)) (upd G z (.lst [S c])) R := fun {Kk G c n R} hc hn dr k z nz => by
    have fl : (List.replicate (n : Int).toNat [S c]).flatten = List.replicate n (S c) := by
      rw [Int.toNat_natCast]
      clear k
      induction n with
      | zero => rfl
      | succ n ih => rw [List.replicate_succ, List.flatten_cons, ih (by omega), List.replicate_succ]; rfl
    refine .inr (.inr ⟨z, (n : Int), [S c], rfl, rfl, upd_same, by omega, ?_, ?_, fun m nm => ?_⟩)
    · first
        | omega
        | (simp only [Int.toNat_natCast, sizeLine_eq, List.length_singleton]; omega)
    · first
        | omega
        | (simp only [Int.toNat_natCast, sizeLine_eq, List.length_singleton]; omega)
    rw [fl] at *
    have d2 := dr.same (same_upd (o := .lst [S c]) nz)
    obtain ⟨K', s', h', d'⟩ := d2.step (.lst (List.replicate n (S c))) nm
    exact k m K' _ s' d' (At.mkLst h' (AtAll.rep (.str c hc) n) (by rw [List.length_replicate]; omega))
  walk_at "go"
  refine i_new (by show 1 ≤ 100000; omega) ?_
  refine mul (n := 21) (by decide) (by decide) d14 fun m1 K3 G3 s3 d15 a3 => ?_
  walk_at "go"
  refine i_new (by show 1 ≤ 100000; omega) ?_
  refine mul (n := 20) (by decide) (by decide) d15 fun m2 K4 G4 s4 d16 a4 => ?_
  walk_at "go"
  refine i_new (by show 1 ≤ 100000; omega) ?_
  refine mul (n := 19) (by decide) (by decide) d16 fun m3 K5 G5 s5 d17 a5 => ?_
  walk_at "go"
  refine i_new (by show 1 ≤ 100000; omega) ?_
  refine mul (n := 21) (by decide) (by decide) d17 fun m4 K6 G6 s6 d18 a6 => ?_
  walk_at "go"
  refine i_new (by show 10 ≤ 100000; omega) fun ol nol => ?_
  obtain ⟨K7, s7, h7, d19⟩ := d18.step (.lst [S cSkip, .non, .int 7, .ref e1, .ref e2, .bl true, .ref m1, .ref m2, .ref m3, .ref m4]) nol
  have hG7 : (upd G6 ol (.lst [S cSkip, .non, .int 7, .ref e1, .ref e2, .bl true, .ref m1, .ref m2, .ref m3, .ref m4])) ol = some (.lst [S cSkip, .non, .int 7, .ref e1, .ref e2, .bl true, .ref m1, .ref m2, .ref m3, .ref m4]) := upd_same
  have s37 := (((s3.trans s4).trans s5).trans s6).trans s7
  have s17 := s1.trans s37
  have aO : AtAll K7 [S cSkip, .non, .int 7, .ref e1, .ref e2, .bl true, .ref m1, .ref m2, .ref m3, .ref m4] ODD :=
    .cons (.str _ (by decide)) (.cons .non (.cons (.int 7) (.cons (a1.same s37) (.cons (a2.same s37) (.cons (.bl true) (.cons (a3.same (((s4.trans s5).trans s6).trans s7)) (.cons (a4.same ((s5.trans s6).trans s7)) (.cons (a5.same (s6.trans s7)) (.one (a6.same s7))))))))))
  replace aL := aL.same s17
  replace al2 := al2.same s17
  replace ea := s17 _ _ ea
  replace hp2 := s17 _ _ hp2
  replace at2 := at2.same s17
  clear mul a1 a2 a3 a4 a5 a6 s37 s17 s1 s2 s3 s4 s5 s6 s7 d12 d13 d14 d15 d16 d17 d18 h1 h2 n1 n2
  have hlen : ([S cSkip, .non, .int 7, .ref e1, .ref e2, .bl true, .ref m1, .ref m2, .ref m3, .ref m4] : List V).length = 10 := rfl
  generalize ([S cSkip, .non, .int 7, .ref e1, .ref e2, .bl true, .ref m1, .ref m2, .ref m3, .ref m4] : List V) = ov at *
  walk_at "go"
  refine i_len_lst (.inl (.inl hG7)) ?_
  walk_at "go"
  rw [hlen]
  refine ⟨K7, d, 10, rfl, rfl, d19, by decide, fun n G8 d20 bn => ?_⟩
  obtain ⟨n, rfl, hn⟩ := to_nat (t := 10) bn (by decide)
  have hv : ov[n]? = some ov[n] := List.getElem?_eq_getElem (by omega)
  generalize ov[n] = v9 at *
  obtain ⟨dd, hdd, av9⟩ := aO.get hv
  obtain ⟨tk, u1, u2, u3⟩ := odd_ok dd (List.mem_of_getElem? hdd)
  refine i_ix_lst (.inl (.inl (d20.old h7))) (atI_nat hv) ?_
  walk_at "go"
  refine ⟨K7, dd, d20.1, av9, fun A3 G3 v3 x3 av3 => ?_⟩
  have d21 := d20.ext x3
  replace av9 := av9.same x3.aa
  replace aL := aL.same x3.aa
  replace al2 := al2.same x3.aa
  replace ea := x3.aa _ _ ea
  replace hp2 := x3.aa _ _ hp2
  replace at2 := at2.same x3.aa
  clear x3 aO hv hdd h7 hG7 d20 d19 nol
  walk_at "go"
  refine i_reprA (av3.same d21.1) u1 (by decide) u2 u3 ?_
  walk_at "go"
  refine ⟨A3, _, d21.1, av9, tk, fun A4 G4 v4 x4 av4 => ?_⟩
  have d22 := d21.ext x4
  replace aL := aL.same x4.aa
  replace al2 := al2.same x4.aa
  replace ea := x4.aa _ _ ea
  replace hp2 := x4.aa _ _ hp2
  replace at2 := at2.same x4.aa
  clear x4 d21 av9 av3
  walk_at "go"
  refine i_reprA (av4.same d22.1) u1 (by decide) u2 u3 ?_
  refine i_ne_same ?_
  walk_at "go"
  refine ⟨A4, .list (TX os), d22.1, At.mkLst ea al2 (by omega), fun A5 G5 v5 x5 av5 => ?_⟩
  rw [rg2] at av5
  have d23 := d22.ext x5
  replace aL := aL.same x5.aa
  replace al2 := al2.same x5.aa
  replace ea := x5.aa _ _ ea
  replace hp2 := x5.aa _ _ hp2
  replace at2 := at2.same x5.aa
  clear x5 d22 av4
  obtain ⟨w1', w2', w3'⟩ := resT_rp (ds := TX os) (by omega) (txt_len (TX_txi fo hm2) (by decide))
  rw [TX_good fo hm1 hm2] at w1' w2' w3'
  walk_at "go"
  refine i_reprA (av5.same d23.1) w1' (by decide) w2' w3' ?_
  walk_at "go"
  refine i_new (by show 2 ≤ 100000; omega) fun r nr => ?_
  walk_at "go"
  refine i_reprA (d := resT (.good (TO os))) (resT_good (t2 := tt) upd_same ((aL.same d23.1).same (same_upd nr))) w1' (by decide) w2' w3' ?_
  refine i_eq_same ?_
  have d24 := d23.same (same_upd (o := .tup [S cGood, .ref tt]) nr)
  walk_at "go"
  refine ⟨A5, p2, dx2, t2, TO os, rfl, d24.1, d24.old hp2, at2, lt, by omega, fun A6 G6 v6 x6 av6 => ?_⟩
  have d25 := d24.ext x6
  replace al2 := al2.same x6.aa
  replace ea := x6.aa _ _ ea
  have av6 : At A6 v6 (.tuple (TX os)) := av6
  walk_at "go"
  refine i_reprA (av6.same d25.1) rt1 (by decide) rt2 rt3 ?_
  walk_at "go"
  refine i_tuple_lst (.inl (.inl (d25.old ea))) fun u nu => ?_
  walk_at "go"
  have d26 := d25.same (same_upd (o := .tup l) nu)
  refine i_reprA (At.mkTup upd_same (al2.same d26.1) (by omega)) rt1 (by decide) rt2 rt3 ?_
  refine i_eq_same ?_
  exact q _
end
end K43
namespace K43
open PySem PySem.Spec PyProof.Rows L2 Fg
theorem all_mk {l : PySem.W.OpenLaw} {w : World} {K : PySem.W.Frag} {h : Heap} {mg : Str → Option Value} {fa C_GlimError C_BadLine C_BadOrder C_NoLine C_Lines C_Orders C_WORDS f1 f2 f3 f4 f5 f6 f7 f8 f9 f10 f11 f12 f13 f14 f15 f16 f17 f18 f19 f20 f21 f22 f23 f24 f25 f26 f27 f28 f29 f30 f31 f32 f33 f34 f35 f36 f37 f38 f39 f40 f41 f42 f43 f44 f45 f46 f47 f48 : Addr} (X : K.In h) (G : h.Ns mainGlobals mg) (hfa : mg "law" = some (.ref fa))
    {od1 an1 od2 an2 od3 an3 od4 an4 od5 an5 od6 an6 od7 an7 od8 an8 od9 an9 od10 an10 od11 an11 od12 an12 od13 an13 od14 an14 od15 an15 od16 an16 od17 an17 od18 an18 od19 an19 od20 an20 od21 an21 od22 an22 od23 an23 od24 an24 od25 an25 od26 an26 od27 an27 od28 an28 od29 an29 od30 an30 od31 an31 od32 an32 od33 an33 od34 an34 od35 an35 od36 an36 od37 an37 od38 an38 od39 an39 od40 an40 od41 an41 od42 an42 od43 an43 od44 an44 od45 an45 od46 an46 od47 an47 od48 an48 : Option Addr} {sl1 sl2 sl3 sl4 sl5 sl6 sl7 sl8 sl9 sl10 sl11 sl12 sl13 sl14 sl15 sl16 sl17 sl18 sl19 sl20 sl21 sl22 sl23 sl24 sl25 sl26 sl27 sl28 sl29 sl30 sl31 sl32 sl33 sl34 sl35 sl36 sl37 sl38 sl39 sl40 sl41 sl42 sl43 sl44 sl45 sl46 sl47 sl48 : Array (Option Value)} {oc1 kV1 dc1 pm1 cd1 ct1 oc2 kV2 dc2 pm2 cd2 ct2 oc3 kV3 dc3 pm3 cd3 ct3 oc4 kV4 dc4 pm4 cd4 ct4 oc5 kV5 dc5 pm5 cd5 ct5 oc6 kV6 dc6 pm6 cd6 ct6 oc7 kV7 dc7 pm7 cd7 ct7 oc8 kV8 dc8 pm8 cd8 ct8 oc9 kV9 dc9 pm9 cd9 ct9 oc10 kV10 dc10 pm10 cd10 ct10 oc11 kV11 dc11 pm11 cd11 ct11 oc12 kV12 dc12 pm12 cd12 ct12 oc13 kV13 dc13 pm13 cd13 ct13 oc14 kV14 dc14 pm14 cd14 ct14 oc15 kV15 dc15 pm15 cd15 ct15 oc16 kV16 dc16 pm16 cd16 ct16 oc17 kV17 dc17 pm17 cd17 ct17 oc18 kV18 dc18 pm18 cd18 ct18 oc19 kV19 dc19 pm19 cd19 ct19 oc20 kV20 dc20 pm20 cd20 ct20 oc21 kV21 dc21 pm21 cd21 ct21 oc22 kV22 dc22 pm22 cd22 ct22 oc23 kV23 dc23 pm23 cd23 ct23 oc24 kV24 dc24 pm24 cd24 ct24 oc25 kV25 dc25 pm25 cd25 ct25 oc26 kV26 dc26 pm26 cd26 ct26 oc27 kV27 dc27 pm27 cd27 ct27 oc28 kV28 dc28 pm28 cd28 ct28 oc29 kV29 dc29 pm29 cd29 ct29 oc30 kV30 dc30 pm30 cd30 ct30 oc31 kV31 dc31 pm31 cd31 ct31 oc32 kV32 dc32 pm32 cd32 ct32 oc33 kV33 dc33 pm33 cd33 ct33 oc34 kV34 dc34 pm34 cd34 ct34 oc35 kV35 dc35 pm35 cd35 ct35 oc36 kV36 dc36 pm36 cd36 ct36 oc37 kV37 dc37 pm37 cd37 ct37 oc38 kV38 dc38 pm38 cd38 ct38 oc39 kV39 dc39 pm39 cd39 ct39 oc40 kV40 dc40 pm40 cd40 ct40 oc41 kV41 dc41 pm41 cd41 ct41 oc42 kV42 dc42 pm42 cd42 ct42 oc43 kV43 dc43 pm43 cd43 ct43 oc44 kV44 dc44 pm44 cd44 ct44 oc45 kV45 dc45 pm45 cd45 ct45 oc46 kV46 dc46 pm46 cd46 ct46 oc47 kV47 dc47 pm47 cd47 ct47 oc48 kV48 dc48 pm48 cd48 ct48 : Value}
    {nm_NoLine q_NoLine : Str} {N_NoLine : Addr} {bs_NoLine bm_NoLine : List Value} {sn_NoLine : List Str} {sub_NoLine : List Value} {ab_NoLine : Bool} {col_NoLine : Option Bool} {dd_NoLine : Option Addr} {m0_NoLine m1_NoLine m2_NoLine m3_NoLine m5_NoLine : Option Value}
    {nm_BadOrder q_BadOrder : Str} {N_BadOrder : Addr} {bs_BadOrder bm_BadOrder : List Value} {sn_BadOrder : List Str} {sub_BadOrder : List Value} {ab_BadOrder : Bool} {col_BadOrder : Option Bool} {dd_BadOrder : Option Addr} {m0_BadOrder m1_BadOrder m2_BadOrder m3_BadOrder m5_BadOrder : Option Value}
    {nm_BadLine q_BadLine : Str} {N_BadLine : Addr} {bs_BadLine bm_BadLine : List Value} {sn_BadLine : List Str} {sub_BadLine : List Value} {ab_BadLine : Bool} {col_BadLine : Option Bool} {dd_BadLine : Option Addr} {m0_BadLine m1_BadLine m2_BadLine m3_BadLine m5_BadLine : Option Value}
    {dt_WORDS : Option Addr} {nt_WORDS : Nat} {st_WORDS : Array (Option Value)} {tt_WORDS_0 tt_WORDS_1 tt_WORDS_2 tt_WORDS_3 tt_WORDS_4 tt_WORDS_5 tt_WORDS_6 tt_WORDS_7 : Tok}
    {t_SIGNS t_MARK_SIGNS t_MOST_LEVELS t_DIGITS t_MOST_LINES : Tok}
    {D6 : Addr} {oD6 : Value} {dD6 : Option Addr} {nD6 : Nat} {sD6 : Array (Option Value)} {td6_0 : Tok}
    {D2 : Addr} {oD2 : Value} {dD2 : Option Addr} {nD2 : Nat} {sD2 : Array (Option Value)} {td2_0 : Tok}
    (a1 : PySem.W.nsIn K mainGlobals "is_integer" = some (some (.ref f1)))
    (l1 : K.lookup f1 = some ⟨oc1, od1, .func (PySem.W.fnOf "is_integer" "is_integer" (defArgs s_is_integer) (defBody s_is_integer) (defScope s_is_integer) .none kV1 dc1 pm1 an1 cd1 ct1), sl1⟩)
    (c1 : PySem.W.codeIn K cd1 "is_integer" = true)
    (k1 : PySem.W.keepIn K (.ref f1) = true)
    (a2 : PySem.W.nsIn K mainGlobals "deep" = some (some (.ref f2)))
    (l2 : K.lookup f2 = some ⟨oc2, od2, .func (PySem.W.fnOf "deep" "deep" (defArgs s_deep) (defBody s_deep) (defScope s_deep) (.ref D2) kV2 dc2 pm2 an2 cd2 ct2), sl2⟩)
    (c2 : PySem.W.codeIn K cd2 "deep" = true)
    (k2 : PySem.W.keepIn K (.ref f2) = true)
    (e2 : K.lookup D2 = some ⟨oD2, dD2, .seq #[.int (0) td2_0] nD2, sD2⟩)
    (a3 : PySem.W.nsIn K mainGlobals "is_mark" = some (some (.ref f3)))
    (l3 : K.lookup f3 = some ⟨oc3, od3, .func (PySem.W.fnOf "is_mark" "is_mark" (defArgs s_is_mark) (defBody s_is_mark) (defScope s_is_mark) .none kV3 dc3 pm3 an3 cd3 ct3), sl3⟩)
    (c3 : PySem.W.codeIn K cd3 "is_mark" = true)
    (k3 : PySem.W.keepIn K (.ref f3) = true)
    (a4 : PySem.W.nsIn K mainGlobals "is_name" = some (some (.ref f4)))
    (l4 : K.lookup f4 = some ⟨oc4, od4, .func (PySem.W.fnOf "is_name" "is_name" (defArgs s_is_name) (defBody s_is_name) (defScope s_is_name) .none kV4 dc4 pm4 an4 cd4 ct4), sl4⟩)
    (c4 : PySem.W.codeIn K cd4 "is_name" = true)
    (k4 : PySem.W.keepIn K (.ref f4) = true)
    (a5 : PySem.W.nsIn K mainGlobals "is_number" = some (some (.ref f5)))
    (l5 : K.lookup f5 = some ⟨oc5, od5, .func (PySem.W.fnOf "is_number" "is_number" (defArgs s_is_number) (defBody s_is_number) (defScope s_is_number) .none kV5 dc5 pm5 an5 cd5 ct5), sl5⟩)
    (c5 : PySem.W.codeIn K cd5 "is_number" = true)
    (k5 : PySem.W.keepIn K (.ref f5) = true)
    (a6 : PySem.W.findIn K (.ref C_Lines) "__init__" = some (some (.ref f6)))
    (i6 : PySem.W.isFn K (.ref f6) = true)
    (l6 : K.lookup f6 = some ⟨oc6, od6, .func (PySem.W.fnOf "__init__" "Lines.__init__" (defArgs s_Lines___init__) (defBody s_Lines___init__) (defScope s_Lines___init__) (.ref D6) kV6 dc6 pm6 an6 cd6 ct6), sl6⟩)
    (c6 : PySem.W.codeIn K cd6 "Lines.__init__" = true)
    (k6 : PySem.W.keepIn K (.ref f6) = true)
    (e6 : K.lookup D6 = some ⟨oD6, dD6, .seq #[.int (0) td6_0] nD6, sD6⟩)
    (a7 : PySem.W.findIn K (.ref C_Lines) "is_over" = some (some (.ref f7)))
    (i7 : PySem.W.isFn K (.ref f7) = true)
    (l7 : K.lookup f7 = some ⟨oc7, od7, .func (PySem.W.fnOf "is_over" "Lines.is_over" (defArgs s_Lines_is_over) (defBody s_Lines_is_over) (defScope s_Lines_is_over) .none kV7 dc7 pm7 an7 cd7 ct7), sl7⟩)
    (c7 : PySem.W.codeIn K cd7 "Lines.is_over" = true)
    (k7 : PySem.W.keepIn K (.ref f7) = true)
    (a8 : PySem.W.findIn K (.ref C_Lines) "words" = some (some (.ref f8)))
    (i8 : PySem.W.isFn K (.ref f8) = true)
    (l8 : K.lookup f8 = some ⟨oc8, od8, .func (PySem.W.fnOf "words" "Lines.words" (defArgs s_Lines_words) (defBody s_Lines_words) (defScope s_Lines_words) .none kV8 dc8 pm8 an8 cd8 ct8), sl8⟩)
    (c8 : PySem.W.codeIn K cd8 "Lines.words" = true)
    (k8 : PySem.W.keepIn K (.ref f8) = true)
    (a9 : PySem.W.findIn K (.ref C_Lines) "first_word" = some (some (.ref f9)))
    (i9 : PySem.W.isFn K (.ref f9) = true)
    (l9 : K.lookup f9 = some ⟨oc9, od9, .func (PySem.W.fnOf "first_word" "Lines.first_word" (defArgs s_Lines_first_word) (defBody s_Lines_first_word) (defScope s_Lines_first_word) .none kV9 dc9 pm9 an9 cd9 ct9), sl9⟩)
    (c9 : PySem.W.codeIn K cd9 "Lines.first_word" = true)
    (k9 : PySem.W.keepIn K (.ref f9) = true)
    (a10 : PySem.W.findIn K (.ref C_Lines) "fail_at" = some (some (.ref f10)))
    (i10 : PySem.W.isFn K (.ref f10) = true)
    (l10 : K.lookup f10 = some ⟨oc10, od10, .func (PySem.W.fnOf "fail_at" "Lines.fail_at" (defArgs s_Lines_fail_at) (defBody s_Lines_fail_at) (defScope s_Lines_fail_at) .none kV10 dc10 pm10 an10 cd10 ct10), sl10⟩)
    (c10 : PySem.W.codeIn K cd10 "Lines.fail_at" = true)
    (k10 : PySem.W.keepIn K (.ref f10) = true)
    (a11 : PySem.W.findIn K (.ref C_Lines) "word_at" = some (some (.ref f11)))
    (i11 : PySem.W.isFn K (.ref f11) = true)
    (l11 : K.lookup f11 = some ⟨oc11, od11, .func (PySem.W.fnOf "word_at" "Lines.word_at" (defArgs s_Lines_word_at) (defBody s_Lines_word_at) (defScope s_Lines_word_at) .none kV11 dc11 pm11 an11 cd11 ct11), sl11⟩)
    (c11 : PySem.W.codeIn K cd11 "Lines.word_at" = true)
    (k11 : PySem.W.keepIn K (.ref f11) = true)
    (a12 : PySem.W.findIn K (.ref C_Lines) "number_at" = some (some (.ref f12)))
    (i12 : PySem.W.isFn K (.ref f12) = true)
    (l12 : K.lookup f12 = some ⟨oc12, od12, .func (PySem.W.fnOf "number_at" "Lines.number_at" (defArgs s_Lines_number_at) (defBody s_Lines_number_at) (defScope s_Lines_number_at) .none kV12 dc12 pm12 an12 cd12 ct12), sl12⟩)
    (c12 : PySem.W.codeIn K cd12 "Lines.number_at" = true)
    (k12 : PySem.W.keepIn K (.ref f12) = true)
    (a13 : PySem.W.findIn K (.ref C_Lines) "name_at" = some (some (.ref f13)))
    (i13 : PySem.W.isFn K (.ref f13) = true)
    (l13 : K.lookup f13 = some ⟨oc13, od13, .func (PySem.W.fnOf "name_at" "Lines.name_at" (defArgs s_Lines_name_at) (defBody s_Lines_name_at) (defScope s_Lines_name_at) .none kV13 dc13 pm13 an13 cd13 ct13), sl13⟩)
    (c13 : PySem.W.codeIn K cd13 "Lines.name_at" = true)
    (k13 : PySem.W.keepIn K (.ref f13) = true)
    (a14 : PySem.W.findIn K (.ref C_Lines) "close_at" = some (some (.ref f14)))
    (i14 : PySem.W.isFn K (.ref f14) = true)
    (l14 : K.lookup f14 = some ⟨oc14, od14, .func (PySem.W.fnOf "close_at" "Lines.close_at" (defArgs s_Lines_close_at) (defBody s_Lines_close_at) (defScope s_Lines_close_at) .none kV14 dc14 pm14 an14 cd14 ct14), sl14⟩)
    (c14 : PySem.W.codeIn K cd14 "Lines.close_at" = true)
    (k14 : PySem.W.keepIn K (.ref f14) = true)
    (a15 : PySem.W.nsIn K mainGlobals "is_signs" = some (some (.ref f15)))
    (l15 : K.lookup f15 = some ⟨oc15, od15, .func (PySem.W.fnOf "is_signs" "is_signs" (defArgs s_is_signs) (defBody s_is_signs) (defScope s_is_signs) .none kV15 dc15 pm15 an15 cd15 ct15), sl15⟩)
    (c15 : PySem.W.codeIn K cd15 "is_signs" = true)
    (k15 : PySem.W.keepIn K (.ref f15) = true)
    (a16 : PySem.W.nsIn K mainGlobals "is_order" = some (some (.ref f16)))
    (l16 : K.lookup f16 = some ⟨oc16, od16, .func (PySem.W.fnOf "is_order" "is_order" (defArgs s_is_order) (defBody s_is_order) (defScope s_is_order) .none kV16 dc16 pm16 an16 cd16 ct16), sl16⟩)
    (c16 : PySem.W.codeIn K cd16 "is_order" = true)
    (k16 : PySem.W.keepIn K (.ref f16) = true)
    (a17 : PySem.W.findIn K (.ref C_Orders) "__init__" = some (some (.ref f17)))
    (i17 : PySem.W.isFn K (.ref f17) = true)
    (l17 : K.lookup f17 = some ⟨oc17, od17, .func (PySem.W.fnOf "__init__" "Orders.__init__" (defArgs s_Orders___init__) (defBody s_Orders___init__) (defScope s_Orders___init__) .none kV17 dc17 pm17 an17 cd17 ct17), sl17⟩)
    (c17 : PySem.W.codeIn K cd17 "Orders.__init__" = true)
    (k17 : PySem.W.keepIn K (.ref f17) = true)
    (a18 : PySem.W.findIn K (.ref C_Orders) "__len__" = some (some (.ref f18)))
    (i18 : PySem.W.isFn K (.ref f18) = true)
    (l18 : K.lookup f18 = some ⟨oc18, od18, .func (PySem.W.fnOf "__len__" "Orders.__len__" (defArgs s_Orders___len__) (defBody s_Orders___len__) (defScope s_Orders___len__) .none kV18 dc18 pm18 an18 cd18 ct18), sl18⟩)
    (c18 : PySem.W.codeIn K cd18 "Orders.__len__" = true)
    (k18 : PySem.W.keepIn K (.ref f18) = true)
    (a19 : PySem.W.findIn K (.ref C_Orders) "__iter__" = some (some (.ref f19)))
    (i19 : PySem.W.isFn K (.ref f19) = true)
    (l19 : K.lookup f19 = some ⟨oc19, od19, .func (PySem.W.fnOf "__iter__" "Orders.__iter__" (defArgs s_Orders___iter__) (defBody s_Orders___iter__) (defScope s_Orders___iter__) .none kV19 dc19 pm19 an19 cd19 ct19), sl19⟩)
    (c19 : PySem.W.codeIn K cd19 "Orders.__iter__" = true)
    (k19 : PySem.W.keepIn K (.ref f19) = true)
    (a20 : PySem.W.findIn K (.ref C_Orders) "__getitem__" = some (some (.ref f20)))
    (i20 : PySem.W.isFn K (.ref f20) = true)
    (l20 : K.lookup f20 = some ⟨oc20, od20, .func (PySem.W.fnOf "__getitem__" "Orders.__getitem__" (defArgs s_Orders___getitem__) (defBody s_Orders___getitem__) (defScope s_Orders___getitem__) .none kV20 dc20 pm20 an20 cd20 ct20), sl20⟩)
    (c20 : PySem.W.codeIn K cd20 "Orders.__getitem__" = true)
    (k20 : PySem.W.keepIn K (.ref f20) = true)
    (a21 : PySem.W.findIn K (.ref C_Orders) "__eq__" = some (some (.ref f21)))
    (i21 : PySem.W.isFn K (.ref f21) = true)
    (l21 : K.lookup f21 = some ⟨oc21, od21, .func (PySem.W.fnOf "__eq__" "Orders.__eq__" (defArgs s_Orders___eq__) (defBody s_Orders___eq__) (defScope s_Orders___eq__) .none kV21 dc21 pm21 an21 cd21 ct21), sl21⟩)
    (c21 : PySem.W.codeIn K cd21 "Orders.__eq__" = true)
    (k21 : PySem.W.keepIn K (.ref f21) = true)
    (a22 : PySem.W.nsIn K mainGlobals "signs_at" = some (some (.ref f22)))
    (l22 : K.lookup f22 = some ⟨oc22, od22, .func (PySem.W.fnOf "signs_at" "signs_at" (defArgs s_signs_at) (defBody s_signs_at) (defScope s_signs_at) .none kV22 dc22 pm22 an22 cd22 ct22), sl22⟩)
    (c22 : PySem.W.codeIn K cd22 "signs_at" = true)
    (k22 : PySem.W.keepIn K (.ref f22) = true)
    (a23 : PySem.W.nsIn K mainGlobals "order_at" = some (some (.ref f23)))
    (l23 : K.lookup f23 = some ⟨oc23, od23, .func (PySem.W.fnOf "order_at" "order_at" (defArgs s_order_at) (defBody s_order_at) (defScope s_order_at) .none kV23 dc23 pm23 an23 cd23 ct23), sl23⟩)
    (c23 : PySem.W.codeIn K cd23 "order_at" = true)
    (k23 : PySem.W.keepIn K (.ref f23) = true)
    (a24 : PySem.W.nsIn K mainGlobals "order_line" = some (some (.ref f24)))
    (l24 : K.lookup f24 = some ⟨oc24, od24, .func (PySem.W.fnOf "order_line" "order_line" (defArgs s_order_line) (defBody s_order_line) (defScope s_order_line) .none kV24 dc24 pm24 an24 cd24 ct24), sl24⟩)
    (c24 : PySem.W.codeIn K cd24 "order_line" = true)
    (k24 : PySem.W.keepIn K (.ref f24) = true)
    (a25 : PySem.W.nsIn K mainGlobals "write_orders" = some (some (.ref f25)))
    (l25 : K.lookup f25 = some ⟨oc25, od25, .func (PySem.W.fnOf "write_orders" "write_orders" (defArgs s_write_orders) (defBody s_write_orders) (defScope s_write_orders) .none kV25 dc25 pm25 an25 cd25 ct25), sl25⟩)
    (c25 : PySem.W.codeIn K cd25 "write_orders" = true)
    (k25 : PySem.W.keepIn K (.ref f25) = true)
    (a26 : PySem.W.nsIn K mainGlobals "read_orders" = some (some (.ref f26)))
    (l26 : K.lookup f26 = some ⟨oc26, od26, .func (PySem.W.fnOf "read_orders" "read_orders" (defArgs s_read_orders) (defBody s_read_orders) (defScope s_read_orders) .none kV26 dc26 pm26 an26 cd26 ct26), sl26⟩)
    (c26 : PySem.W.codeIn K cd26 "read_orders" = true)
    (k26 : PySem.W.keepIn K (.ref f26) = true)
    (a27 : PySem.W.nsIn K mainGlobals "_law_draw" = some (some (.ref f27)))
    (l27 : K.lookup f27 = some ⟨oc27, od27, .func (PySem.W.fnOf "_law_draw" "_law_draw" (defArgs s_L_draw) (defBody s_L_draw) (defScope s_L_draw) .none kV27 dc27 pm27 an27 cd27 ct27), sl27⟩)
    (c27 : PySem.W.codeIn K cd27 "_law_draw" = true)
    (k27 : PySem.W.keepIn K (.ref f27) = true)
    (a28 : PySem.W.nsIn K mainGlobals "_law_mix" = some (some (.ref f28)))
    (l28 : K.lookup f28 = some ⟨oc28, od28, .func (PySem.W.fnOf "_law_mix" "_law_mix" (defArgs s_L_mix) (defBody s_L_mix) (defScope s_L_mix) .none kV28 dc28 pm28 an28 cd28 ct28), sl28⟩)
    (c28 : PySem.W.codeIn K cd28 "_law_mix" = true)
    (k28 : PySem.W.keepIn K (.ref f28) = true)
    (a29 : PySem.W.nsIn K mainGlobals "_law_pick" = some (some (.ref f29)))
    (l29 : K.lookup f29 = some ⟨oc29, od29, .func (PySem.W.fnOf "_law_pick" "_law_pick" (defArgs s_L_pick) (defBody s_L_pick) (defScope s_L_pick) .none kV29 dc29 pm29 an29 cd29 ct29), sl29⟩)
    (c29 : PySem.W.codeIn K cd29 "_law_pick" = true)
    (k29 : PySem.W.keepIn K (.ref f29) = true)
    (a30 : PySem.W.nsIn K mainGlobals "_law_name" = some (some (.ref f30)))
    (l30 : K.lookup f30 = some ⟨oc30, od30, .func (PySem.W.fnOf "_law_name" "_law_name" (defArgs s_L_name) (defBody s_L_name) (defScope s_L_name) .none kV30 dc30 pm30 an30 cd30 ct30), sl30⟩)
    (c30 : PySem.W.codeIn K cd30 "_law_name" = true)
    (k30 : PySem.W.keepIn K (.ref f30) = true)
    (a31 : PySem.W.nsIn K mainGlobals "_law_names" = some (some (.ref f31)))
    (l31 : K.lookup f31 = some ⟨oc31, od31, .func (PySem.W.fnOf "_law_names" "_law_names" (defArgs s_L_names) (defBody s_L_names) (defScope s_L_names) .none kV31 dc31 pm31 an31 cd31 ct31), sl31⟩)
    (c31 : PySem.W.codeIn K cd31 "_law_names" = true)
    (k31 : PySem.W.keepIn K (.ref f31) = true)
    (a32 : PySem.W.nsIn K mainGlobals "_law_signs" = some (some (.ref f32)))
    (l32 : K.lookup f32 = some ⟨oc32, od32, .func (PySem.W.fnOf "_law_signs" "_law_signs" (defArgs s_L_signs) (defBody s_L_signs) (defScope s_L_signs) .none kV32 dc32 pm32 an32 cd32 ct32), sl32⟩)
    (c32 : PySem.W.codeIn K cd32 "_law_signs" = true)
    (k32 : PySem.W.keepIn K (.ref f32) = true)
    (a33 : PySem.W.nsIn K mainGlobals "_law_order" = some (some (.ref f33)))
    (l33 : K.lookup f33 = some ⟨oc33, od33, .func (PySem.W.fnOf "_law_order" "_law_order" (defArgs s_L_order) (defBody s_L_order) (defScope s_L_order) .none kV33 dc33 pm33 an33 cd33 ct33), sl33⟩)
    (c33 : PySem.W.codeIn K cd33 "_law_order" = true)
    (k33 : PySem.W.keepIn K (.ref f33) = true)
    (a34 : PySem.W.nsIn K mainGlobals "_law_form" = some (some (.ref f34)))
    (l34 : K.lookup f34 = some ⟨oc34, od34, .func (PySem.W.fnOf "_law_form" "_law_form" (defArgs s_L_form) (defBody s_L_form) (defScope s_L_form) .none kV34 dc34 pm34 an34 cd34 ct34), sl34⟩)
    (c34 : PySem.W.codeIn K cd34 "_law_form" = true)
    (k34 : PySem.W.keepIn K (.ref f34) = true)
    (a35 : PySem.W.nsIn K mainGlobals "_law_is_name" = some (some (.ref f35)))
    (l35 : K.lookup f35 = some ⟨oc35, od35, .func (PySem.W.fnOf "_law_is_name" "_law_is_name" (defArgs s_L_is_name) (defBody s_L_is_name) (defScope s_L_is_name) .none kV35 dc35 pm35 an35 cd35 ct35), sl35⟩)
    (c35 : PySem.W.codeIn K cd35 "_law_is_name" = true)
    (k35 : PySem.W.keepIn K (.ref f35) = true)
    (a36 : PySem.W.nsIn K mainGlobals "_law_is_signs" = some (some (.ref f36)))
    (l36 : K.lookup f36 = some ⟨oc36, od36, .func (PySem.W.fnOf "_law_is_signs" "_law_is_signs" (defArgs s_L_is_signs) (defBody s_L_is_signs) (defScope s_L_is_signs) .none kV36 dc36 pm36 an36 cd36 ct36), sl36⟩)
    (c36 : PySem.W.codeIn K cd36 "_law_is_signs" = true)
    (k36 : PySem.W.keepIn K (.ref f36) = true)
    (a37 : PySem.W.nsIn K mainGlobals "_law_number" = some (some (.ref f37)))
    (l37 : K.lookup f37 = some ⟨oc37, od37, .func (PySem.W.fnOf "_law_number" "_law_number" (defArgs s_L_number) (defBody s_L_number) (defScope s_L_number) .none kV37 dc37 pm37 an37 cd37 ct37), sl37⟩)
    (c37 : PySem.W.codeIn K cd37 "_law_number" = true)
    (k37 : PySem.W.keepIn K (.ref f37) = true)
    (a38 : PySem.W.nsIn K mainGlobals "_law_is_word" = some (some (.ref f38)))
    (l38 : K.lookup f38 = some ⟨oc38, od38, .func (PySem.W.fnOf "_law_is_word" "_law_is_word" (defArgs s_L_is_word) (defBody s_L_is_word) (defScope s_L_is_word) .none kV38 dc38 pm38 an38 cd38 ct38), sl38⟩)
    (c38 : PySem.W.codeIn K cd38 "_law_is_word" = true)
    (k38 : PySem.W.keepIn K (.ref f38) = true)
    (a39 : PySem.W.nsIn K mainGlobals "_law_bad_word" = some (some (.ref f39)))
    (l39 : K.lookup f39 = some ⟨oc39, od39, .func (PySem.W.fnOf "_law_bad_word" "_law_bad_word" (defArgs s_L_bad_word) (defBody s_L_bad_word) (defScope s_L_bad_word) .none kV39 dc39 pm39 an39 cd39 ct39), sl39⟩)
    (c39 : PySem.W.codeIn K cd39 "_law_bad_word" = true)
    (k39 : PySem.W.keepIn K (.ref f39) = true)
    (a40 : PySem.W.nsIn K mainGlobals "_law_line" = some (some (.ref f40)))
    (l40 : K.lookup f40 = some ⟨oc40, od40, .func (PySem.W.fnOf "_law_line" "_law_line" (defArgs s_L_line) (defBody s_L_line) (defScope s_L_line) .none kV40 dc40 pm40 an40 cd40 ct40), sl40⟩)
    (c40 : PySem.W.codeIn K cd40 "_law_line" = true)
    (k40 : PySem.W.keepIn K (.ref f40) = true)
    (a41 : PySem.W.nsIn K mainGlobals "_law_read" = some (some (.ref f41)))
    (l41 : K.lookup f41 = some ⟨oc41, od41, .func (PySem.W.fnOf "_law_read" "_law_read" (defArgs s_L_read) (defBody s_L_read) (defScope s_L_read) .none kV41 dc41 pm41 an41 cd41 ct41), sl41⟩)
    (c41 : PySem.W.codeIn K cd41 "_law_read" = true)
    (k41 : PySem.W.keepIn K (.ref f41) = true)
    (a42 : PySem.W.nsIn K mainGlobals "_law_told" = some (some (.ref f42)))
    (l42 : K.lookup f42 = some ⟨oc42, od42, .func (PySem.W.fnOf "_law_told" "_law_told" (defArgs s_L_told) (defBody s_L_told) (defScope s_L_told) .none kV42 dc42 pm42 an42 cd42 ct42), sl42⟩)
    (c42 : PySem.W.codeIn K cd42 "_law_told" = true)
    (k42 : PySem.W.keepIn K (.ref f42) = true)
    (a43 : PySem.W.nsIn K mainGlobals "_law_spoilt_text" = some (some (.ref f43)))
    (l43 : K.lookup f43 = some ⟨oc43, od43, .func (PySem.W.fnOf "_law_spoilt_text" "_law_spoilt_text" (defArgs s_L_spoilt_text) (defBody s_L_spoilt_text) (defScope s_L_spoilt_text) .none kV43 dc43 pm43 an43 cd43 ct43), sl43⟩)
    (c43 : PySem.W.codeIn K cd43 "_law_spoilt_text" = true)
    (k43 : PySem.W.keepIn K (.ref f43) = true)
    (a44 : PySem.W.nsIn K mainGlobals "_law_spoilt" = some (some (.ref f44)))
    (l44 : K.lookup f44 = some ⟨oc44, od44, .func (PySem.W.fnOf "_law_spoilt" "_law_spoilt" (defArgs s_L_spoilt) (defBody s_L_spoilt) (defScope s_L_spoilt) .none kV44 dc44 pm44 an44 cd44 ct44), sl44⟩)
    (c44 : PySem.W.codeIn K cd44 "_law_spoilt" = true)
    (k44 : PySem.W.keepIn K (.ref f44) = true)
    (a45 : PySem.W.nsIn K mainGlobals "law" = some (some (.ref f45)))
    (l45 : K.lookup f45 = some ⟨oc45, od45, .func (PySem.W.fnOf "law" "law" (defArgs s_law) (defBody s_law) (defScope s_law) .none kV45 dc45 pm45 an45 cd45 ct45), sl45⟩)
    (c45 : PySem.W.codeIn K cd45 "law" = true)
    (k45 : PySem.W.keepIn K (.ref f45) = true)
    (wpg_Lines : PySem.W.plainGet K C_Lines Str.empty = true)
    (whd_Lines : PySem.W.hasDictIn K C_Lines = true)
    (wpo_Lines : PySem.W.plainOver K C_Lines = true)
    (wsa_Lines : PySem.W.findIn K (.ref C_Lines) "__setattr__" = some (some (.builtin "object.__setattr__")))
    (wmk_Lines : PySem.W.makesIn K C_Lines = true)
    (wkc_Lines : PySem.W.keepIn K (.ref C_Lines) = true)
    (wca_Lines : PySem.W.findIn K (.ref C_Lines) "__class__" = some (some (.builtin "object.__class__")))
    (wmo_Lines : PySem.W.mroIn K C_Lines (.type "object") = some true)
    (wnt_Lines : PySem.W.notFirst K C_Lines (.type "tuple") = true)
    (wst_Lines : PySem.W.subIn K (.ref C_Lines) (.type "tuple") = some false)
    (wna_Lines_texts : PySem.W.findIn K (.ref C_Lines) "texts" = some none)
    (wna_Lines_now : PySem.W.findIn K (.ref C_Lines) "now" = some none)
    (wpg_Orders : PySem.W.plainGet K C_Orders Str.empty = true)
    (whd_Orders : PySem.W.hasDictIn K C_Orders = true)
    (wpo_Orders : PySem.W.plainOver K C_Orders = true)
    (wsa_Orders : PySem.W.findIn K (.ref C_Orders) "__setattr__" = some (some (.builtin "object.__setattr__")))
    (wmk_Orders : PySem.W.makesIn K C_Orders = true)
    (wkc_Orders : PySem.W.keepIn K (.ref C_Orders) = true)
    (wca_Orders : PySem.W.findIn K (.ref C_Orders) "__class__" = some (some (.builtin "object.__class__")))
    (wmo_Orders : PySem.W.mroIn K C_Orders (.type "object") = some true)
    (wnt_Orders : PySem.W.notFirst K C_Orders (.type "tuple") = true)
    (wst_Orders : PySem.W.subIn K (.ref C_Orders) (.type "tuple") = some false)
    (wna_Orders_lines : PySem.W.findIn K (.ref C_Orders) "lines" = some none)
    (z_abs : PySem.W.nsIn K mainGlobals "abs" = some none)
    (z_bool : PySem.W.nsIn K mainGlobals "bool" = some none)
    (z_enumerate : PySem.W.nsIn K mainGlobals "enumerate" = some none)
    (z_int : PySem.W.nsIn K mainGlobals "int" = some none)
    (z_isinstance : PySem.W.nsIn K mainGlobals "isinstance" = some none)
    (z_iter : PySem.W.nsIn K mainGlobals "iter" = some none)
    (z_len : PySem.W.nsIn K mainGlobals "len" = some none)
    (z_list : PySem.W.nsIn K mainGlobals "list" = some none)
    (z_range : PySem.W.nsIn K mainGlobals "range" = some none)
    (z_repr : PySem.W.nsIn K mainGlobals "repr" = some none)
    (z_str : PySem.W.nsIn K mainGlobals "str" = some none)
    (z_sum : PySem.W.nsIn K mainGlobals "sum" = some none)
    (z_tuple : PySem.W.nsIn K mainGlobals "tuple" = some none)
    (v_SIGNS : PySem.W.nsIn K mainGlobals "SIGNS" = some (some (.str ".grw" t_SIGNS)))
    (v_MARK_SIGNS : PySem.W.nsIn K mainGlobals "MARK_SIGNS" = some (some (.str "abcdefghijklmnopqrstuvwxyz0123456789" t_MARK_SIGNS)))
    (v_MOST_LEVELS : PySem.W.nsIn K mainGlobals "MOST_LEVELS" = some (some (.int (70) t_MOST_LEVELS)))
    (v_DIGITS : PySem.W.nsIn K mainGlobals "DIGITS" = some (some (.str "0123456789" t_DIGITS)))
    (v_MOST_LINES : PySem.W.nsIn K mainGlobals "MOST_LINES" = some (some (.int (20) t_MOST_LINES)))
    (g_GlimError : PySem.W.nsIn K mainGlobals "GlimError" = some (some (.ref C_GlimError)))
    (g_BadLine : PySem.W.nsIn K mainGlobals "BadLine" = some (some (.ref C_BadLine)))
    (g_BadOrder : PySem.W.nsIn K mainGlobals "BadOrder" = some (some (.ref C_BadOrder)))
    (g_NoLine : PySem.W.nsIn K mainGlobals "NoLine" = some (some (.ref C_NoLine)))
    (g_Lines : PySem.W.nsIn K mainGlobals "Lines" = some (some (.ref C_Lines)))
    (g_Orders : PySem.W.nsIn K mainGlobals "Orders" = some (some (.ref C_Orders)))
    (g_WORDS : PySem.W.nsIn K mainGlobals "WORDS" = some (some (.ref C_WORDS)))
    (l_WORDS : K.lookup C_WORDS = some ⟨.type "tuple", dt_WORDS, .seq #[.str "wait" tt_WORDS_0, .str "count" tt_WORDS_1, .str "pass" tt_WORDS_2, .str "more" tt_WORDS_3, .str "last" tt_WORDS_4, .str "go" tt_WORDS_5, .str "name" tt_WORDS_6, .str "skip" tt_WORDS_7] nt_WORDS, st_WORDS⟩)
    (xl_BadLine : K.lookup C_BadLine = some (excClassObj nm_BadLine q_BadLine C_BadLine N_BadLine bs_BadLine bm_BadLine true sn_BadLine sub_BadLine ab_BadLine col_BadLine dd_BadLine m0_BadLine m1_BadLine m2_BadLine m3_BadLine m5_BadLine "ValueError.__new__"))
    (xr_BadLine : PySem.HandSPX.refsVE bm_BadLine = true)
    (xsa_BadLine : PySem.W.findIn K (.ref C_BadLine) "__setattr__" = some (some (.builtin "object.__setattr__")))
    (xga_BadLine : PySem.W.findIn K (.ref C_BadLine) "__getattribute__" = some (some (.builtin "BaseException.__getattribute__")))
    (xgg_BadLine : PySem.W.findIn K (.ref C_BadLine) "__getattr__" = some none)
    (xnf_BadLine_line : PySem.W.findIn K (.ref C_BadLine) "line" = some none)
    (xnf_BadLine_word : PySem.W.findIn K (.ref C_BadLine) "word" = some none)
    (xi_BadLine : PySem.W.findIn K (.ref C_BadLine) "__init__" = some (some (.ref f46)))
    (xt_BadLine : PySem.W.typeIn K (.ref f46) = some (.type "function"))
    (xf_BadLine : K.lookup f46 = some ⟨oc46, od46, .func (PySem.W.fnOf "__init__" "BadLine.__init__" (defArgs s_BadLine) (defBody s_BadLine) (defScope s_BadLine) .none kV46 dc46 pm46 an46 cd46 ct46), sl46⟩)
    (xc_BadLine : PySem.W.codeIn K cd46 "BadLine.__init__" = true)
    (xkf_BadLine : PySem.W.keepIn K (.ref f46) = true)
    (xk_BadLine : PySem.W.keepIn K (.ref C_BadLine) = true)
    (xe_BadLine : PySem.W.subIn K (.ref C_BadLine) (.type "BaseException") = some true)
    (xty_BadLine : PySem.W.typeIn K (.ref C_BadLine) = some (.type "type"))
    (xhd_BadLine : PySem.W.hasDictIn K C_BadLine = true)
    (xis_BadLine : PySem.W.isClsIn K C_BadLine = true)
    (xca_BadLine : PySem.W.findIn K (.ref C_BadLine) "__class__" = some (some (.builtin "object.__class__")))
    (xm_BadLine : PySem.W.mroIn K C_BadLine (.type "object") = some true)
    (xl_BadOrder : K.lookup C_BadOrder = some (excClassObj nm_BadOrder q_BadOrder C_BadOrder N_BadOrder bs_BadOrder bm_BadOrder true sn_BadOrder sub_BadOrder ab_BadOrder col_BadOrder dd_BadOrder m0_BadOrder m1_BadOrder m2_BadOrder m3_BadOrder m5_BadOrder "ValueError.__new__"))
    (xr_BadOrder : PySem.HandSPX.refsVE bm_BadOrder = true)
    (xsa_BadOrder : PySem.W.findIn K (.ref C_BadOrder) "__setattr__" = some (some (.builtin "object.__setattr__")))
    (xga_BadOrder : PySem.W.findIn K (.ref C_BadOrder) "__getattribute__" = some (some (.builtin "BaseException.__getattribute__")))
    (xgg_BadOrder : PySem.W.findIn K (.ref C_BadOrder) "__getattr__" = some none)
    (xnf_BadOrder_number : PySem.W.findIn K (.ref C_BadOrder) "number" = some none)
    (xi_BadOrder : PySem.W.findIn K (.ref C_BadOrder) "__init__" = some (some (.ref f47)))
    (xt_BadOrder : PySem.W.typeIn K (.ref f47) = some (.type "function"))
    (xf_BadOrder : K.lookup f47 = some ⟨oc47, od47, .func (PySem.W.fnOf "__init__" "BadOrder.__init__" (defArgs s_BadOrder) (defBody s_BadOrder) (defScope s_BadOrder) .none kV47 dc47 pm47 an47 cd47 ct47), sl47⟩)
    (xc_BadOrder : PySem.W.codeIn K cd47 "BadOrder.__init__" = true)
    (xkf_BadOrder : PySem.W.keepIn K (.ref f47) = true)
    (xk_BadOrder : PySem.W.keepIn K (.ref C_BadOrder) = true)
    (xe_BadOrder : PySem.W.subIn K (.ref C_BadOrder) (.type "BaseException") = some true)
    (xty_BadOrder : PySem.W.typeIn K (.ref C_BadOrder) = some (.type "type"))
    (xhd_BadOrder : PySem.W.hasDictIn K C_BadOrder = true)
    (xis_BadOrder : PySem.W.isClsIn K C_BadOrder = true)
    (xca_BadOrder : PySem.W.findIn K (.ref C_BadOrder) "__class__" = some (some (.builtin "object.__class__")))
    (xm_BadOrder : PySem.W.mroIn K C_BadOrder (.type "object") = some true)
    (xl_NoLine : K.lookup C_NoLine = some (excClassObj nm_NoLine q_NoLine C_NoLine N_NoLine bs_NoLine bm_NoLine true sn_NoLine sub_NoLine ab_NoLine col_NoLine dd_NoLine m0_NoLine m1_NoLine m2_NoLine m3_NoLine m5_NoLine "ValueError.__new__"))
    (xr_NoLine : PySem.HandSPX.refsVE bm_NoLine = true)
    (xsa_NoLine : PySem.W.findIn K (.ref C_NoLine) "__setattr__" = some (some (.builtin "object.__setattr__")))
    (xga_NoLine : PySem.W.findIn K (.ref C_NoLine) "__getattribute__" = some (some (.builtin "BaseException.__getattribute__")))
    (xgg_NoLine : PySem.W.findIn K (.ref C_NoLine) "__getattr__" = some none)
    (xnf_NoLine_number : PySem.W.findIn K (.ref C_NoLine) "number" = some none)
    (xi_NoLine : PySem.W.findIn K (.ref C_NoLine) "__init__" = some (some (.ref f48)))
    (xt_NoLine : PySem.W.typeIn K (.ref f48) = some (.type "function"))
    (xf_NoLine : K.lookup f48 = some ⟨oc48, od48, .func (PySem.W.fnOf "__init__" "NoLine.__init__" (defArgs s_NoLine) (defBody s_NoLine) (defScope s_NoLine) .none kV48 dc48 pm48 an48 cd48 ct48), sl48⟩)
    (xc_NoLine : PySem.W.codeIn K cd48 "NoLine.__init__" = true)
    (xkf_NoLine : PySem.W.keepIn K (.ref f48) = true)
    (xk_NoLine : PySem.W.keepIn K (.ref C_NoLine) = true)
    (xe_NoLine : PySem.W.subIn K (.ref C_NoLine) (.type "BaseException") = some true)
    (xty_NoLine : PySem.W.typeIn K (.ref C_NoLine) = some (.type "type"))
    (xhd_NoLine : PySem.W.hasDictIn K C_NoLine = true)
    (xis_NoLine : PySem.W.isClsIn K C_NoLine = true)
    (xca_NoLine : PySem.W.findIn K (.ref C_NoLine) "__class__" = some (some (.builtin "object.__class__")))
    (xm_NoLine : PySem.W.mroIn K C_NoLine (.type "object") = some true)
    (xsp : PySem.W.specialIn K (.builtin "object.__class__") "__get__" = some (some (.builtin "getset_descriptor.__get__")))
    (xtk : PySem.W.takesIn K (.builtin "object.__class__") = some true)
    (qi_BadLine : PySem.W.isClsIn K C_BadLine = true)
    (qt_BadLine : PySem.W.typeIn K (.ref C_BadLine) = some (.type "type"))
    (qs_BadLine : PySem.W.subIn K (.ref C_BadLine) (.ref C_BadLine) = some true)
    (qb_BadLine : PySem.W.subIn K (.ref C_BadLine) (.type "BaseException") = some true)
    (qi_BadOrder : PySem.W.isClsIn K C_BadOrder = true)
    (qt_BadOrder : PySem.W.typeIn K (.ref C_BadOrder) = some (.type "type"))
    (qs_BadOrder : PySem.W.subIn K (.ref C_BadOrder) (.ref C_BadOrder) = some true)
    (qb_BadOrder : PySem.W.subIn K (.ref C_BadOrder) (.type "BaseException") = some true)
    (qi_GlimError : PySem.W.isClsIn K C_GlimError = true)
    (qt_GlimError : PySem.W.typeIn K (.ref C_GlimError) = some (.type "type"))
    (qs_GlimError : PySem.W.subIn K (.ref C_GlimError) (.ref C_GlimError) = some true)
    (qb_GlimError : PySem.W.subIn K (.ref C_GlimError) (.type "BaseException") = some true)
    (qi_Orders : PySem.W.isClsIn K C_Orders = true)
    (qt_Orders : PySem.W.typeIn K (.ref C_Orders) = some (.type "type"))
    (qs_Orders : PySem.W.subIn K (.ref C_Orders) (.ref C_Orders) = some true)
    (y_BadLine_BadLine : PySem.W.subIn K (.ref C_BadLine) (.ref C_BadLine) = some true)
    (y_BadLine_BadOrder : PySem.W.subIn K (.ref C_BadLine) (.ref C_BadOrder) = some false)
    (y_BadOrder_BadLine : PySem.W.subIn K (.ref C_BadOrder) (.ref C_BadLine) = some false)
    (y_BadOrder_BadOrder : PySem.W.subIn K (.ref C_BadOrder) (.ref C_BadOrder) = some true)
    (y_Orders_Orders : PySem.W.subIn K (.ref C_Orders) (.ref C_Orders) = some true)
    (y_tuple_Orders : PySem.W.subIn K (.type "tuple") (.ref C_Orders) = some false)
    (x_BadLine_GlimError : PySem.W.subIn K (.ref C_BadLine) (.ref C_GlimError) = some true)
    (x_BadOrder_GlimError : PySem.W.subIn K (.ref C_BadOrder) (.ref C_GlimError) = some true)
    : ∃ fd : FuncData, (∀ (s : Shared) (v : Value), BindsTo s fd ⟨[v], []⟩ [("_law_script", v)]) ∧ ∀ base : Heap, K.In base → base.Ns mainGlobals mg → GOk l.prog w K mg base CX0 11 fa fd ["_law_script"] (sp1 (p_law K)) := by
  have e := hfa.symm.trans (PySem.W.mg_of X G a45)
  cases e
  have F1 := fun_mk (st := s_is_integer) l1 c1 k1
  have F2 : FunD K "deep" "deep" (defArgs s_deep) (defBody s_deep) (defScope s_deep) [.int (0)] [] f2 _ := ⟨⟨_, _, _, _, _, _, _, _, _, _, rfl, l2, c2, (.inr ⟨by simp, D2, _, _, _, rfl, e2, rfl, (.cons ⟨_, rfl⟩ .nil)⟩), .inl rfl⟩, k2⟩
  have E2 := FunD.binds1 (ps := ["thing", "level"]) F2 1 0 (by simp) rfl fun _ _ _ _ _ _ _ us its h1 h2 => match us, its, h1, h2 with | [_], [_], _, _ => ⟨_, rfl, rfl⟩
  have B2 := FunD.binds1 (ps := ["thing", "level"]) F2 2 1 (by simp) rfl fun _ _ _ _ _ _ _ us its h1 h2 => match us, its, h1, h2 with | [_, _], [_], _, _ => ⟨_, rfl, rfl⟩
  have B2 : Binds K _ ["thing", "level"] [] := (by obtain ⟨ds, h1, h2⟩ := B2; cases h1; exact h2)
  have F3 := fun_mk (st := s_is_mark) l3 c3 k3
  have F4 := fun_mk (st := s_is_name) l4 c4 k4
  have F5 := fun_mk (st := s_is_number) l5 c5 k5
  have F6 : FunD K "__init__" "Lines.__init__" (defArgs s_Lines___init__) (defBody s_Lines___init__) (defScope s_Lines___init__) [.int (0)] [] f6 _ := ⟨⟨_, _, _, _, _, _, _, _, _, _, rfl, l6, c6, (.inr ⟨by simp, D6, _, _, _, rfl, e6, rfl, (.cons ⟨_, rfl⟩ .nil)⟩), .inl rfl⟩, k6⟩
  have E6 := FunD.binds1 (ps := ["self", "texts", "at"]) F6 2 0 (by simp) rfl fun _ _ _ _ _ _ _ us its h1 h2 => match us, its, h1, h2 with | [_, _], [_], _, _ => ⟨_, rfl, rfl⟩
  have B6 := FunD.binds1 (ps := ["self", "texts", "at"]) F6 3 1 (by simp) rfl fun _ _ _ _ _ _ _ us its h1 h2 => match us, its, h1, h2 with | [_, _, _], [_], _, _ => ⟨_, rfl, rfl⟩
  have B6 : Binds K _ ["self", "texts", "at"] [] := (by obtain ⟨ds, h1, h2⟩ := B6; cases h1; exact h2)
  have F7 : FunD K "is_over" "Lines.is_over" (defArgs s_Lines_is_over) (defBody s_Lines_is_over) (defScope s_Lines_is_over) [] [] f7 _ := ⟨⟨_, _, _, _, _, _, _, _, _, _, rfl, l7, c7, (.inl ⟨rfl, rfl⟩), .inl rfl⟩, k7⟩
  have B7 : Binds K _ ["self"] [] := FunD.bindsN (ps := ["self"]) F7 fun _ _ _ _ _ _ us hl => match us, hl with | [_], _ => rfl
  have E7 : ∃ ds, Vals [] ds ∧ Binds K _ ["self"] ds := ⟨[], .nil, B7⟩
  have F8 : FunD K "words" "Lines.words" (defArgs s_Lines_words) (defBody s_Lines_words) (defScope s_Lines_words) [] [] f8 _ := ⟨⟨_, _, _, _, _, _, _, _, _, _, rfl, l8, c8, (.inl ⟨rfl, rfl⟩), .inl rfl⟩, k8⟩
  have B8 : Binds K _ ["self"] [] := FunD.bindsN (ps := ["self"]) F8 fun _ _ _ _ _ _ us hl => match us, hl with | [_], _ => rfl
  have E8 : ∃ ds, Vals [] ds ∧ Binds K _ ["self"] ds := ⟨[], .nil, B8⟩
  have F9 : FunD K "first_word" "Lines.first_word" (defArgs s_Lines_first_word) (defBody s_Lines_first_word) (defScope s_Lines_first_word) [] [] f9 _ := ⟨⟨_, _, _, _, _, _, _, _, _, _, rfl, l9, c9, (.inl ⟨rfl, rfl⟩), .inl rfl⟩, k9⟩
  have B9 : Binds K _ ["self"] [] := FunD.bindsN (ps := ["self"]) F9 fun _ _ _ _ _ _ us hl => match us, hl with | [_], _ => rfl
  have E9 : ∃ ds, Vals [] ds ∧ Binds K _ ["self"] ds := ⟨[], .nil, B9⟩
  have F10 : FunD K "fail_at" "Lines.fail_at" (defArgs s_Lines_fail_at) (defBody s_Lines_fail_at) (defScope s_Lines_fail_at) [] [] f10 _ := ⟨⟨_, _, _, _, _, _, _, _, _, _, rfl, l10, c10, (.inl ⟨rfl, rfl⟩), .inl rfl⟩, k10⟩
  have B10 : Binds K _ ["self", "number"] [] := FunD.bindsN (ps := ["self", "number"]) F10 fun _ _ _ _ _ _ us hl => match us, hl with | [_, _], _ => rfl
  have E10 : ∃ ds, Vals [] ds ∧ Binds K _ ["self", "number"] ds := ⟨[], .nil, B10⟩
  have F11 : FunD K "word_at" "Lines.word_at" (defArgs s_Lines_word_at) (defBody s_Lines_word_at) (defScope s_Lines_word_at) [] [] f11 _ := ⟨⟨_, _, _, _, _, _, _, _, _, _, rfl, l11, c11, (.inl ⟨rfl, rfl⟩), .inl rfl⟩, k11⟩
  have B11 : Binds K _ ["self", "number"] [] := FunD.bindsN (ps := ["self", "number"]) F11 fun _ _ _ _ _ _ us hl => match us, hl with | [_, _], _ => rfl
  have E11 : ∃ ds, Vals [] ds ∧ Binds K _ ["self", "number"] ds := ⟨[], .nil, B11⟩
  have F12 : FunD K "number_at" "Lines.number_at" (defArgs s_Lines_number_at) (defBody s_Lines_number_at) (defScope s_Lines_number_at) [] [] f12 _ := ⟨⟨_, _, _, _, _, _, _, _, _, _, rfl, l12, c12, (.inl ⟨rfl, rfl⟩), .inl rfl⟩, k12⟩
  have B12 : Binds K _ ["self", "number", "low", "high"] [] := FunD.bindsN (ps := ["self", "number", "low", "high"]) F12 fun _ _ _ _ _ _ us hl => match us, hl with | [_, _, _, _], _ => rfl
  have E12 : ∃ ds, Vals [] ds ∧ Binds K _ ["self", "number", "low", "high"] ds := ⟨[], .nil, B12⟩
  have F13 : FunD K "name_at" "Lines.name_at" (defArgs s_Lines_name_at) (defBody s_Lines_name_at) (defScope s_Lines_name_at) [] [] f13 _ := ⟨⟨_, _, _, _, _, _, _, _, _, _, rfl, l13, c13, (.inl ⟨rfl, rfl⟩), .inl rfl⟩, k13⟩
  have B13 : Binds K _ ["self", "number"] [] := FunD.bindsN (ps := ["self", "number"]) F13 fun _ _ _ _ _ _ us hl => match us, hl with | [_, _], _ => rfl
  have E13 : ∃ ds, Vals [] ds ∧ Binds K _ ["self", "number"] ds := ⟨[], .nil, B13⟩
  have F14 : FunD K "close_at" "Lines.close_at" (defArgs s_Lines_close_at) (defBody s_Lines_close_at) (defScope s_Lines_close_at) [] [] f14 _ := ⟨⟨_, _, _, _, _, _, _, _, _, _, rfl, l14, c14, (.inl ⟨rfl, rfl⟩), .inl rfl⟩, k14⟩
  have B14 : Binds K _ ["self", "number"] [] := FunD.bindsN (ps := ["self", "number"]) F14 fun _ _ _ _ _ _ us hl => match us, hl with | [_, _], _ => rfl
  have E14 : ∃ ds, Vals [] ds ∧ Binds K _ ["self", "number"] ds := ⟨[], .nil, B14⟩
  have F15 := fun_mk (st := s_is_signs) l15 c15 k15
  have F16 := fun_mk (st := s_is_order) l16 c16 k16
  have F17 : FunD K "__init__" "Orders.__init__" (defArgs s_Orders___init__) (defBody s_Orders___init__) (defScope s_Orders___init__) [] [] f17 _ := ⟨⟨_, _, _, _, _, _, _, _, _, _, rfl, l17, c17, (.inl ⟨rfl, rfl⟩), .inl rfl⟩, k17⟩
  have B17 : Binds K _ ["self", "lines"] [] := FunD.bindsN (ps := ["self", "lines"]) F17 fun _ _ _ _ _ _ us hl => match us, hl with | [_, _], _ => rfl
  have E17 : ∃ ds, Vals [] ds ∧ Binds K _ ["self", "lines"] ds := ⟨[], .nil, B17⟩
  have F18 : FunD K "__len__" "Orders.__len__" (defArgs s_Orders___len__) (defBody s_Orders___len__) (defScope s_Orders___len__) [] [] f18 _ := ⟨⟨_, _, _, _, _, _, _, _, _, _, rfl, l18, c18, (.inl ⟨rfl, rfl⟩), .inl rfl⟩, k18⟩
  have B18 : Binds K _ ["self"] [] := FunD.bindsN (ps := ["self"]) F18 fun _ _ _ _ _ _ us hl => match us, hl with | [_], _ => rfl
  have E18 : ∃ ds, Vals [] ds ∧ Binds K _ ["self"] ds := ⟨[], .nil, B18⟩
  have F19 : FunD K "__iter__" "Orders.__iter__" (defArgs s_Orders___iter__) (defBody s_Orders___iter__) (defScope s_Orders___iter__) [] [] f19 _ := ⟨⟨_, _, _, _, _, _, _, _, _, _, rfl, l19, c19, (.inl ⟨rfl, rfl⟩), .inl rfl⟩, k19⟩
  have B19 : Binds K _ ["self"] [] := FunD.bindsN (ps := ["self"]) F19 fun _ _ _ _ _ _ us hl => match us, hl with | [_], _ => rfl
  have E19 : ∃ ds, Vals [] ds ∧ Binds K _ ["self"] ds := ⟨[], .nil, B19⟩
  have F20 : FunD K "__getitem__" "Orders.__getitem__" (defArgs s_Orders___getitem__) (defBody s_Orders___getitem__) (defScope s_Orders___getitem__) [] [] f20 _ := ⟨⟨_, _, _, _, _, _, _, _, _, _, rfl, l20, c20, (.inl ⟨rfl, rfl⟩), .inl rfl⟩, k20⟩
  have B20 : Binds K _ ["self", "number"] [] := FunD.bindsN (ps := ["self", "number"]) F20 fun _ _ _ _ _ _ us hl => match us, hl with | [_, _], _ => rfl
  have E20 : ∃ ds, Vals [] ds ∧ Binds K _ ["self", "number"] ds := ⟨[], .nil, B20⟩
  have F21 : FunD K "__eq__" "Orders.__eq__" (defArgs s_Orders___eq__) (defBody s_Orders___eq__) (defScope s_Orders___eq__) [] [] f21 _ := ⟨⟨_, _, _, _, _, _, _, _, _, _, rfl, l21, c21, (.inl ⟨rfl, rfl⟩), .inl rfl⟩, k21⟩
  have B21 : Binds K _ ["self", "other"] [] := FunD.bindsN (ps := ["self", "other"]) F21 fun _ _ _ _ _ _ us hl => match us, hl with | [_, _], _ => rfl
  have E21 : ∃ ds, Vals [] ds ∧ Binds K _ ["self", "other"] ds := ⟨[], .nil, B21⟩
  have F22 := fun_mk (st := s_signs_at) l22 c22 k22
  have F23 := fun_mk (st := s_order_at) l23 c23 k23
  have F24 := fun_mk (st := s_order_line) l24 c24 k24
  have F25 := fun_mk (st := s_write_orders) l25 c25 k25
  have F26 := fun_mk (st := s_read_orders) l26 c26 k26
  have F27 := fun_mk (st := s_L_draw) l27 c27 k27
  have F28 := fun_mk (st := s_L_mix) l28 c28 k28
  have F29 := fun_mk (st := s_L_pick) l29 c29 k29
  have F30 := fun_mk (st := s_L_name) l30 c30 k30
  have F31 := fun_mk (st := s_L_names) l31 c31 k31
  have F32 := fun_mk (st := s_L_signs) l32 c32 k32
  have F33 := fun_mk (st := s_L_order) l33 c33 k33
  have F34 := fun_mk (st := s_L_form) l34 c34 k34
  have F35 := fun_mk (st := s_L_is_name) l35 c35 k35
  have F36 := fun_mk (st := s_L_is_signs) l36 c36 k36
  have F37 := fun_mk (st := s_L_number) l37 c37 k37
  have F38 := fun_mk (st := s_L_is_word) l38 c38 k38
  have F39 := fun_mk (st := s_L_bad_word) l39 c39 k39
  have F40 := fun_mk (st := s_L_line) l40 c40 k40
  have F41 := fun_mk (st := s_L_read) l41 c41 k41
  have F42 := fun_mk (st := s_L_told) l42 c42 k42
  have F43 := fun_mk (st := s_L_spoilt_text) l43 c43 k43
  have F44 := fun_mk (st := s_L_spoilt) l44 c44 k44
  have F45 := fun_mk (st := s_law) l45 c45 k45
  have F46 := fun_mk (st := s_BadLine) xf_BadLine xc_BadLine xkf_BadLine
  have F47 := fun_mk (st := s_BadOrder) xf_BadOrder xc_BadOrder xkf_BadOrder
  have F48 := fun_mk (st := s_NoLine) xf_NoLine xc_NoLine xkf_NoLine
  have T : Txt K mg C_GlimError C_BadLine C_BadOrder C_NoLine C_Lines C_Orders C_WORDS := {
    d_is_integer := ⟨_, _, F1, PySem.W.mg_of X G a1, (F1.binds (ps := ["thing", "low", "high"]) fun _ _ _ _ _ _ us hl => match us, hl with | [_, _, _], _ => rfl)⟩
    d_deep := ⟨_, _, F2, PySem.W.mg_of X G a2, B2, E2⟩
    d_is_mark := ⟨_, _, F3, PySem.W.mg_of X G a3, (F3.binds (ps := ["thing"]) fun _ _ _ _ _ _ us hl => match us, hl with | [_], _ => rfl)⟩
    d_is_name := ⟨_, _, F4, PySem.W.mg_of X G a4, (F4.binds (ps := ["thing"]) fun _ _ _ _ _ _ us hl => match us, hl with | [_], _ => rfl)⟩
    d_is_number := ⟨_, _, F5, PySem.W.mg_of X G a5, (F5.binds (ps := ["text"]) fun _ _ _ _ _ _ us hl => match us, hl with | [_], _ => rfl)⟩
    m_Lines___init__ := ⟨f6, _, ⟨wmk_Lines, a6, i6, wkc_Lines⟩, PySem.W.mg_of X G g_Lines, F6, B6, E6⟩
    m_Lines_is_over := ⟨f7, _, ⟨a7, i7, k7⟩, F7, B7, E7⟩
    m_Lines_words := ⟨f8, _, ⟨a8, i8, k8⟩, F8, B8, E8⟩
    m_Lines_first_word := ⟨f9, _, ⟨a9, i9, k9⟩, F9, B9, E9⟩
    m_Lines_fail_at := ⟨f10, _, ⟨a10, i10, k10⟩, F10, B10, E10⟩
    m_Lines_word_at := ⟨f11, _, ⟨a11, i11, k11⟩, F11, B11, E11⟩
    m_Lines_number_at := ⟨f12, _, ⟨a12, i12, k12⟩, F12, B12, E12⟩
    m_Lines_name_at := ⟨f13, _, ⟨a13, i13, k13⟩, F13, B13, E13⟩
    m_Lines_close_at := ⟨f14, _, ⟨a14, i14, k14⟩, F14, B14, E14⟩
    d_is_signs := ⟨_, _, F15, PySem.W.mg_of X G a15, (F15.binds (ps := ["thing"]) fun _ _ _ _ _ _ us hl => match us, hl with | [_], _ => rfl)⟩
    d_is_order := ⟨_, _, F16, PySem.W.mg_of X G a16, (F16.binds (ps := ["thing", "many"]) fun _ _ _ _ _ _ us hl => match us, hl with | [_, _], _ => rfl)⟩
    m_Orders___init__ := ⟨f17, _, ⟨wmk_Orders, a17, i17, wkc_Orders⟩, PySem.W.mg_of X G g_Orders, F17, B17, E17⟩
    m_Orders___len__ := ⟨f18, _, ⟨a18, i18, k18⟩, F18, B18, E18⟩
    m_Orders___iter__ := ⟨f19, _, ⟨a19, i19, k19⟩, F19, B19, E19⟩
    m_Orders___getitem__ := ⟨f20, _, ⟨a20, i20, k20⟩, F20, B20, E20⟩
    m_Orders___eq__ := ⟨f21, _, ⟨a21, i21, k21⟩, F21, B21, E21⟩
    d_signs_at := ⟨_, _, F22, PySem.W.mg_of X G a22, (F22.binds (ps := ["reader", "number"]) fun _ _ _ _ _ _ us hl => match us, hl with | [_, _], _ => rfl)⟩
    d_order_at := ⟨_, _, F23, PySem.W.mg_of X G a23, (F23.binds (ps := ["reader"]) fun _ _ _ _ _ _ us hl => match us, hl with | [_], _ => rfl)⟩
    d_order_line := ⟨_, _, F24, PySem.W.mg_of X G a24, (F24.binds (ps := ["order"]) fun _ _ _ _ _ _ us hl => match us, hl with | [_], _ => rfl)⟩
    d_write_orders := ⟨_, _, F25, PySem.W.mg_of X G a25, (F25.binds (ps := ["orders"]) fun _ _ _ _ _ _ us hl => match us, hl with | [_], _ => rfl)⟩
    d_read_orders := ⟨_, _, F26, PySem.W.mg_of X G a26, (F26.binds (ps := ["lines"]) fun _ _ _ _ _ _ us hl => match us, hl with | [_], _ => rfl)⟩
    d_L_draw := ⟨_, _, F27, PySem.W.mg_of X G a27, (F27.binds (ps := ["_law_script"]) fun _ _ _ _ _ _ us hl => match us, hl with | [_], _ => rfl)⟩
    d_L_mix := ⟨_, _, F28, PySem.W.mg_of X G a28, (F28.binds (ps := ["_law_cell", "_law_turn"]) fun _ _ _ _ _ _ us hl => match us, hl with | [_, _], _ => rfl)⟩
    d_L_pick := ⟨_, _, F29, PySem.W.mg_of X G a29, (F29.binds (ps := ["_law_draw_here", "_law_many"]) fun _ _ _ _ _ _ us hl => match us, hl with | [_, _], _ => rfl)⟩
    d_L_name := ⟨_, _, F30, PySem.W.mg_of X G a30, (F30.binds (ps := ["_law_draw_here", "_law_used"]) fun _ _ _ _ _ _ us hl => match us, hl with | [_, _], _ => rfl)⟩
    d_L_names := ⟨_, _, F31, PySem.W.mg_of X G a31, (F31.binds (ps := ["_law_draw_here", "_law_many"]) fun _ _ _ _ _ _ us hl => match us, hl with | [_, _], _ => rfl)⟩
    d_L_signs := ⟨_, _, F32, PySem.W.mg_of X G a32, (F32.binds (ps := ["_law_draw_here"]) fun _ _ _ _ _ _ us hl => match us, hl with | [_], _ => rfl)⟩
    d_L_order := ⟨_, _, F33, PySem.W.mg_of X G a33, (F33.binds (ps := ["_law_draw_here", "_law_many", "_law_names_here", "_law_top"]) fun _ _ _ _ _ _ us hl => match us, hl with | [_, _, _, _], _ => rfl)⟩
    d_L_form := ⟨_, _, F34, PySem.W.mg_of X G a34, (F34.binds (ps := ["_law_word"]) fun _ _ _ _ _ _ us hl => match us, hl with | [_], _ => rfl)⟩
    d_L_is_name := ⟨_, _, F35, PySem.W.mg_of X G a35, (F35.binds (ps := ["_law_thing"]) fun _ _ _ _ _ _ us hl => match us, hl with | [_], _ => rfl)⟩
    d_L_is_signs := ⟨_, _, F36, PySem.W.mg_of X G a36, (F36.binds (ps := ["_law_thing"]) fun _ _ _ _ _ _ us hl => match us, hl with | [_], _ => rfl)⟩
    d_L_number := ⟨_, _, F37, PySem.W.mg_of X G a37, (F37.binds (ps := ["_law_word", "_law_low", "_law_high"]) fun _ _ _ _ _ _ us hl => match us, hl with | [_, _, _], _ => rfl)⟩
    d_L_is_word := ⟨_, _, F38, PySem.W.mg_of X G a38, (F38.binds (ps := ["_law_word", "_law_part"]) fun _ _ _ _ _ _ us hl => match us, hl with | [_, _], _ => rfl)⟩
    d_L_bad_word := ⟨_, _, F39, PySem.W.mg_of X G a39, (F39.binds (ps := ["_law_words"]) fun _ _ _ _ _ _ us hl => match us, hl with | [_], _ => rfl)⟩
    d_L_line := ⟨_, _, F40, PySem.W.mg_of X G a40, (F40.binds (ps := ["_law_words"]) fun _ _ _ _ _ _ us hl => match us, hl with | [_], _ => rfl)⟩
    d_L_read := ⟨_, _, F41, PySem.W.mg_of X G a41, (F41.binds (ps := ["_law_texts"]) fun _ _ _ _ _ _ us hl => match us, hl with | [_], _ => rfl)⟩
    d_L_told := ⟨_, _, F42, PySem.W.mg_of X G a42, (F42.binds (ps := ["_law_texts"]) fun _ _ _ _ _ _ us hl => match us, hl with | [_], _ => rfl)⟩
    d_L_spoilt_text := ⟨_, _, F43, PySem.W.mg_of X G a43, (F43.binds (ps := ["_law_draw_here", "_law_text"]) fun _ _ _ _ _ _ us hl => match us, hl with | [_, _], _ => rfl)⟩
    d_L_spoilt := ⟨_, _, F44, PySem.W.mg_of X G a44, (F44.binds (ps := ["_law_draw_here", "_law_texts"]) fun _ _ _ _ _ _ us hl => match us, hl with | [_, _], _ => rfl)⟩
    d_law := ⟨_, _, F45, PySem.W.mg_of X G a45, (F45.binds (ps := ["_law_script"]) fun _ _ _ _ _ _ us hl => match us, hl with | [_], _ => rfl)⟩
    b_abs := PySem.W.mg_none_of X G z_abs
    b_bool := PySem.W.mg_none_of X G z_bool
    b_enumerate := PySem.W.mg_none_of X G z_enumerate
    b_int := PySem.W.mg_none_of X G z_int
    b_isinstance := PySem.W.mg_none_of X G z_isinstance
    b_iter := PySem.W.mg_none_of X G z_iter
    b_len := PySem.W.mg_none_of X G z_len
    b_list := PySem.W.mg_none_of X G z_list
    b_range := PySem.W.mg_none_of X G z_range
    b_repr := PySem.W.mg_none_of X G z_repr
    b_str := PySem.W.mg_none_of X G z_str
    b_sum := PySem.W.mg_none_of X G z_sum
    b_tuple := PySem.W.mg_none_of X G z_tuple
    g_SIGNS := ⟨t_SIGNS, (PySem.W.mg_of X G v_SIGNS).trans (congrArg some (congrArg (fun z => Value.str z t_SIGNS) (by decide +kernel : (".grw" : Str) = ⟨([46, 103, 114, 119] : List Nat).toArray⟩)))⟩
    g_MARK_SIGNS := ⟨t_MARK_SIGNS, (PySem.W.mg_of X G v_MARK_SIGNS).trans (congrArg some (congrArg (fun z => Value.str z t_MARK_SIGNS) (by decide +kernel : ("abcdefghijklmnopqrstuvwxyz0123456789" : Str) = ⟨([97, 98, 99, 100, 101, 102, 103, 104, 105, 106, 107, 108, 109, 110, 111, 112, 113, 114, 115, 116, 117, 118, 119, 120, 121, 122, 48, 49, 50, 51, 52, 53, 54, 55, 56, 57] : List Nat).toArray⟩)))⟩
    g_MOST_LEVELS := ⟨t_MOST_LEVELS, PySem.W.mg_of X G v_MOST_LEVELS⟩
    g_DIGITS := ⟨t_DIGITS, (PySem.W.mg_of X G v_DIGITS).trans (congrArg some (congrArg (fun z => Value.str z t_DIGITS) (by decide +kernel : ("0123456789" : Str) = ⟨([48, 49, 50, 51, 52, 53, 54, 55, 56, 57] : List Nat).toArray⟩)))⟩
    g_MOST_LINES := ⟨t_MOST_LINES, PySem.W.mg_of X G v_MOST_LINES⟩
    c_GlimError := PySem.W.mg_of X G g_GlimError
    c_BadLine := PySem.W.mg_of X G g_BadLine
    c_BadOrder := PySem.W.mg_of X G g_BadOrder
    c_NoLine := PySem.W.mg_of X G g_NoLine
    c_Lines := PySem.W.mg_of X G g_Lines
    c_Orders := PySem.W.mg_of X G g_Orders
    c_WORDS := PySem.W.mg_of X G g_WORDS
    q_WORDS := fun H => .inr ⟨_, _, _, l_WORDS, rfl, rfl, by show 8 ≤ sizeLine; decide, (.cons ⟨_, congrArg (fun z => Value.str z _) (by decide +kernel)⟩ (.cons ⟨_, congrArg (fun z => Value.str z _) (by decide +kernel)⟩ (.cons ⟨_, congrArg (fun z => Value.str z _) (by decide +kernel)⟩ (.cons ⟨_, congrArg (fun z => Value.str z _) (by decide +kernel)⟩ (.cons ⟨_, congrArg (fun z => Value.str z _) (by decide +kernel)⟩ (.cons ⟨_, congrArg (fun z => Value.str z _) (by decide +kernel)⟩ (.cons ⟨_, congrArg (fun z => Value.str z _) (by decide +kernel)⟩ (.cons ⟨_, congrArg (fun z => Value.str z _) (by decide +kernel)⟩ .nil))))))))⟩
    cl_Lines := ⟨wpg_Lines, whd_Lines, wpo_Lines, wsa_Lines⟩
    ic_Lines := ⟨⟨wpg_Lines, whd_Lines, wpo_Lines, wsa_Lines⟩, wca_Lines, xsp, xtk, wmo_Lines⟩
    nt_Lines := wnt_Lines
    st_Lines := wst_Lines
    na_Lines_texts := wna_Lines_texts
    na_Lines_now := wna_Lines_now
    cl_Orders := ⟨wpg_Orders, whd_Orders, wpo_Orders, wsa_Orders⟩
    ic_Orders := ⟨⟨wpg_Orders, whd_Orders, wpo_Orders, wsa_Orders⟩, wca_Orders, xsp, xtk, wmo_Orders⟩
    nt_Orders := wnt_Orders
    st_Orders := wst_Orders
    na_Orders_lines := wna_Orders_lines
    o_BadLine := ⟨⟨nm_BadLine, q_BadLine, N_BadLine, bs_BadLine, bm_BadLine, sn_BadLine, sub_BadLine, ab_BadLine, col_BadLine, dd_BadLine, m0_BadLine, m1_BadLine, m2_BadLine, m3_BadLine, m5_BadLine, xl_BadLine, xr_BadLine⟩, xsa_BadLine, xe_BadLine, xty_BadLine, xk_BadLine⟩
    nf_BadLine_line := xnf_BadLine_line
    nf_BadLine_word := xnf_BadLine_word
    i_BadLine := ⟨f46, _, xi_BadLine, xt_BadLine, F46, (F46.binds (ps := ["self", "line", "word"]) fun _ _ _ _ _ _ us hl => match us, hl with | [_, _, _], _ => rfl)⟩
    e_BadLine := ⟨xis_BadLine, xga_BadLine, xgg_BadLine, xe_BadLine, xhd_BadLine, xca_BadLine, xsp, xtk, xm_BadLine⟩
    o_BadOrder := ⟨⟨nm_BadOrder, q_BadOrder, N_BadOrder, bs_BadOrder, bm_BadOrder, sn_BadOrder, sub_BadOrder, ab_BadOrder, col_BadOrder, dd_BadOrder, m0_BadOrder, m1_BadOrder, m2_BadOrder, m3_BadOrder, m5_BadOrder, xl_BadOrder, xr_BadOrder⟩, xsa_BadOrder, xe_BadOrder, xty_BadOrder, xk_BadOrder⟩
    nf_BadOrder_number := xnf_BadOrder_number
    i_BadOrder := ⟨f47, _, xi_BadOrder, xt_BadOrder, F47, (F47.binds (ps := ["self", "number"]) fun _ _ _ _ _ _ us hl => match us, hl with | [_, _], _ => rfl)⟩
    e_BadOrder := ⟨xis_BadOrder, xga_BadOrder, xgg_BadOrder, xe_BadOrder, xhd_BadOrder, xca_BadOrder, xsp, xtk, xm_BadOrder⟩
    o_NoLine := ⟨⟨nm_NoLine, q_NoLine, N_NoLine, bs_NoLine, bm_NoLine, sn_NoLine, sub_NoLine, ab_NoLine, col_NoLine, dd_NoLine, m0_NoLine, m1_NoLine, m2_NoLine, m3_NoLine, m5_NoLine, xl_NoLine, xr_NoLine⟩, xsa_NoLine, xe_NoLine, xty_NoLine, xk_NoLine⟩
    nf_NoLine_number := xnf_NoLine_number
    i_NoLine := ⟨f48, _, xi_NoLine, xt_NoLine, F48, (F48.binds (ps := ["self", "number"]) fun _ _ _ _ _ _ us hl => match us, hl with | [_, _], _ => rfl)⟩
    e_NoLine := ⟨xis_NoLine, xga_NoLine, xgg_NoLine, xe_NoLine, xhd_NoLine, xca_NoLine, xsp, xtk, xm_NoLine⟩
    k_BadLine_BadLine := Fg.kit_ref qi_BadLine qt_BadLine qs_BadLine y_BadLine_BadLine
    k_BadLine_BadOrder := Fg.kit_ref qi_BadOrder qt_BadOrder qs_BadOrder y_BadLine_BadOrder
    k_BadOrder_BadLine := Fg.kit_ref qi_BadLine qt_BadLine qs_BadLine y_BadOrder_BadLine
    k_BadOrder_BadOrder := Fg.kit_ref qi_BadOrder qt_BadOrder qs_BadOrder y_BadOrder_BadOrder
    k_Orders_Orders := Fg.kit_ref qi_Orders qt_Orders qs_Orders y_Orders_Orders
    k_tuple_Orders := Fg.kit_bltn qi_Orders qt_Orders y_tuple_Orders
    m_BadLine_GlimError := Fg.exm_ref qi_GlimError qt_GlimError qb_GlimError x_BadLine_GlimError
    m_BadOrder_GlimError := Fg.exm_ref qi_GlimError qt_GlimError qb_GlimError x_BadOrder_GlimError }
  refine ⟨PySem.W.fnOf "law" "law" (defArgs s_law) (defBody s_law) (defScope s_law) .none kV45 dc45 pm45 an45 cd45 ct45, fun s v => .of_eq rfl, fun base _ _ => ?_⟩
  exact ok_law_at F45 T
end K43
open PySem PySem.W PyProof.Rows
set_option maxRecDepth 100000 in
set_option maxHeartbeats 0 in
theorem PySem.Challenge.cw_falseglim_k43_order_lines_holds : PySem.Challenge.rw_falseglim_k43_order_lines.Holds := by
  w_on; o_law; k_head; (case hw => w_witness2)
  k_fill
  refine Fg.walk_g (l := PySem.Challenge.rw_falseglim_k43_order_lines) (n := 63) (k := 11) (x := "_law_script") (CX := fun _ => L2.CX0) (sp := fun w => Fg.sp1 (K43.p_law _)) rfl (by decide) rfl ⟨rfl, by decide, by decide⟩ (fun w h Y => PySem.W.kIn_of Y) ?F (fun _ _ a ns hl _ hS => ⟨.ref a, rfl, a, ns, rfl, hS, hl, fun _ => rfl⟩) (fun _ _ _ _ _ h => h)
  case F =>
    intro w mg fa h KX G hmg
    refine' K43.all_mk KX G hmg ?a1 ?l1 ?c1 ?k1 ?a2 ?l2 ?c2 ?k2 ?e2 ?a3 ?l3 ?c3 ?k3 ?a4 ?l4 ?c4 ?k4 ?a5 ?l5 ?c5 ?k5 ?a6 ?i6 ?l6 ?c6 ?k6 ?e6 ?a7 ?i7 ?l7 ?c7 ?k7 ?a8 ?i8 ?l8 ?c8 ?k8 ?a9 ?i9 ?l9 ?c9 ?k9 ?a10 ?i10 ?l10 ?c10 ?k10 ?a11 ?i11 ?l11 ?c11 ?k11 ?a12 ?i12 ?l12 ?c12 ?k12 ?a13 ?i13 ?l13 ?c13 ?k13 ?a14 ?i14 ?l14 ?c14 ?k14 ?a15 ?l15 ?c15 ?k15 ?a16 ?l16 ?c16 ?k16 ?a17 ?i17 ?l17 ?c17 ?k17 ?a18 ?i18 ?l18 ?c18 ?k18 ?a19 ?i19 ?l19 ?c19 ?k19 ?a20 ?i20 ?l20 ?c20 ?k20 ?a21 ?i21 ?l21 ?c21 ?k21 ?a22 ?l22 ?c22 ?k22 ?a23 ?l23 ?c23 ?k23 ?a24 ?l24 ?c24 ?k24 ?a25 ?l25 ?c25 ?k25 ?a26 ?l26 ?c26 ?k26 ?a27 ?l27 ?c27 ?k27 ?a28 ?l28 ?c28 ?k28 ?a29 ?l29 ?c29 ?k29 ?a30 ?l30 ?c30 ?k30 ?a31 ?l31 ?c31 ?k31 ?a32 ?l32 ?c32 ?k32 ?a33 ?l33 ?c33 ?k33 ?a34 ?l34 ?c34 ?k34 ?a35 ?l35 ?c35 ?k35 ?a36 ?l36 ?c36 ?k36 ?a37 ?l37 ?c37 ?k37 ?a38 ?l38 ?c38 ?k38 ?a39 ?l39 ?c39 ?k39 ?a40 ?l40 ?c40 ?k40 ?a41 ?l41 ?c41 ?k41 ?a42 ?l42 ?c42 ?k42 ?a43 ?l43 ?c43 ?k43 ?a44 ?l44 ?c44 ?k44 ?a45 ?l45 ?c45 ?k45 ?wpg_Lines ?whd_Lines ?wpo_Lines ?wsa_Lines ?wmk_Lines ?wkc_Lines ?wca_Lines ?wmo_Lines ?wnt_Lines ?wst_Lines ?wna_Lines_texts ?wna_Lines_now ?wpg_Orders ?whd_Orders ?wpo_Orders ?wsa_Orders ?wmk_Orders ?wkc_Orders ?wca_Orders ?wmo_Orders ?wnt_Orders ?wst_Orders ?wna_Orders_lines ?z_abs ?z_bool ?z_enumerate ?z_int ?z_isinstance ?z_iter ?z_len ?z_list ?z_range ?z_repr ?z_str ?z_sum ?z_tuple ?v_SIGNS ?v_MARK_SIGNS ?v_MOST_LEVELS ?v_DIGITS ?v_MOST_LINES ?g_GlimError ?g_BadLine ?g_BadOrder ?g_NoLine ?g_Lines ?g_Orders ?g_WORDS ?l_WORDS ?xl_BadLine ?xr_BadLine ?xsa_BadLine ?xga_BadLine ?xgg_BadLine ?xnf_BadLine_line ?xnf_BadLine_word ?xi_BadLine ?xt_BadLine ?xf_BadLine ?xc_BadLine ?xkf_BadLine ?xk_BadLine ?xe_BadLine ?xty_BadLine ?xhd_BadLine ?xis_BadLine ?xca_BadLine ?xm_BadLine ?xl_BadOrder ?xr_BadOrder ?xsa_BadOrder ?xga_BadOrder ?xgg_BadOrder ?xnf_BadOrder_number ?xi_BadOrder ?xt_BadOrder ?xf_BadOrder ?xc_BadOrder ?xkf_BadOrder ?xk_BadOrder ?xe_BadOrder ?xty_BadOrder ?xhd_BadOrder ?xis_BadOrder ?xca_BadOrder ?xm_BadOrder ?xl_NoLine ?xr_NoLine ?xsa_NoLine ?xga_NoLine ?xgg_NoLine ?xnf_NoLine_number ?xi_NoLine ?xt_NoLine ?xf_NoLine ?xc_NoLine ?xkf_NoLine ?xk_NoLine ?xe_NoLine ?xty_NoLine ?xhd_NoLine ?xis_NoLine ?xca_NoLine ?xm_NoLine ?xsp ?xtk ?qi_BadLine ?qt_BadLine ?qs_BadLine ?qb_BadLine ?qi_BadOrder ?qt_BadOrder ?qs_BadOrder ?qb_BadOrder ?qi_GlimError ?qt_GlimError ?qs_GlimError ?qb_GlimError ?qi_Orders ?qt_Orders ?qs_Orders ?y_BadLine_BadLine ?y_BadLine_BadOrder ?y_BadOrder_BadLine ?y_BadOrder_BadOrder ?y_Orders_Orders ?y_tuple_Orders ?x_BadLine_GlimError ?x_BadOrder_GlimError
    (case g_GlimError => k_is)
    (case g_BadLine => k_is)
    (case g_BadOrder => k_is)
    (case g_NoLine => k_is)
    (case g_Lines => k_is)
    (case g_Orders => k_is)
    (case g_WORDS => k_is)
    (case a1 => k_is)
    (case l1 => k_is)
    (case c1 => k_is)
    (case k1 => k_is)
    (case a2 => k_is)
    (case l2 => k_is)
    (case c2 => k_is)
    (case k2 => k_is)
    (case e2 => k_is)
    (case a3 => k_is)
    (case l3 => k_is)
    (case c3 => k_is)
    (case k3 => k_is)
    (case a4 => k_is)
    (case l4 => k_is)
    (case c4 => k_is)
    (case k4 => k_is)
    (case a5 => k_is)
    (case l5 => k_is)
    (case c5 => k_is)
    (case k5 => k_is)
    (case a6 => k_is)
    (case i6 => k_is)
    (case l6 => k_is)
    (case c6 => k_is)
    (case k6 => k_is)
    (case e6 => k_is)
    (case a7 => k_is)
    (case i7 => k_is)
    (case l7 => k_is)
    (case c7 => k_is)
    (case k7 => k_is)
    (case a8 => k_is)
    (case i8 => k_is)
    (case l8 => k_is)
    (case c8 => k_is)
    (case k8 => k_is)
    (case a9 => k_is)
    (case i9 => k_is)
    (case l9 => k_is)
    (case c9 => k_is)
    (case k9 => k_is)
    (case a10 => k_is)
    (case i10 => k_is)
    (case l10 => k_is)
    (case c10 => k_is)
    (case k10 => k_is)
    (case a11 => k_is)
    (case i11 => k_is)
    (case l11 => k_is)
    (case c11 => k_is)
    (case k11 => k_is)
    (case a12 => k_is)
    (case i12 => k_is)
    (case l12 => k_is)
    (case c12 => k_is)
    (case k12 => k_is)
    (case a13 => k_is)
    (case i13 => k_is)
    (case l13 => k_is)
    (case c13 => k_is)
    (case k13 => k_is)
    (case a14 => k_is)
    (case i14 => k_is)
    (case l14 => k_is)
    (case c14 => k_is)
    (case k14 => k_is)
    (case a15 => k_is)
    (case l15 => k_is)
    (case c15 => k_is)
    (case k15 => k_is)
    (case a16 => k_is)
    (case l16 => k_is)
    (case c16 => k_is)
    (case k16 => k_is)
    (case a17 => k_is)
    (case i17 => k_is)
    (case l17 => k_is)
    (case c17 => k_is)
    (case k17 => k_is)
    (case a18 => k_is)
    (case i18 => k_is)
    (case l18 => k_is)
    (case c18 => k_is)
    (case k18 => k_is)
    (case a19 => k_is)
    (case i19 => k_is)
    (case l19 => k_is)
    (case c19 => k_is)
    (case k19 => k_is)
    (case a20 => k_is)
    (case i20 => k_is)
    (case l20 => k_is)
    (case c20 => k_is)
    (case k20 => k_is)
    (case a21 => k_is)
    (case i21 => k_is)
    (case l21 => k_is)
    (case c21 => k_is)
    (case k21 => k_is)
    (case a22 => k_is)
    (case l22 => k_is)
    (case c22 => k_is)
    (case k22 => k_is)
    (case a23 => k_is)
    (case l23 => k_is)
    (case c23 => k_is)
    (case k23 => k_is)
    (case a24 => k_is)
    (case l24 => k_is)
    (case c24 => k_is)
    (case k24 => k_is)
    (case a25 => k_is)
    (case l25 => k_is)
    (case c25 => k_is)
    (case k25 => k_is)
    (case a26 => k_is)
    (case l26 => k_is)
    (case c26 => k_is)
    (case k26 => k_is)
    (case a27 => k_is)
    (case l27 => k_is)
    (case c27 => k_is)
    (case k27 => k_is)
    (case a28 => k_is)
    (case l28 => k_is)
    (case c28 => k_is)
    (case k28 => k_is)
    (case a29 => k_is)
    (case l29 => k_is)
    (case c29 => k_is)
    (case k29 => k_is)
    (case a30 => k_is)
    (case l30 => k_is)
    (case c30 => k_is)
    (case k30 => k_is)
    (case a31 => k_is)
    (case l31 => k_is)
    (case c31 => k_is)
    (case k31 => k_is)
    (case a32 => k_is)
    (case l32 => k_is)
    (case c32 => k_is)
    (case k32 => k_is)
    (case a33 => k_is)
    (case l33 => k_is)
    (case c33 => k_is)
    (case k33 => k_is)
    (case a34 => k_is)
    (case l34 => k_is)
    (case c34 => k_is)
    (case k34 => k_is)
    (case a35 => k_is)
    (case l35 => k_is)
    (case c35 => k_is)
    (case k35 => k_is)
    (case a36 => k_is)
    (case l36 => k_is)
    (case c36 => k_is)
    (case k36 => k_is)
    (case a37 => k_is)
    (case l37 => k_is)
    (case c37 => k_is)
    (case k37 => k_is)
    (case a38 => k_is)
    (case l38 => k_is)
    (case c38 => k_is)
    (case k38 => k_is)
    (case a39 => k_is)
    (case l39 => k_is)
    (case c39 => k_is)
    (case k39 => k_is)
    (case a40 => k_is)
    (case l40 => k_is)
    (case c40 => k_is)
    (case k40 => k_is)
    (case a41 => k_is)
    (case l41 => k_is)
    (case c41 => k_is)
    (case k41 => k_is)
    (case a42 => k_is)
    (case l42 => k_is)
    (case c42 => k_is)
    (case k42 => k_is)
    (case a43 => k_is)
    (case l43 => k_is)
    (case c43 => k_is)
    (case k43 => k_is)
    (case a44 => k_is)
    (case l44 => k_is)
    (case c44 => k_is)
    (case k44 => k_is)
    (case a45 => k_is)
    (case l45 => k_is)
    (case c45 => k_is)
    (case k45 => k_is)
    (case wpg_Lines => k_is)
    (case whd_Lines => k_is)
    (case wpo_Lines => k_is)
    (case wsa_Lines => k_is)
    (case wmk_Lines => k_is)
    (case wkc_Lines => k_is)
    (case wca_Lines => k_is)
    (case wmo_Lines => k_is)
    (case wnt_Lines => k_is)
    (case wst_Lines => k_is)
    (case wna_Lines_texts => k_is)
    (case wna_Lines_now => k_is)
    (case wpg_Orders => k_is)
    (case whd_Orders => k_is)
    (case wpo_Orders => k_is)
    (case wsa_Orders => k_is)
    (case wmk_Orders => k_is)
    (case wkc_Orders => k_is)
    (case wca_Orders => k_is)
    (case wmo_Orders => k_is)
    (case wnt_Orders => k_is)
    (case wst_Orders => k_is)
    (case wna_Orders_lines => k_is)
    (case z_abs => k_is)
    (case z_bool => k_is)
    (case z_enumerate => k_is)
    (case z_int => k_is)
    (case z_isinstance => k_is)
    (case z_iter => k_is)
    (case z_len => k_is)
    (case z_list => k_is)
    (case z_range => k_is)
    (case z_repr => k_is)
    (case z_str => k_is)
    (case z_sum => k_is)
    (case z_tuple => k_is)
    (case v_SIGNS => k_is)
    (case v_MARK_SIGNS => k_is)
    (case v_MOST_LEVELS => k_is)
    (case v_DIGITS => k_is)
    (case v_MOST_LINES => k_is)
    (case l_WORDS => k_is)
    (case xl_BadLine => k_is)
    (case xr_BadLine => first | rfl | k_is | decide +kernel)
    (case xsa_BadLine => k_is)
    (case xga_BadLine => k_is)
    (case xgg_BadLine => k_is)
    (case xnf_BadLine_line => k_is)
    (case xnf_BadLine_word => k_is)
    (case xi_BadLine => k_is)
    (case xt_BadLine => k_is)
    (case xf_BadLine => k_is)
    (case xc_BadLine => k_is)
    (case xkf_BadLine => k_is)
    (case xk_BadLine => k_is)
    (case xe_BadLine => k_is)
    (case xty_BadLine => k_is)
    (case xhd_BadLine => k_is)
    (case xis_BadLine => k_is)
    (case xca_BadLine => k_is)
    (case xm_BadLine => k_is)
    (case xl_BadOrder => k_is)
    (case xr_BadOrder => first | rfl | k_is | decide +kernel)
    (case xsa_BadOrder => k_is)
    (case xga_BadOrder => k_is)
    (case xgg_BadOrder => k_is)
    (case xnf_BadOrder_number => k_is)
    (case xi_BadOrder => k_is)
    (case xt_BadOrder => k_is)
    (case xf_BadOrder => k_is)
    (case xc_BadOrder => k_is)
    (case xkf_BadOrder => k_is)
    (case xk_BadOrder => k_is)
    (case xe_BadOrder => k_is)
    (case xty_BadOrder => k_is)
    (case xhd_BadOrder => k_is)
    (case xis_BadOrder => k_is)
    (case xca_BadOrder => k_is)
    (case xm_BadOrder => k_is)
    (case xl_NoLine => k_is)
    (case xr_NoLine => first | rfl | k_is | decide +kernel)
    (case xsa_NoLine => k_is)
    (case xga_NoLine => k_is)
    (case xgg_NoLine => k_is)
    (case xnf_NoLine_number => k_is)
    (case xi_NoLine => k_is)
    (case xt_NoLine => k_is)
    (case xf_NoLine => k_is)
    (case xc_NoLine => k_is)
    (case xkf_NoLine => k_is)
    (case xk_NoLine => k_is)
    (case xe_NoLine => k_is)
    (case xty_NoLine => k_is)
    (case xhd_NoLine => k_is)
    (case xis_NoLine => k_is)
    (case xca_NoLine => k_is)
    (case xm_NoLine => k_is)
    (case xsp => k_is)
    (case xtk => k_is)
    (case qi_BadLine => k_is)
    (case qt_BadLine => k_is)
    (case qs_BadLine => k_is)
    (case qb_BadLine => k_is)
    (case qi_BadOrder => k_is)
    (case qt_BadOrder => k_is)
    (case qs_BadOrder => k_is)
    (case qb_BadOrder => k_is)
    (case qi_GlimError => k_is)
    (case qt_GlimError => k_is)
    (case qs_GlimError => k_is)
    (case qb_GlimError => k_is)
    (case qi_Orders => k_is)
    (case qt_Orders => k_is)
    (case qs_Orders => k_is)
    (case y_BadLine_BadLine => k_is)
    (case y_BadLine_BadOrder => k_is)
    (case y_BadOrder_BadLine => k_is)
    (case y_BadOrder_BadOrder => k_is)
    (case y_Orders_Orders => k_is)
    (case y_tuple_Orders => k_is)
    (case x_BadLine_GlimError => k_is)
    (case x_BadOrder_GlimError => k_is)
