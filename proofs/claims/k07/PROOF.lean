import PyProof.Rows.All
import Wide.All
import OpenK.AllK
import Wide.FinOn
import HandS.ForMost
import HandS.Exc
import HandS.ExcOwn
import HandS.WordsExc
import HandS.TryOnly
import HandS.ExcInit
import HandS.ExcField
import HandS.ExcIs
import HandS.IsInst
import HandS.TryMany
import HandS.Wide
import HandS.Steps
import HandS.TupAny
import HandS.Walk
import HandS.Evl
import KE.GoesEnum
import KE.KExcIs
import HandS.Conv
import PySem.Challenge.RW_falseglim_k07_rounds_for_ever
set_option Elab.async false
set_option linter.all false
set_option maxRecDepth 100000
set_option maxHeartbeats 4000000
/-! Rules that ask nothing of the kinds: one rule for each sign of Python, its reading told by the values. -/
namespace Fg
open PySem PySem.Spec PyProof.Rows L2

/-- a text by its signs -/
def S (l : List Nat) : V := .str ⟨l.toArray⟩
theorem S_inj {l m : List Nat} : S l = S m ↔ l = m := by
  constructor
  · intro h
    have h1 := V.str.inj h
    have h2 := congrArg PySem.Str.cps h1
    exact List.toArray_inj h2
  · rintro rfl; rfl
theorem S_dec {l m : List Nat} : decide (S l = S m) = decide (l = m) := by
  rw [Bool.eq_iff_iff]; simp [S_inj]
theorem str_len (l : List Nat) : (⟨l.toArray⟩ : Str).length = l.length := by
  show l.toArray.size = l.length
  simp
theorem pe_S {X : Cx} {x : Str} {j : Nat} {pos : Pos} (l : List Nat) (h : x = ⟨l.toArray⟩ := by decide +kernel) : PE X (.Constant (.str x) j pos) (tC (S l)) := by
  subst h
  exact pe_str

/-! ### either of two readings -/
def or2 (r r' : R2) : R2 := fun x y H Q => r x y H Q ∨ r' x y H Q
theorem or2_op {X : Cx} {f : Value → Value → Sem Value} {r r' : R2} (h : OpR X f r) (h' : OpR X f r') : OpR X f (or2 r r') := by
  intro pins s σ H x y v u Q I rx ry q
  rcases q with q | q
  · exact h pins s σ H x y v u Q I rx ry q
  · exact h' pins s σ H x y v u Q I rx ry q
theorem or2_ix {X : Cx} {r r' : R2} (h : IxR X r) (h' : IxR X r') : IxR X (or2 r r') := by
  intro value slice pins s σ H x y v u Q I rx ry q hs
  rcases q with q | q
  · exact h value slice pins s σ H x y v u Q I rx ry q hs
  · exact h' value slice pins s σ H x y v u Q I rx ry q hs
abbrev RC := List V → Hp → VK → Prop
def orC (r r' : RC) : RC := fun xs H Q => r xs H Q ∨ r' xs H Q
theorem orC_call {X : Cx} {f : Value} {r r' : RC} (h : CallR X f r) (h' : CallR X f r') : CallR X f (orC r r') := by
  intro pins s σ H xs us Q I rx q
  rcases q with q | q
  · exact h pins s σ H xs us Q I rx q
  · exact h' pins s σ H xs us Q I rx q
abbrev RS := V → Option Int → Option Int → Hp → VK → Prop
def orS (r r' : RS) : RS := fun x lo hi H Q => r x lo hi H Q ∨ r' x lo hi H Q
theorem orS_sl {X : Cx} {r r' : RS} (h : SlR X r) (h' : SlR X r') : SlR X (orS r r') := by
  intro pins s σ H x v vl vu lo hi sl Q I rx hs pl pu q
  rcases q with q | q
  · exact h pins s σ H x v vl vu lo hi sl Q I rx hs pl pu q
  · exact h' pins s σ H x v vl vu lo hi sl Q I rx hs pl pu q

/-! ### + - * // % ** -/
def rAddI : R2 := rI0 fun i j => .int (i + j)
def rAddT : R2 := fun x y H Q => ∃ i j, x = .str i ∧ y = .str j ∧ i.length + j.length ≤ sizeLine ∧ Q (.str (i ++ j)) H
def addP (K : PySem.W.Frag) : R2 := or2 rAddI (or2 rAddT (or2 rCat (rCatA K)))
theorem op_addP {X : Cx} : OpR X (binaryOp .Add) (addP X.K) := or2_op op_add (or2_op op_add_str (or2_op op_cat op_catA))
def subP : R2 := rI0 fun i j => .int (i - j)
theorem op_subP {X : Cx} : OpR X (binaryOp .Sub) subP := op_sub
/-- a text so many times -/
def rRepS : R2 := fun x y H Q => ∃ (l : List Nat) (n : Nat), x = S l ∧ y = .int (n : Int) ∧ l.length * n ≤ 100000 ∧ n ≤ 100000 ∧ Q (S (List.replicate n l).flatten) H
theorem foldl_app (l : List Nat) : ∀ (n : Nat) (acc : List Nat), (List.replicate n l.toArray).foldl (· ++ ·) acc.toArray = (acc ++ (List.replicate n l).flatten).toArray
  | 0, acc => by simp
  | n + 1, acc => by
    rw [List.replicate_succ, List.foldl_cons, List.append_toArray, foldl_app l n (acc ++ l), List.replicate_succ, List.flatten_cons, List.append_assoc]
theorem op_repS {X : Cx} : OpR X (binaryOp .Mult) rRepS := by
  intro pins s σ H x y v u Q I rx ry h
  obtain ⟨l, n, rfl, rfl, hz, hn, q⟩ := h
  obtain ⟨t, rfl⟩ := rx
  obtain ⟨t', rfl⟩ := ry
  have hl := str_len l
  have hs : sizeLine = 16777216 := sizeLine_eq
  refine PySem.P.mul_str ?_ (fun h1 h2 => ?_) (fun h1 h2 => ?_) ?_
  · rw [decide_eq_false (by omega), decide_eq_false (by omega)]; rfl
  · rw [hl]
    have hn0 : (0 : Int) < (n : Int) := by omega
    have : ((l.length : Int)) ≤ (2 ^ 63 - 1) / (n : Int) := by
      rw [Int.le_ediv_iff_mul_le hn0]
      have : ((l.length * n : Nat) : Int) ≤ 100000 := by omega
      rw [Int.natCast_mul] at this
      omega
    omega
  · rw [hl, Int.toNat_natCast]
    unfold PySem.Builtin.Str.tooLong
    rw [decide_eq_false]
    omega
  · by_cases h1 : (n : Int) < 1
    · rw [if_pos h1]
      have e : n = 0 := by omega
      subst e
      exact ⟨by decide, S [], H, I.tok _, ⟨_, rfl⟩, by simpa using q⟩
    · rw [if_neg h1]
      by_cases h2 : ((n : Int) == 1 || (⟨l.toArray⟩ : Str).length == 0) = true
      · rw [if_pos h2]
        have e : (List.replicate n l).flatten = l := by
          rw [hl, Bool.or_eq_true, beq_iff_eq, beq_iff_eq] at h2
          rcases h2 with h2 | h2
          · have e : n = 1 := by omega
            subst e; simp
          · have e : l = [] := List.length_eq_zero_iff.mp h2
            subst e; simp
        rw [e] at q
        exact ⟨S l, H, I, ⟨_, rfl⟩, q⟩
      · rw [if_neg h2]
        have e : (⟨(List.replicate ((n : Int)).toNat l.toArray).foldl (· ++ ·) #[]⟩ : Str) = ⟨((List.replicate n l).flatten).toArray⟩ := by
          rw [Int.toNat_natCast]
          have := foldl_app l n []
          simpa using this
        refine ⟨?_, S (List.replicate n l).flatten, H, I.tok _, ⟨_, by rw [e]⟩, q⟩
        rw [e, str_len]
        simp only [List.length_flatten, List.map_replicate, List.sum_replicate_nat]
        rw [Nat.mul_comm]
        omega
def rMulI : R2 := rI (fun i j => IntMulOk i j) fun i j => .int (i * j)
theorem op_mulI {X : Cx} : OpR X (binaryOp .Mult) rMulI := opI fun _ _ _ _ _ _ _ hc q => mul_int q hc
def mulP : R2 := or2 rMulI (or2 rRepS rRep)
theorem op_mulP {X : Cx} : OpR X (binaryOp .Mult) mulP := or2_op op_mulI (or2_op op_repS op_rep)
def modP : R2 := rI (fun _ j => 0 < j) fun i j => .int (i % j)
theorem op_modP {X : Cx} : OpR X (binaryOp .Mod) modP := op_mod
def fdivP : R2 := rI CDivW fun i j => .int (i / j)
theorem op_fdivP {X : Cx} : OpR X (binaryOp .FloorDiv) fdivP := op_fdivW
/-- i ** j, the result below some hundred million bits -/
def powP : R2 := rI (fun i j => 0 ≤ j ∧ (Builtin.Int.intBits i : Int) * j ≤ 2 ^ 27) fun i j => .int (i ^ j.toNat)
theorem op_powP {X : Cx} : OpR X (binaryOp .Pow) powP := opI fun _ _ _ _ _ _ _ hc q => pow_int hc.1 hc.2 q
/-! ### comparisons -/
def eqP (K : PySem.W.Frag) : R2 := or2 rEq (rEqD K)
theorem op_eqP {X : Cx} (hu : X.A.units + 64 < cLine) : OpR X (compareOp .Eq) (eqP X.K) := or2_op op_eq (op_eqD hu)
def neP (K : PySem.W.Frag) : R2 := or2 rNe (rNeD K)
theorem op_neP {X : Cx} (hu : X.A.units + 64 < cLine) : OpR X (compareOp .NotEq) (neP X.K) := or2_op op_ne (op_neD hu)
def ltP : R2 := or2 (rI0 fun i j => .bl (decide (i < j))) fun x y H Q => ∃ i j, x = .str i ∧ y = .str j ∧ Q (.bl (decide (i.cps.toList < j.cps.toList))) H
theorem op_ltP {X : Cx} : OpR X (compareOp .Lt) ltP := or2_op op_lt op_lt_str
def leP : R2 := rI0 fun i j => .bl (decide (i ≤ j))
theorem op_leP {X : Cx} : OpR X (compareOp .LtE) leP := op_le
def gtP : R2 := rI0 fun i j => .bl (decide (j < i))
theorem op_gtP {X : Cx} : OpR X (compareOp .Gt) gtP := op_gt
def geP : R2 := rI0 fun i j => .bl (decide (j ≤ i))
theorem op_geP {X : Cx} : OpR X (compareOp .GtE) geP := op_ge
def isP : R2 := fun x y H Q => y = .non ∧ Q (.bl (decide (x = .non))) H
theorem op_isP {X : Cx} : OpR X (compareOp .Is) isP := op_isN
def isNotP : R2 := fun x y H Q => y = .non ∧ Q (.bl (!decide (x = .non))) H
theorem op_isNotP {X : Cx} : OpR X (compareOp .IsNot) isNotP := op_notN
def rInSg : R2 := fun x y H Q => ∃ (c : Nat) (z : Str), x = .str ⟨#[c]⟩ ∧ y = .str z ∧ Q (.bl (decide (c ∈ z.cps.toList))) H
def rNotInSg : R2 := fun x y H Q => ∃ (c : Nat) (z : Str), x = .str ⟨#[c]⟩ ∧ y = .str z ∧ Q (.bl (!decide (c ∈ z.cps.toList))) H
def inP (K : PySem.W.Frag) : R2 := or2 rInSg (rIn K false)
theorem op_inP {X : Cx} : OpR X (compareOp .In) (inP X.K) := or2_op op_in_sign op_in_seq
def notInP (K : PySem.W.Frag) : R2 := or2 rNotInSg (rIn K true)
theorem op_notInP {X : Cx} : OpR X (compareOp .NotIn) (notInP X.K) := or2_op op_notIn_sign op_notIn_seq
/-! ### subscripts, slices -/
def ixP (K : PySem.W.Frag) : R2 := or2 (rIxL K) (or2 (rIxT K) rIxS)
theorem ix_P {X : Cx} : IxR X (ixP X.K) := or2_ix ix_list (or2_ix ix_tup ix_str)
def slP (K : PySem.W.Frag) : RS := orS (rSlL K) (orS (rSlA K) rSlS)
theorem sl_P {X : Cx} : SlR X (slP X.K) := orS_sl sl_list (orS_sl sl_tupA sl_str)
/-! ### what is walked -/
def iAny (K : PySem.W.Frag) (te : TE) : TI := fun σ H R => te σ H fun x H1 => (∃ a xs, x = .ref a ∧ SqL K H1 a xs ∧ R (Itl K a) H1) ∨ (∃ a xs, x = .ref a ∧ SqT K H1 a xs ∧ R (Itt K a) H1) ∨ (∃ z, x = .str z ∧ R (Its z) H1)
section
variable {X : Cx} {tg e : Expr} {te : TE}
theorem pi_any (he : PE X e te) : PI X tg e (iAny X.K te) := by
  refine ⟨fun pins s σ H R I h => thn (he.run pins s σ H _ I h) fun v s1 ⟨x, H1, J, r1, q1⟩ => ?_⟩
  rcases q1 with ⟨a, xs, rfl, hq, q⟩ | ⟨a, xs, rfl, hq, q⟩ | ⟨z, rfl, q⟩
  · cases r1
    obtain ⟨its, rv, pl, hz⟩ := J.list hq
    exact wpAny_pyIter_list pl.isList (pi_one (tk := s1.toks) J _ (turn_list a _) ⟨_, Heap.get?_push_size _ rfl, rfl, rfl⟩ q)
  · cases r1
    obtain ⟨its, rv, pl, hz⟩ := J.tuple hq
    exact wpAny_pyIter_tuple (show s1.heap.IsTuple a its.toArray from pl) (pi_one (tk := s1.toks) J _ (turn_tuple a _) ⟨_, Heap.get?_push_size _ rfl, rfl, rfl⟩ q)
  · obtain ⟨t, rfl⟩ := r1
    cases hw : z.cps.all (· < 128)
    · exact wpAny_pyIter_wide hw (pi_one (tk := s1.toks) J _ (turn_str _ z t "str_iterator" (.inr rfl)) ⟨_, Heap.get?_push_size _ rfl, rfl, rfl⟩ q)
    · exact wpAny_pyIter_ascii hw (pi_one (tk := s1.toks) J _ (turn_str _ z t "str_ascii_iterator" (.inl rfl)) ⟨_, Heap.get?_push_size _ rfl, rfl, rfl⟩ q)
end
/-! ### enumerate(a text) -/
/-- the signs of z, each in a new pair with its place -/
def Ites (z : Str) : It :=
  ⟨fun i _ => i < z.cps.size, fun i H v H' => ∃ T c, v = .ref T ∧ H T = none ∧ H' = upd H T (.tup [.int (i : Nat), .str ⟨#[c]⟩]) ∧ z.cps[i]? = some c, fun i _ => i = z.cps.size⟩
theorem turn_enumS {P : Program} {w : World} {K : PySem.W.Frag} {elts : List Expr} {kk : Nat} {tpos : Pos} (z : Str) (t : Tok) (e it : Addr) :
    Turn P w K (.Tuple elts kk tpos) (Ites z) [e, it] e (fun i h => (∃ old, IsEnum h e it ((i : Nat) : Int) old) ∧ h.IsStrIter it (strIterType z) z t i ∧ e ≠ it) where
  mem := List.mem_cons_self ..
  obj := fun i h st b hb => by
    obtain ⟨⟨old, hE⟩, ⟨o, hO, hC, hD⟩, _⟩ := st
    rcases List.mem_cons.mp hb with rfl | hb
    · exact ⟨_, hE, fun v q => nomatch q⟩
    · rw [List.mem_singleton.mp hb]
      exact ⟨o, hO, fun v q => by rw [hD] at q; cases q⟩
  keep := fun i h h' st k => by
    obtain ⟨⟨old, hE⟩, ⟨o, hO, r⟩, hne⟩ := st
    exact ⟨⟨old, k e (by simp) _ hE⟩, ⟨o, k it (by simp) _ hO, r⟩, hne⟩
  item := by
    intro X hP hW hK hc i pins s σ H E I hf st hg
    subst hP hW hK
    obtain ⟨⟨old, hE⟩, hS, hne⟩ := st
    have le : e < s.heap.objs.size := Heap.lt_size hE
    have li : it < s.heap.objs.size := by obtain ⟨_, q, _⟩ := hS; exact Heap.lt_size q
    have D := Draws.text (prog := X.prog) (w := X.w) (A := X.A.in1) (I.ok.hd hc) it z t
    refine wpAny_pyNext_enum_itemC D hE hS hg hne (by simp [hne]) fun x h' tk hx hO hS' hT hsz hk => ?_
    obtain ⟨c, u, hcx, rfl⟩ := hx
    refine ⟨_, rfl, wpAny_letOwnedTupleGo_enum (s := { s with heap := h', toks := tk + 1 }) hO fun h2 hE2 sb => ?_⟩
    have T2 : h2.get? s.heap.objs.size = some { cls := .type "tuple", data := .seq #[.int i tk, .str ⟨#[c]⟩ u] } := (sb.2 _ (Nat.ne_of_gt le)).trans hT
    have new : ObjOk X.prog X.w (upd H s.heap.objs.size (.tup [.int (i : Nat), .str ⟨#[c]⟩])) h2 s.heap.objs.size (.tup [.int (i : Nat), .str ⟨#[c]⟩]) :=
      ⟨by show 2 ≤ sizeLine; decide, [.int i tk, .str ⟨#[c]⟩ u], .cons ⟨_, rfl⟩ (.cons ⟨_, rfl⟩ .nil), ⟨_, T2, rfl, _, rfl⟩⟩
    have J : Inv X pins σ (upd H s.heap.objs.size (.tup [.int (i : Nat), .str ⟨#[c]⟩])) { s with heap := h2, toks := tk + 1 } :=
      I.turnedNew (ch := [e, it]) (fun b ob hb q => (sb.2 b (fun y => hb (by simp [y]))).trans (hk b ob (fun y => hb (by simp [y])) (fun y => hb (by simp [y])) q)) hf (Nat.le_refl _) new
    refine ⟨.ref s.heap.objs.size, _, J, rfl, ⟨_, c, rfl, I.hok.fresh (Nat.le_refl _), rfl, hcx⟩, ⟨⟨.str ⟨#[c]⟩ u, ?_⟩, ?_, hne⟩, fun b hb => ?_⟩
    · have e1 : ((i + 1 : Nat) : Int) = (i : Int) + 1 := by omega
      rw [e1]
      exact hE2
    · obtain ⟨o, ho, r⟩ := hS'
      exact ⟨o, (sb.2 it (Ne.symm hne)).trans ho, r⟩
    · have lb : b < s.heap.objs.size := by
        rcases List.mem_cons.mp hb with rfl | hb
        · exact le
        · rw [List.mem_singleton.mp hb]; exact li
      rw [upd_ne (Nat.ne_of_lt lb)]
      exact (hf b hb).1
  done := by
    intro X hP hW hK hc i pins s σ H E I hf st hg
    subst hP hW hK
    obtain ⟨⟨old, hE⟩, hS, hne⟩ := st
    obtain ⟨f0, f1, f2, f3, f4, f5⟩ := hf it (by simp)
    have D := Draws.text (prog := X.prog) (w := X.w) (A := X.A.in1) (I.ok.hd hc) it z t
    have hg' : i = z.cps.size := hg
    subst hg'
    exact wpAny_pyNext_enum_endD D hE hS fun h' eb => ⟨rfl, I.turned (t' := s.toks) (fun b o hb q => eb b o hb q) f0 f1 f3 f4 f5⟩
  self := fun A i s Q E st h => by
    obtain ⟨⟨_, hE⟩, _⟩ := st
    exact wpAny_pyIter_enum hE h
def iEnumP (K : PySem.W.Frag) (ta : TA) : TI := fun σ H R => ta σ H fun vs H1 => (∃ a xs, vs = [.ref a] ∧ SqL K H1 a xs ∧ R (Ite K a) H1) ∨ (∃ z, vs = [.str z] ∧ R (Ites z) H1)
theorem pi_enumP {X : Cx} {e : Expr} {ta : TA} {p pos tpos : Pos} {elts : List Expr} {kk : Nat} (hg : Gl X "enumerate") (hm : X.mg "enumerate" = none) (ha : PA X [e] ta) (hs : starEach [e] X.env = [(false, eval e X.env)] := by rfl) :
    PI X (.Tuple elts kk tpos) (.Call (.Name "enumerate" p) [e] [] pos) (iEnumP X.K ta) := by
  refine ⟨fun pins s σ H R I h => Call_ (ld_blt I hg hm boot_enumerate (PyProof.Rows.callWith_type1 (thn (ha.run pos pins s σ H _ I h) fun us s1 ⟨vs, H1, J, r1, q1⟩ => ?_) hs rfl))⟩
  have far : ∀ b ∈ [s1.heap.objs.size + 1, s1.heap.objs.size], s1.heap.objs.size ≤ b := fun b hb => by
    rcases List.mem_cons.mp hb with rfl | hb
    · exact Nat.le_succ _
    · rw [List.mem_singleton.mp hb]; exact Nat.le_refl _
  rcases q1 with ⟨a, xs, rfl, hq, q⟩ | ⟨z, rfl, q⟩
  · cases r1 with
    | cons r rr =>
      cases rr
      cases r
      obtain ⟨its, rv, pl, hz⟩ := J.list hq
      refine call_enumerate_list pl.isList fun h' hE hit hsz hk => wpAny_pyIter_enum hE ?_
      have J2 : Inv X pins σ H1 { s1 with heap := h' } := J.kept (t' := s1.toks) hk
      exact ⟨_, _, _, _, H1, rfl, J2, turn_enum a (s1.heap.objs.size + 1) s1.heap.objs.size, ⟨⟨.none, hE⟩, hit, Nat.succ_ne_self _⟩, fun b hb => J.fpOk (far b hb) (J.hok.fresh (far b hb)), q⟩
  · cases r1 with
    | cons r rr =>
      cases rr
      obtain ⟨t, rfl⟩ := r
      refine call_enumerate_str fun h' hE hit hsz hk => wpAny_pyIter_enum hE ?_
      have J2 : Inv X pins σ H1 { s1 with heap := h' } := J.kept (t' := s1.toks) hk
      exact ⟨_, _, _, _, H1, rfl, J2, turn_enumS z t (s1.heap.objs.size + 1) s1.heap.objs.size, ⟨⟨.none, hE⟩, hit, Nat.succ_ne_self _⟩, fun b hb => J.fpOk (far b hb) (J.hok.fresh (far b hb)), q⟩
end Fg
/-! Steps: what a reading asks, one sign of Python at a time. -/
namespace Fg
open PySem PySem.Spec PyProof.Rows L2
section
variable {K : PySem.W.Frag} {σ : L2.St} {H : Hp} {Q : VK} {D : Ends} {ta tb tc te : TE} {t u : TT} {i j : Nat} {v x y : V} {tr tq : TS} {QB : Bool → Hp → Prop} {QL : List V → Hp → Prop} {Qs : L2.St → Hp → Prop} {tl : TA}
theorem i_var (h : σ[i]? = some (some v)) (q : Q v H) : tVar i σ H Q := ⟨v, h, q⟩
theorem i_c (q : Q v H) : tC v σ H Q := q
theorem i_seq (q : tr { D with nx := tq D } σ H) : tSeq tr tq D σ H := q
theorem i_next (q : D.nx σ H) : tNext D σ H := q
theorem i_brk (q : D.bk σ H) : tBreak D σ H := q
theorem i_cont (q : D.ct σ H) : tCont D σ H := q
theorem i_asg {g : TG} (q : te σ H fun x H1 => g x σ H1 D.nx) : tAsg te g D σ H := q
theorem i_gname (q : Qs (σ.set i (some v)) H) : gName i v σ H Qs := q
theorem i_gname' {σ' : L2.St} (e : σ.set i (some v) = σ') (q : Qs σ' H) : gName i v σ H Qs := by
  subst e; exact q
theorem i_ret (q : te σ H D.rt) : tRet te D σ H := q
theorem i_retN (q : D.rt .non H) : tRetN D σ H := q
theorem i_drop (q : te σ H fun _ H1 => D.nx σ H1) : tDrop te D σ H := q
theorem i_ifS (q : t σ H fun b H1 => if b = true then tr D σ H1 else tq D σ H1) : tIfS t tr tq D σ H := q
theorem i_test (q : te σ H fun x H' => ∃ k, x = .bl k ∧ QB k H') : tTest te σ H QB := q
theorem i_B (q : te σ H fun x H' => ∃ k, x = .bl k ∧ QB k H') : tB te σ H QB := q
theorem i_exbl {P : Bool → Prop} {b : Bool} (q : P b) : ∃ k, V.bl b = .bl k ∧ P k := ⟨b, rfl, q⟩
theorem i_and (q : t σ H fun c H1 => if c = true then u σ H1 QB else QB false H1) : tAnd t u σ H QB := q
theorem i_or (q : t σ H fun c H1 => if c = true then QB true H1 else u σ H1 QB) : tOr t u σ H QB := q
theorem i_not (q : t σ H fun c H1 => QB (!c) H1) : tNot t σ H QB := q
theorem i_andV (q : ta σ H fun x H1 => ∃ c, x = .bl c ∧ if c = true then tb σ H1 Q else Q (.bl false) H1) : tAndV ta tb σ H Q := q
theorem i_orV (q : ta σ H fun x H1 => ∃ c, x = .bl c ∧ if c = true then Q (.bl true) H1 else tb σ H1 Q) : tOrV ta tb σ H Q := q
theorem i_notV (q : ta σ H fun x H1 => ∃ c, x = .bl c ∧ Q (.bl (!c)) H1) : tNotV ta σ H Q := q
theorem i_ifE (q : t σ H fun c H1 => if c = true then ta σ H1 Q else tb σ H1 Q) : tIf t ta tb σ H Q := q
theorem i_op {r : R2} (q : ta σ H fun x H1 => tb σ H1 fun y H2 => r x y H2 Q) : tOp r ta tb σ H Q := q
theorem i_un {r : V → Hp → VK → Prop} (q : ta σ H fun x H1 => r x H1 Q) : tUn r ta σ H Q := q
theorem i_neg {k : Int} (q : Q (.int (-k)) H) : rU (fun i => .int (-i)) (.int k) H Q := ⟨k, rfl, q⟩
theorem i_chain {r r' : R2} (q : ta σ H fun x H1 => tb σ H1 fun y H2 => r x y H2 fun z H3 => ∃ k, z = .bl k ∧ (if k = true then tc σ H3 fun w' H4 => r' y w' H4 Q else Q (.bl false) H3)) : tChain r r' ta tb tc σ H Q := q
theorem i_nil (q : QL [] H) : tNil σ H QL := q
theorem i_cons (q : te σ H fun x H1 => tl σ H1 fun xs H2 => QL (x :: xs) H2) : tCons te tl σ H QL := q
theorem i_call {sp : Sp} {E : XK} (q : tl σ H fun vs H1 => sp (vs ++ []) H1 Q E) : tCall sp [] E tl σ H Q := q
theorem i_callS {sp : Sp} {E : L2.St → XK} (q : tl σ H fun vs H1 => sp vs H1 Q (E σ)) : tCallS sp E tl σ H Q := q
theorem i_cb {r : RC} (q : tl σ H fun vs H1 => r vs H1 Q) : tCB r tl σ H Q := q
theorem i_tup (q : tl σ H fun xs H1 => xs.length ≤ sizeLine ∧ ∀ p, H1 p = none → Q (.ref p) (upd H1 p (.tup xs))) : tTup tl σ H Q := q
theorem i_lst (q : tl σ H fun xs H1 => xs.length ≤ sizeLine ∧ ∀ p, H1 p = none → Q (.ref p) (upd H1 p (.lst xs))) : tLst tl σ H Q := q
theorem i_new {n : Nat} {P : Addr → Prop} (h : n ≤ 100000) (q : ∀ p, H p = none → P p) : n ≤ sizeLine ∧ ∀ p, H p = none → P p := ⟨Nat.le_trans h (by decide), q⟩
theorem i_sl {r : RS} {t1 t2 : TO} (q : te σ H fun x H1 => t1 σ H1 fun l H2 => t2 σ H2 fun u H3 => r x l u H3 Q) : tSl r te t1 t2 σ H Q := q
theorem i_nopart {QO : Option Int → Hp → Prop} (q : QO none H) : tNoPart σ H QO := q
theorem i_part {QO : Option Int → Hp → Prop} (q : te σ H fun x H1 => ∃ i, x = .int i ∧ QO (some i) H1) : tPart te σ H QO := q
theorem i_exint {P : Int → Prop} {k : Int} (q : P k) : ∃ i, V.int k = .int i ∧ P i := ⟨k, rfl, q⟩
theorem i_dec {c : Prop} [Decidable c] {A B : Prop} (h1 : c → A) (h2 : ¬ c → B) : if decide c = true then A else B := by
  by_cases h : c
  · rw [decide_eq_true h, if_pos rfl]; exact h1 h
  · rw [decide_eq_false h, if_neg (by decide)]; exact h2 h
theorem i_decN {c : Prop} [Decidable c] {A B : Prop} (h1 : ¬ c → A) (h2 : c → B) : if (!decide c) = true then A else B := by
  by_cases h : c
  · rw [decide_eq_true h]; exact h2 h
  · rw [decide_eq_false h]; exact h1 h
theorem i_bool {b : Bool} {A B : Prop} (h1 : b = true → A) (h2 : b = false → B) : if b = true then A else B := by
  cases b with
  | true => exact h1 rfl
  | false => exact h2 rfl
theorem i_tt {A B : Prop} (h : A) : if true = true then A else B := h
theorem i_ff {A B : Prop} (h : B) : if false = true then A else B := h
theorem i_nott {A B : Prop} (h : B) : if (!true) = true then A else B := h
theorem i_notf {A B : Prop} (h : A) : if (!false) = true then A else B := h
/-! values -/
variable {a b : Int} {l m : List Nat}
theorem i_add_int (q : Q (.int (a + b)) H) : addP K (.int a) (.int b) H Q := .inl ⟨a, b, rfl, rfl, q⟩
theorem i_add_str (h : l.length + m.length ≤ 100000) (q : Q (S (l ++ m)) H) : addP K (S l) (S m) H Q := by
  refine .inr (.inl ⟨⟨l.toArray⟩, ⟨m.toArray⟩, rfl, rfl, ?_, ?_⟩)
  · rw [str_len, str_len]; exact Nat.le_trans h (by decide)
  · have e : (⟨l.toArray⟩ : Str) ++ ⟨m.toArray⟩ = ⟨(l ++ m).toArray⟩ := by
      show (⟨l.toArray ++ m.toArray⟩ : Str) = _
      rw [List.append_toArray]
    rw [e]; exact q
theorem i_sub (q : Q (.int (a - b)) H) : subP (.int a) (.int b) H Q := ⟨a, b, rfl, rfl, q⟩
theorem i_mul_int (h : IntMulOk a b) (q : Q (.int (a * b)) H) : mulP (.int a) (.int b) H Q := .inl ⟨a, b, rfl, rfl, h, q⟩
theorem i_mul_str {n : Nat} (h : l.length * n ≤ 100000 ∧ n ≤ 100000) (q : Q (S (List.replicate n l).flatten) H) : mulP (S l) (.int (n : Int)) H Q := .inr (.inl ⟨l, n, rfl, rfl, h.1, h.2, q⟩)
theorem i_mul_strI {k : Int} (h0 : 0 ≤ k) (h : l.length * k.toNat ≤ 100000 ∧ k.toNat ≤ 100000) (q : Q (S (List.replicate k.toNat l).flatten) H) : mulP (S l) (.int k) H Q := by
  obtain ⟨n, rfl⟩ : ∃ n : Nat, k = (n : Int) := ⟨k.toNat, by omega⟩
  rw [Int.toNat_natCast] at h q
  exact i_mul_str h q
theorem cdiv_small {a b : Int} (h : 0 < b) (h2 : b < 2 ^ 62) : CDivW a b := wide_div (b := 62) h (by omega) (by decide) (by decide)
theorem mul_small {a b : Int} (h : -(2 ^ 64) < a) (h2 : a < 2 ^ 64) : IntMulOk a b := CMul.ok (.inl ⟨h, h2⟩)
theorem mul_smallR {a b : Int} (h : -(2 ^ 64) < b) (h2 : b < 2 ^ 64) : IntMulOk a b := CMul.ok (.inr ⟨h, h2⟩)
theorem i_mod (h : 0 < b) (q : Q (.int (a % b)) H) : modP (.int a) (.int b) H Q := ⟨a, b, rfl, rfl, h, q⟩
theorem i_fdiv (h : CDivW a b) (q : Q (.int (a / b)) H) : fdivP (.int a) (.int b) H Q := ⟨a, b, rfl, rfl, h, q⟩
theorem i_pow (h : 0 ≤ b ∧ (Builtin.Int.intBits a : Int) * b ≤ 2 ^ 27) (q : Q (.int (a ^ b.toNat)) H) : powP (.int a) (.int b) H Q := ⟨a, b, rfl, rfl, h, q⟩
theorem i_eq_int (q : Q (.bl (decide (a = b))) H) : eqP K (.int a) (.int b) H Q := .inl ⟨rfl, by rw [dec_int, Bool.beq_eq_decide_eq]; exact q⟩
theorem i_eq_str (q : Q (.bl (decide (l = m))) H) : eqP K (S l) (S m) H Q := .inl ⟨rfl, by rw [S_dec]; exact q⟩
theorem i_ne_int (q : Q (.bl (!decide (a = b))) H) : neP K (.int a) (.int b) H Q := .inl ⟨rfl, by rw [dec_int, Bool.beq_eq_decide_eq]; exact q⟩
theorem i_ne_str (q : Q (.bl (!decide (l = m))) H) : neP K (S l) (S m) H Q := .inl ⟨rfl, by rw [S_dec]; exact q⟩
theorem i_eq_bl {b c : Bool} (q : Q (.bl (decide (b = c))) H) : eqP K (.bl b) (.bl c) H Q := .inl ⟨rfl, by rw [dec_bl, Bool.beq_eq_decide_eq]; exact q⟩
theorem i_ne_bl {b c : Bool} (q : Q (.bl (!decide (b = c))) H) : neP K (.bl b) (.bl c) H Q := .inl ⟨rfl, by rw [dec_bl, Bool.beq_eq_decide_eq]; exact q⟩
theorem i_lt (q : Q (.bl (decide (a < b))) H) : ltP (.int a) (.int b) H Q := .inl ⟨a, b, rfl, rfl, q⟩
theorem i_lt_str (q : Q (.bl (decide (l < m))) H) : ltP (S l) (S m) H Q := .inr ⟨_, _, rfl, rfl, by simpa using q⟩
theorem i_le (q : Q (.bl (decide (a ≤ b))) H) : leP (.int a) (.int b) H Q := ⟨a, b, rfl, rfl, q⟩
theorem i_gt (q : Q (.bl (decide (b < a))) H) : gtP (.int a) (.int b) H Q := ⟨a, b, rfl, rfl, q⟩
theorem i_ge (q : Q (.bl (decide (b ≤ a))) H) : geP (.int a) (.int b) H Q := ⟨a, b, rfl, rfl, q⟩
theorem i_is_non (q : Q (.bl true) H) : isP .non .non H Q := ⟨rfl, q⟩
theorem i_is_int (q : Q (.bl false) H) : isP (.int a) .non H Q := ⟨rfl, q⟩
theorem i_is_str (q : Q (.bl false) H) : isP (S l) .non H Q := ⟨rfl, q⟩
theorem i_is_ref {p : Addr} (q : Q (.bl false) H) : isP (.ref p) .non H Q := ⟨rfl, q⟩
theorem i_isn_non (q : Q (.bl false) H) : isNotP .non .non H Q := ⟨rfl, q⟩
theorem i_isn_int (q : Q (.bl true) H) : isNotP (.int a) .non H Q := ⟨rfl, q⟩
theorem i_isn_str (q : Q (.bl true) H) : isNotP (S l) .non H Q := ⟨rfl, q⟩
theorem i_isn_ref {p : Addr} (q : Q (.bl true) H) : isNotP (.ref p) .non H Q := ⟨rfl, q⟩
theorem i_in_sg {c : Nat} (q : Q (.bl (decide (c ∈ m))) H) : inP K (S [c]) (S m) H Q := .inl ⟨c, ⟨m.toArray⟩, rfl, rfl, by simpa using q⟩
theorem i_notIn_sg {c : Nat} (q : Q (.bl (!decide (c ∈ m))) H) : notInP K (S [c]) (S m) H Q := .inl ⟨c, ⟨m.toArray⟩, rfl, rfl, by simpa using q⟩
/-! subscripts -/
theorem atI_int {xs : List V} {z : Int} {v : V} (h0 : 0 ≤ z) (h : xs[z.toNat]? = some v) : atI xs z = some v := at_of (j := z.toNat) (by omega) h
theorem i_ix_lst {p : Addr} {xs : List V} {z : Int} {v : V} (hs : SqL K H p xs) (ha : atI xs z = some v) (q : Q v H) : ixP K (.ref p) (.int z) H Q := .inl ⟨p, xs, z, v, rfl, rfl, hs, ha, q⟩
theorem i_ix_tup {p : Addr} {xs : List V} {z : Int} {v : V} (hs : SqT K H p xs) (ha : atI xs z = some v) (q : Q v H) : ixP K (.ref p) (.int z) H Q := .inr (.inl ⟨p, xs, z, v, rfl, rfl, hs, ha, q⟩)
theorem i_ix_str {z : Int} {c : Nat} (hs : l.length ≤ 100000) (h0 : 0 ≤ z) (ha : l[z.toNat]? = some c) (q : Q (S [c]) H) : ixP K (S l) (.int z) H Q := by
  refine .inr (.inr ⟨⟨l.toArray⟩, z, c, rfl, rfl, ?_, ?_, q⟩)
  · rw [str_len]; exact Nat.le_trans hs (by decide)
  · have e : z = ((z.toNat : Nat) : Int) := by omega
    rw [e]
    exact atI_nat (by simpa using ha)
/-! slices -/
def cutN (l : List Nat) (lo hi : Option Int) : List Nat := (l.drop (HT.sIx l.length 0 lo)).take (HT.sIx l.length l.length hi - HT.sIx l.length 0 lo)
theorem i_sl_str {lo hi : Option Int} (hs : l.length ≤ 100000) (q : Q (S (cutN l lo hi)) H) : slP K (S l) lo hi H Q := by
  refine .inr (.inr ⟨⟨l.toArray⟩, rfl, ?_, ?_⟩)
  · rw [str_len]; exact Nat.le_trans hs (by decide)
  · have e : cutS ⟨l.toArray⟩ lo hi = ⟨(cutN l lo hi).toArray⟩ := by
      unfold cutS cutN
      rw [str_len]
    rw [e]; exact q
theorem cutN_to {l : List Nat} {k : Int} (h : 0 ≤ k) : cutN l none (some k) = l.take k.toNat := by
  unfold cutN
  have e : k = ((k.toNat : Nat) : Int) := by omega
  rw [e, HT.sIx_nat, HT.sIx_none, Nat.sub_zero, List.drop_zero, Int.toNat_natCast]
  by_cases hk : k.toNat ≤ l.length
  · rw [Nat.min_eq_left hk]
  · rw [Nat.min_eq_right (by omega), List.take_length, List.take_of_length_le (by omega)]
theorem cutN_from {l : List Nat} {k : Int} (h : 0 ≤ k) : cutN l (some k) none = l.drop k.toNat := by
  unfold cutN
  have e : k = ((k.toNat : Nat) : Int) := by omega
  rw [e, HT.sIx_nat, HT.sIx_none, Int.toNat_natCast]
  by_cases hk : k.toNat ≤ l.length
  · rw [Nat.min_eq_left hk]
    exact List.take_of_length_le (by rw [List.length_drop]; omega)
  · rw [Nat.min_eq_right (by omega), Nat.sub_self, List.take_zero, List.drop_of_length_le (by omega)]
theorem i_sl_to {k : Int} (hs : l.length ≤ 100000) (h0 : 0 ≤ k) (q : Q (S (l.take k.toNat)) H) : slP K (S l) none (some k) H Q := i_sl_str hs (by rw [cutN_to h0]; exact q)
theorem i_sl_from {k : Int} (hs : l.length ≤ 100000) (h0 : 0 ≤ k) (q : Q (S (l.drop k.toNat)) H) : slP K (S l) (some k) none H Q := i_sl_str hs (by rw [cutN_from h0]; exact q)
/-! calls of what is built in -/
def rLenP (K : PySem.W.Frag) : RC := fun xs H Q => ∃ x n, xs = [x] ∧ LenV K x H n ∧ Q (.int n) H
theorem call_lenP {X : Cx} : CallR X (.builtin "len") (rLenP X.K) := call_len
theorem i_len_str (hs : l.length ≤ 100000) (q : Q (.int (l.length : Int)) H) : rLenP K [S l] H Q := ⟨S l, l.length, rfl, ⟨by rw [str_len]; exact Nat.le_trans hs (by decide), (str_len l).symm⟩, q⟩
theorem i_len_lst {p : Addr} {xs : List V} (hs : SqL K H p xs) (q : Q (.int (xs.length : Int)) H) : rLenP K [.ref p] H Q := ⟨.ref p, xs.length, rfl, .inl ⟨xs, hs, rfl⟩, q⟩
theorem i_len_tup {p : Addr} {xs : List V} (hs : SqT K H p xs) (q : Q (.int (xs.length : Int)) H) : rLenP K [.ref p] H Q := ⟨.ref p, xs.length, rfl, .inr ⟨xs, hs, rfl⟩, q⟩
def rIntP : RC := fun xs H Q => (∃ i, xs = [.int i] ∧ Q (.int i) H) ∨ ∃ k, xs = [.bl k] ∧ Q (.int (if k then 1 else 0)) H
theorem call_intP {X : Cx} : CallR X (.type "int") rIntP := call_int1
theorem i_int_int (q : Q (.int a) H) : rIntP [.int a] H Q := .inl ⟨a, rfl, q⟩
def rAbsP : RC := fun xs H Q => ∃ i, xs = [.int i] ∧ Q (.int (if i < 0 then -i else i)) H
theorem call_absP {X : Cx} : CallR X (.builtin "abs") rAbsP := call_abs
theorem i_abs (q : Q (.int (if a < 0 then -a else a)) H) : rAbsP [.int a] H Q := ⟨a, rfl, q⟩
theorem i_sum {p : Addr} {ns : List Int} (hs : SqL K H p (ns.map V.int)) (q : Q (.int ns.sum) H) : rSum K [.ref p] H Q := ⟨p, ns, rfl, hs, q⟩
def rTupP (K : PySem.W.Frag) : RC := fun xs H Q => ∃ p ys, xs = [.ref p] ∧ ((SqL K H p ys ∧ ∀ l, H l = none → Q (.ref l) (upd H l (.tup ys))) ∨ (SqT K H p ys ∧ Q (.ref p) H))
theorem call_tupP {X : Cx} : CallR X (.type "tuple") (rTupP X.K) := call_tuple_of
theorem i_tuple_lst {p : Addr} {ys : List V} (hs : SqL K H p ys) (q : ∀ l, H l = none → Q (.ref l) (upd H l (.tup ys))) : rTupP K [.ref p] H Q := ⟨p, ys, rfl, .inl ⟨hs, q⟩⟩
theorem i_all {p : Addr} {bs : List Bool} (hs : SqL K H p (bs.map V.bl)) (q : Q (.bl (bs.all id)) H) : rAll K [.ref p] H Q := ⟨p, bs, rfl, hs, q⟩
theorem i_isi_non_int (q : Q (.bl false) H) : rIsi K [.non, .ty "int"] H Q := ⟨_, _, _, _, false, rfl, .ty _, .base .non, kit_ty (by decide +kernel), q⟩
theorem i_isi_non_bool (q : Q (.bl false) H) : rIsi K [.non, .ty "bool"] H Q := ⟨_, _, _, _, false, rfl, .ty _, .base .non, kit_ty (by decide +kernel), q⟩
theorem i_isi_non_str (q : Q (.bl false) H) : rIsi K [.non, .ty "str"] H Q := ⟨_, _, _, _, false, rfl, .ty _, .base .non, kit_ty (by decide +kernel), q⟩
theorem i_isi_non_tuple (q : Q (.bl false) H) : rIsi K [.non, .ty "tuple"] H Q := ⟨_, _, _, _, false, rfl, .ty _, .base .non, kit_ty (by decide +kernel), q⟩
theorem i_isi_non_list (q : Q (.bl false) H) : rIsi K [.non, .ty "list"] H Q := ⟨_, _, _, _, false, rfl, .ty _, .base .non, kit_ty (by decide +kernel), q⟩
theorem i_isi_bl_int {b : Bool} (q : Q (.bl true) H) : rIsi K [(.bl b), .ty "int"] H Q := ⟨_, _, _, _, true, rfl, .ty _, .base (.bl b), kit_ty (by decide +kernel), q⟩
theorem i_isi_bl_bool {b : Bool} (q : Q (.bl true) H) : rIsi K [(.bl b), .ty "bool"] H Q := ⟨_, _, _, _, true, rfl, .ty _, .base (.bl b), kit_ty (by decide +kernel), q⟩
theorem i_isi_bl_str {b : Bool} (q : Q (.bl false) H) : rIsi K [(.bl b), .ty "str"] H Q := ⟨_, _, _, _, false, rfl, .ty _, .base (.bl b), kit_ty (by decide +kernel), q⟩
theorem i_isi_bl_tuple {b : Bool} (q : Q (.bl false) H) : rIsi K [(.bl b), .ty "tuple"] H Q := ⟨_, _, _, _, false, rfl, .ty _, .base (.bl b), kit_ty (by decide +kernel), q⟩
theorem i_isi_bl_list {b : Bool} (q : Q (.bl false) H) : rIsi K [(.bl b), .ty "list"] H Q := ⟨_, _, _, _, false, rfl, .ty _, .base (.bl b), kit_ty (by decide +kernel), q⟩
theorem i_isi_int_int {i : Int} (q : Q (.bl true) H) : rIsi K [(.int i), .ty "int"] H Q := ⟨_, _, _, _, true, rfl, .ty _, .base (.int i), kit_ty (by decide +kernel), q⟩
theorem i_isi_int_bool {i : Int} (q : Q (.bl false) H) : rIsi K [(.int i), .ty "bool"] H Q := ⟨_, _, _, _, false, rfl, .ty _, .base (.int i), kit_ty (by decide +kernel), q⟩
theorem i_isi_int_str {i : Int} (q : Q (.bl false) H) : rIsi K [(.int i), .ty "str"] H Q := ⟨_, _, _, _, false, rfl, .ty _, .base (.int i), kit_ty (by decide +kernel), q⟩
theorem i_isi_int_tuple {i : Int} (q : Q (.bl false) H) : rIsi K [(.int i), .ty "tuple"] H Q := ⟨_, _, _, _, false, rfl, .ty _, .base (.int i), kit_ty (by decide +kernel), q⟩
theorem i_isi_int_list {i : Int} (q : Q (.bl false) H) : rIsi K [(.int i), .ty "list"] H Q := ⟨_, _, _, _, false, rfl, .ty _, .base (.int i), kit_ty (by decide +kernel), q⟩
theorem i_isi_str_int {l : List Nat} (q : Q (.bl false) H) : rIsi K [(S l), .ty "int"] H Q := ⟨_, _, _, _, false, rfl, .ty _, .base (.str _), kit_ty (by decide +kernel), q⟩
theorem i_isi_str_bool {l : List Nat} (q : Q (.bl false) H) : rIsi K [(S l), .ty "bool"] H Q := ⟨_, _, _, _, false, rfl, .ty _, .base (.str _), kit_ty (by decide +kernel), q⟩
theorem i_isi_str_str {l : List Nat} (q : Q (.bl true) H) : rIsi K [(S l), .ty "str"] H Q := ⟨_, _, _, _, true, rfl, .ty _, .base (.str _), kit_ty (by decide +kernel), q⟩
theorem i_isi_str_tuple {l : List Nat} (q : Q (.bl false) H) : rIsi K [(S l), .ty "tuple"] H Q := ⟨_, _, _, _, false, rfl, .ty _, .base (.str _), kit_ty (by decide +kernel), q⟩
theorem i_isi_str_list {l : List Nat} (q : Q (.bl false) H) : rIsi K [(S l), .ty "list"] H Q := ⟨_, _, _, _, false, rfl, .ty _, .base (.str _), kit_ty (by decide +kernel), q⟩
theorem i_isi_tup_int {a : Addr} {xs : List V} (h : H a = some (.tup xs)) (q : Q (.bl false) H) : rIsi K [(.ref a), .ty "int"] H Q := ⟨_, _, _, _, false, rfl, .ty _, .base (.tup h), kit_ty (by decide +kernel), q⟩
theorem i_isi_tup_bool {a : Addr} {xs : List V} (h : H a = some (.tup xs)) (q : Q (.bl false) H) : rIsi K [(.ref a), .ty "bool"] H Q := ⟨_, _, _, _, false, rfl, .ty _, .base (.tup h), kit_ty (by decide +kernel), q⟩
theorem i_isi_tup_str {a : Addr} {xs : List V} (h : H a = some (.tup xs)) (q : Q (.bl false) H) : rIsi K [(.ref a), .ty "str"] H Q := ⟨_, _, _, _, false, rfl, .ty _, .base (.tup h), kit_ty (by decide +kernel), q⟩
theorem i_isi_tup_tuple {a : Addr} {xs : List V} (h : H a = some (.tup xs)) (q : Q (.bl true) H) : rIsi K [(.ref a), .ty "tuple"] H Q := ⟨_, _, _, _, true, rfl, .ty _, .base (.tup h), kit_ty (by decide +kernel), q⟩
theorem i_isi_tup_list {a : Addr} {xs : List V} (h : H a = some (.tup xs)) (q : Q (.bl false) H) : rIsi K [(.ref a), .ty "list"] H Q := ⟨_, _, _, _, false, rfl, .ty _, .base (.tup h), kit_ty (by decide +kernel), q⟩
theorem i_isi_lst_int {a : Addr} {xs : List V} (h : H a = some (.lst xs)) (q : Q (.bl false) H) : rIsi K [(.ref a), .ty "int"] H Q := ⟨_, _, _, _, false, rfl, .ty _, .base (.lst h), kit_ty (by decide +kernel), q⟩
theorem i_isi_lst_bool {a : Addr} {xs : List V} (h : H a = some (.lst xs)) (q : Q (.bl false) H) : rIsi K [(.ref a), .ty "bool"] H Q := ⟨_, _, _, _, false, rfl, .ty _, .base (.lst h), kit_ty (by decide +kernel), q⟩
theorem i_isi_lst_str {a : Addr} {xs : List V} (h : H a = some (.lst xs)) (q : Q (.bl false) H) : rIsi K [(.ref a), .ty "str"] H Q := ⟨_, _, _, _, false, rfl, .ty _, .base (.lst h), kit_ty (by decide +kernel), q⟩
theorem i_isi_lst_tuple {a : Addr} {xs : List V} (h : H a = some (.lst xs)) (q : Q (.bl false) H) : rIsi K [(.ref a), .ty "tuple"] H Q := ⟨_, _, _, _, false, rfl, .ty _, .base (.lst h), kit_ty (by decide +kernel), q⟩
theorem i_isi_lst_list {a : Addr} {xs : List V} (h : H a = some (.lst xs)) (q : Q (.bl true) H) : rIsi K [(.ref a), .ty "list"] H Q := ⟨_, _, _, _, true, rfl, .ty _, .base (.lst h), kit_ty (by decide +kernel), q⟩
/-! text.join -/
def rJoinP (K : PySem.W.Frag) : V → List V → Hp → VK → Prop := fun x xs H Q => ∃ a p, ∃ ys : List Str, x = .str a ∧ xs = [.ref p] ∧ (SqL K H p (ys.map V.str) ∨ SqT K H p (ys.map V.str)) ∧ (ys.map (·.length)).sum + ys.length * a.length ≤ 16777216 ∧ Q (.str (Txt.join a ys)) H
theorem pe_joinP {X : Cx} {to te : TE} {o e : Expr} {apos pos : Pos} (ho : PE X o to) (he : PE X e te) (hs : starEach [e] X.env = [(false, eval e X.env)] := by rfl) (hbase : attributeBase o "join" X.env (eval o X.env) = eval o X.env := by rfl) (hline : (apos.endLine == pos.line) = true := by rfl) :
    PE X (.Call (.Attribute o "join" apos) [e] [] pos) (tM1 (rJoinP X.K) to te) := pe_join ho he hs hbase hline
theorem i_m1c {r : V → List V → Hp → VK → Prop} (q : te σ H fun y H2 => r (S l) [y] H2 Q) : tM1 r (tC (S l)) te σ H Q := ⟨⟨_, rfl⟩, q⟩
end
end Fg
/-! Glue: defs of the text with their promises, calls, own exceptions with one field. -/
namespace Fg
open PySem PySem.Spec PyProof.Rows L2
/-- a def of the text: where it stands, how it is called -/
def DefIn (K : PySem.W.Frag) (mg : Str → Option Value) (x : Str) (st : Stmt) (ps : List Str) : Prop :=
  ∃ (f : Addr) (fd : FuncData), Fun K x x st f fd ∧ mg x = some (.ref f) ∧ Binds K fd ps []
/-- .. and it keeps its promise -/
def OK (P : Program) (w : World) (K : PySem.W.Frag) (mg : Str → Option Value) (base : Heap) (CX : CXT) (k : Nat) (x : Str) (ps : List Str) (sp : Sp) : Prop :=
  ∃ (f : Addr) (fd : FuncData), FnOk P w K mg base CX k f fd ps sp ∧ mg x = some (.ref f) ∧ PySem.W.keepIn K (.ref f) = true ∧ Binds K fd ps []
abbrev P1 := V → Hp → VK → XK → Prop
abbrev P2 := V → V → Hp → VK → XK → Prop
abbrev P3 := V → V → V → Hp → VK → XK → Prop
abbrev P4 := V → V → V → V → Hp → VK → XK → Prop
def sp1 (p : P1) : Sp := fun vs H Q E => ∃ x, vs = [x] ∧ p x H Q E
def sp2 (p : P2) : Sp := fun vs H Q E => ∃ x y, vs = [x, y] ∧ p x y H Q E
def sp3 (p : P3) : Sp := fun vs H Q E => ∃ x y z, vs = [x, y, z] ∧ p x y z H Q E
def sp4 (p : P4) : Sp := fun vs H Q E => ∃ x y z u, vs = [x, y, z, u] ∧ p x y z u H Q E
section
variable {H : Hp} {Q : VK} {E : XK} {x y z u : V} {p1 : P1} {p2 : P2} {p3 : P3} {p4 : P4}
theorem i_sp1 (q : p1 x H Q E) : sp1 p1 ([x] ++ []) H Q E := ⟨x, rfl, q⟩
theorem i_sp2 (q : p2 x y H Q E) : sp2 p2 ([x, y] ++ []) H Q E := ⟨x, y, rfl, q⟩
theorem i_sp3 (q : p3 x y z H Q E) : sp3 p3 ([x, y, z] ++ []) H Q E := ⟨x, y, z, rfl, q⟩
theorem i_sp4 (q : p4 x y z u H Q E) : sp4 p4 ([x, y, z, u] ++ []) H Q E := ⟨x, y, z, u, rfl, q⟩
theorem i_sp1' (q : p1 x H Q E) : sp1 p1 [x] H Q E := ⟨x, rfl, q⟩
theorem i_sp2' (q : p2 x y H Q E) : sp2 p2 [x, y] H Q E := ⟨x, y, rfl, q⟩
theorem i_sp3' (q : p3 x y z H Q E) : sp3 p3 [x, y, z] H Q E := ⟨x, y, z, rfl, q⟩
theorem i_sp4' (q : p4 x y z u H Q E) : sp4 p4 [x, y, z, u] H Q E := ⟨x, y, z, u, rfl, q⟩
end
section
variable {P : Program} {w : World} {K : PySem.W.Frag} {mg : Str → Option Value} {base : Heap} {x : Str} {st : Stmt} {N ps : List Str} {k : Nat} {sp : Sp}
theorem FnOK.mk {f : Addr} {fd : FuncData} (F : Fun K x x st f fd) (S : FnScope N ps (defScope st)) (len : ∀ vs H Q E, sp vs H Q E → vs.length = ps.length)
    (body : ∀ (cdv : Value) (A : Around) (outer : List Env) (s : Shared) (H : Hp) (vs : List V) (Q : VK) (E : XK), Room k (A.deeper (envOfC x (defScope st) s.heap.objs.size f cdv)) → sp vs H Q E →
      ∃ t, PSs (cxOf CX0 P w K mg base N x (defScope st) f cdv A outer s H E).nox (defBody st) t ∧ t { nx := fun _ H' => Q .non H', rt := Q } (start N vs) H) : FnOk P w K mg base CX0 (k + 1) f fd ps sp :=
  F.ok S len fun cdv A outer s H vs Q E hr h => body cdv A outer s H vs Q E hr h
theorem OK.mk (D : DefIn K mg x st ps) (S : FnScope N ps (defScope st)) (len : ∀ vs H Q E, sp vs H Q E → vs.length = ps.length)
    (body : ∀ (f : Addr) (cdv : Value) (A : Around) (outer : List Env) (s : Shared) (H : Hp) (vs : List V) (Q : VK) (E : XK), Room k (A.deeper (envOfC x (defScope st) s.heap.objs.size f cdv)) → sp vs H Q E →
      ∃ t, PSs (cxOf CX0 P w K mg base N x (defScope st) f cdv A outer s H E).nox (defBody st) t ∧ t { nx := fun _ H' => Q .non H', rt := Q } (start N vs) H) : OK P w K mg base CX0 (k + 1) x ps sp := by
  obtain ⟨f, fd, F, hm, hb⟩ := D
  exact ⟨f, fd, F.ok S len fun cdv A outer s H vs Q E hr h => body f cdv A outer s H vs Q E hr h, hm, F.kp, hb⟩
theorem OK.mkX (D : DefIn K mg x st ps) (S : FnScope N ps (defScope st)) (len : ∀ vs H Q E, sp vs H Q E → vs.length = ps.length)
    (body : ∀ (f : Addr) (cdv : Value) (A : Around) (outer : List Env) (s : Shared) (H : Hp) (vs : List V) (Q : VK) (E : XK), Room k (A.deeper (envOfC x (defScope st) s.heap.objs.size f cdv)) → sp vs H Q E →
      ∃ t, PSs (cxOf (L2.CX P w) P w K mg base N x (defScope st) f cdv A outer s H E) (defBody st) t ∧ t { nx := fun _ H' => Q .non H', rt := Q } (start N vs) H) : OK P w K mg base (L2.CX P w) (k + 1) x ps sp := by
  obtain ⟨f, fd, F, hm, hb⟩ := D
  exact ⟨f, fd, F.okX S len fun cdv A outer s H vs Q E hr h => body f cdv A outer s H vs Q E hr h, hm, F.kp, hb⟩
theorem len1 {p : P1} {a : Str} : ∀ vs H Q E, sp1 p vs H Q E → vs.length = [a].length := by
  rintro vs H Q E ⟨_, rfl, _⟩; rfl
theorem len2 {p : P2} {a b : Str} : ∀ vs H Q E, sp2 p vs H Q E → vs.length = [a, b].length := by
  rintro vs H Q E ⟨_, _, rfl, _⟩; rfl
theorem len3 {p : P3} {a b c : Str} : ∀ vs H Q E, sp3 p vs H Q E → vs.length = [a, b, c].length := by
  rintro vs H Q E ⟨_, _, _, rfl, _⟩; rfl
theorem len4 {p : P4} {a b c d : Str} : ∀ vs H Q E, sp4 p vs H Q E → vs.length = [a, b, c, d].length := by
  rintro vs H Q E ⟨_, _, _, _, rfl, _⟩; rfl
theorem OK.weak {CX : CXT} {sp' : Sp} (G : OK P w K mg base CX k x ps sp) (h : ∀ vs H Q E, sp' vs H Q E → sp vs H Q E) : OK P w K mg base CX k x ps sp' := by
  obtain ⟨f, fd, F, r⟩ := G
  exact ⟨f, fd, F.imp h, r⟩
end
/-! ### calls -/
section
variable {X : Cx} {CX : CXT} {k : Nat} {x : Str} {ps : List Str} {sp : Sp} {E : XK} {e : Expr} {es : List Expr} {ta : TA} {p pos : Pos}
theorem pe_f (G : OK X.prog X.w X.K X.mg X.base CX k x ps sp) (hr : Room k X.A) (hx : Passes CX X E) (ha : PA X (e :: es) ta) (hg : Gl X x := by rfl) (hd : (x == ("__debug__" : Str)) = false := by decide)
    (he : starEach (e :: es) X.env = (false, eval e X.env) :: starEach es X.env := by rfl) (hpl : (backTo pos (starEach es X.env)).any (·.1) = false := by rfl) :
    PE X (.Call (.Name x p) (e :: es) [] pos) (tCall sp [] E ta) := by
  obtain ⟨f, fd, F, hm, hk, hb⟩ := G
  exact pe_call F hr hg hm hk hb .nil hx ha hd he hpl
theorem pe_fS {ES : L2.St → XK} (G : OK X.prog X.w X.K X.mg X.base CX k x ps sp) (hr : Room k X.A) (hx : ∀ σ, PassesAt CX X σ (ES σ)) (ha : PA X (e :: es) ta) (hg : Gl X x := by rfl) (hd : (x == ("__debug__" : Str)) = false := by decide)
    (he : starEach (e :: es) X.env = (false, eval e X.env) :: starEach es X.env := by rfl) (hpl : (backTo pos (starEach es X.env)).any (·.1) = false := by rfl) :
    PE X (.Call (.Name x p) (e :: es) [] pos) (tCallS sp ES ta) := by
  obtain ⟨f, fd, F, hm, hk, hb⟩ := G
  exact pe_callS F hr hg hm hk hb hx ha hd he hpl
theorem pe_gS (l : List Nat) (h : ∃ t, X.mg x = some (.str ⟨l.toArray⟩ t)) (hg : Gl X x := by rfl) (hd : (x == ("__debug__" : Str)) = false := by decide) : PE X (.Name x pos) (tC (S l)) := by
  obtain ⟨t, hm⟩ := h
  exact pe_glob hg hm ⟨t, rfl⟩ hd
theorem pe_gI (i : Int) (h : ∃ t, X.mg x = some (.int i t)) (hg : Gl X x := by rfl) (hd : (x == ("__debug__" : Str)) = false := by decide) : PE X (.Name x pos) (tC (.int i)) := by
  obtain ⟨t, hm⟩ := h
  exact pe_glob hg hm ⟨t, rfl⟩ hd
theorem pe_gR (C : Addr) (h : X.mg x = some (.ref C)) (hg : Gl X x := by rfl) (hd : (x == ("__debug__" : Str)) = false := by decide) : PE X (.Name x pos) (tC (.ref C)) := pe_glob hg h rfl hd
end
/-! ### an own exception with one field -/
/-- what its __init__ promises -/
def spIni (C : Addr) (f : Str) : Sp := sp2 fun x v H Q _ => ∃ a, x = .ref a ∧ H a = some (exo a C none) ∧ ∀ dx, H dx = none → dx ≠ a → Q .non (upd (upd H dx (exd dx [(f, v)])) a (exo a C (some dx)))
def OKx (P : Program) (w : World) (K : PySem.W.Frag) (mg : Str → Option Value) (base : Heap) (x f : Str) (C : Addr) : Prop :=
  mg x = some (.ref C) ∧ OexC K C ∧ PySem.W.findIn K (.ref C) f = some none ∧ ∃ (fI : Addr) (fd : FuncData), PySem.W.findIn K (.ref C) "__init__" = some (some (.ref fI)) ∧ PySem.W.typeIn K (.ref fI) = some (.type "function") ∧
    FnOk P w K mg base CX0 1 fI fd ["self", f] (spIni C f) ∧ Binds K fd ["self", f] []
theorem ini_ok {P : Program} {w : World} {K : PySem.W.Frag} {mg : Str → Option Value} {base : Heap} {C fI : Addr} {f q : Str} {st : Stmt} {fd : FuncData} (F : Fun K "__init__" q st fI fd) (S : FnScope ["self", f] ["self", f] (defScope st))
    (ox : OexC K C) (noF : PySem.W.findIn K (.ref C) f = some none)
    (hb : ∀ (cdv : Value) (A : Around) (outer : List Env) (s : Shared) (H : Hp) (E : XK), PSs (cxOf CX0 P w K mg base ["self", f] q (defScope st) fI cdv A outer s H E).nox (defBody st) (tOst K f (tVar 0) (tVar 1))) :
    FnOk P w K mg base CX0 1 fI fd ["self", f] (spIni C f) := by
  refine F.ok S (fun vs H Q E h => len2 vs H Q E h) fun cdv A outer s H vs Q E hr h => ⟨_, hb cdv A outer s H E, ?_⟩
  obtain ⟨x, v, rfl, a, rfl, ha, q⟩ := h
  exact ⟨v, rfl, .ref a, rfl, a, C, rfl, ox, noF, .inl ⟨ha, fun dx n ne => q dx n ne⟩⟩
/-- C(e): an error whose dict, new, holds the field -/
def tMkE (C : Addr) (f : Str) (ta : TA) : L2.St → Hp → XK → Prop := fun σ H Q => ta σ H fun vs H1 => ∃ v, vs = [v] ∧ ∀ d, H1 d = none → Q (.ref C) (some d) (upd H1 d (.xd [(f, v)]))
theorem pa_mono {X : Cx} {es : List Expr} {ta : TA} (ha : PA X es ta) : PA X es fun σ H R => ∃ Q1 : List V → Hp → Prop, ta σ H Q1 ∧ ∀ vs H1, Q1 vs H1 → R vs H1 := by
  refine ⟨fun pos pins s σ H Q I h => ?_⟩
  obtain ⟨Q1, h, hi⟩ := h
  exact thn (ha.run pos pins s σ H Q1 I h) fun us s1 ⟨vs, H1, J, r, q⟩ => ⟨vs, H1, J, r, hi vs H1 q⟩
theorem pmk_E {X : Cx} {x f : Str} {C : Addr} {e : Expr} {ta : TA} {p pos : Pos} {k : Nat} (G : OKx X.prog X.w X.K X.mg X.base x f C) (hr : Room (k + 2) X.A) (ha : PA X [e] ta) (hg : Gl X x := by rfl) (hdb : (x == ("__debug__" : Str)) = false := by decide)
    (he : starEach [e] X.env = (false, eval e X.env) :: starEach [] X.env := by rfl) (hpl : (backTo pos (starEach [] X.env)).any (·.1) = false := by rfl) :
    PMk X (.Call (.Name x p) [e] [] pos) (tMkE C f ta) := by
  obtain ⟨hm, ox, noF, fI, fd, iC, tI, F, hb⟩ := G
  intro pins s σ H Q I h
  refine pmk_oex (k := 1) (dvs := []) ox iC tI F (hr.mono (by omega)) hb .nil pass0 hg hm (pa_mono ha) hdb he hpl pins s σ H Q I ⟨_, h, fun vs H1 hq => ?_⟩
  obtain ⟨v, rfl, q⟩ := hq
  refine ⟨by show 1 ≤ 1000; omega, fun a na => ⟨.ref a, v, rfl, a, rfl, upd_same, fun dx nd ne => ⟨rfl, dx, [(f, v)], upd_same, ?_, ?_, ?_⟩⟩⟩
  · rw [upd_ne ne, upd_same]
  · rw [upd_ne ne] at nd; exact nd
  · have n2 : H1 dx = none := by rw [upd_ne ne] at nd; exact nd
    have e1 : upd (del (upd (upd (upd H1 a (exo a C none)) dx (exd dx [(f, v)])) a (exo a C (some dx))) a) dx (.xd [(f, v)]) = upd H1 dx (.xd [(f, v)]) := by
      funext b
      by_cases hb : b = dx
      · rw [hb, upd_same, upd_same]
      · rw [upd_ne hb, upd_ne hb]
        by_cases ha : b = a
        · rw [ha, del_same, na]
        · rw [del_ne ha, upd_ne ha, upd_ne hb, upd_ne ha]
    rw [e1]
    exact q dx n2
def tRaiseP (t : L2.St → Hp → XK → Prop) (W : WX) : TS := fun _ σ H => t σ H fun cls d H' => W cls d σ H'
theorem ps_raiseP {X : Cx} {W : WX} {e : Expr} {t : L2.St → Hp → XK → Prop} {pos : Pos} (hc : X.calm = true) (tk : Takes X W) (he : PMk X e t) : PS X (.Raise (some e) none pos) (tRaiseP t W) := ps_raise hc tk he
/-! ### isinstance(e, C) of a caught error, e.f -/
/-- the class of a caught error, for isinstance -/
structure ExcD (K : PySem.W.Frag) (D : Addr) : Prop where
  cl : (PySem.W.clsIn K D).isSome = true
  hg : PySem.W.findIn K (.ref D) "__getattribute__" = some (some (.builtin "BaseException.__getattribute__"))
  hk : PySem.W.findIn K (.ref D) "__getattr__" = some none
  hs : PySem.W.subIn K (.ref D) (.type "BaseException") = some true
  hd : PySem.W.hasDictIn K D = true
  ha : PySem.W.findIn K (.ref D) "__class__" = some (some (.builtin "object.__class__"))
  hn : PySem.W.specialIn K (.builtin "object.__class__") "__get__" = some (some (.builtin "getset_descriptor.__get__"))
  ht : PySem.W.takesIn K (.builtin "object.__class__") = some true
  hm : PySem.W.mroIn K D (.type "object") = some true
theorem ExcD.xf {K : PySem.W.Frag} {D : Addr} (T : ExcD K D) : XfC K D := ⟨T.hg, T.hk, T.hs, T.hd⟩
def rIsX (K : PySem.W.Frag) (a : Addr) (cls : Value) (d : Option Addr) : RC := fun xs H Q => ∃ (D dd : Addr) (fs : List (Str × V)) (c : V) (cv : Value) (b : Bool),
  xs = [.ref a, c] ∧ cls = .ref D ∧ d = some dd ∧ H dd = some (.xd fs) ∧ ExcD K D ∧ ClsV c cv ∧ PySem.W.kitOne K (.ref D) cv = some b ∧ Q (.bl b) H
theorem call_isX {X : Cx} {a : Addr} {oe : Obj} {cls : Value} {d : Option Addr} {pn : List (Addr × Obj)} (hz : Zc cls d oe) (hf : ∃ vs, oe.data = .fields vs) : CallR (X.suite a ((a, oe) :: pn)) (.builtin "isinstance") (rIsX X.K a cls d) := by
  intro pins s σ H xs us Q I r h
  obtain ⟨D, dd, fs, c, cv, b, rfl, rfl, rfl, hdd, T, kc, e, q⟩ := h
  obtain ⟨u1, u2, rfl, r1, r2⟩ := vals2 r
  obtain rfl : u1 = Value.ref a := r1
  obtain rfl := kc.eq r2
  obtain ⟨hget, _⟩ := I.pin (a, oe) (List.mem_append_left _ List.mem_cons_self)
  obtain ⟨vs, hv⟩ := hf
  have hx : ObjOk X.prog X.w H s.heap dd (.xd fs) := I.hok dd _ hdd
  obtain ⟨mA, ⟨o, es, ep, ho, _⟩, _⟩ := hx
  have J : PySem.W.InstAt s.heap a oe D (some o) := ⟨hget, hz.1, by unfold PySem.W.notCls; rw [hv] <;> rfl, by rw [hz.2]; exact ho⟩
  exact PySem.W.kia_one (PySem.W.kitx_exc T.cl T.hg T.hk T.hs T.ha T.hn T.ht T.hm) I.kIn J e (fun z => nomatch z) fun tk => ⟨.bl b, H, I.tok tk, rfl, q⟩
section
variable {σ : L2.St} {H : Hp} {D : Ends} {t : L2.St → Hp → XK → Prop} {W : WX} {Q : XK} {C : Addr} {f : Str} {ta : TA} {v : V} {P : V → Prop}
theorem i_raise (q : t σ H fun cls d H' => W cls d σ H') : tRaiseP t W D σ H := q
theorem i_mkE (q : ta σ H fun vs H1 => ∃ v, vs = [v] ∧ ∀ d, H1 d = none → Q (.ref C) (some d) (upd H1 d (.xd [(f, v)]))) : tMkE C f ta σ H Q := q
theorem i_ex1 (q : P v) : ∃ u, [v] = [u] ∧ P u := ⟨v, rfl, q⟩
end
/-- the wish for an error of the class at C whose dict, new, holds f = v -/
def Rz (E : XK) (H : Hp) (C : Addr) (f : Str) (v : V) : Prop := ∀ d H', H d = none → Same H H' → H' d = some (.xd [(f, v)]) → E (.ref C) (some d) H'
theorem Rz.mono {E : XK} {H H1 : Hp} {C : Addr} {f : Str} {v : V} (h : Rz E H C f v) (s : Same H H1) : Rz E H1 C f v := fun d H' n s' e => h d H' (s.free n) (s.trans s') e
theorem Rz.at {E : XK} {H : Hp} {C : Addr} {f : Str} {v : V} (h : Rz E H C f v) {d : Addr} (n : H d = none) : E (.ref C) (some d) (upd H d (.xd [(f, v)])) :=
  h d _ n (fun b o e => by rw [upd_ne (ne_of_none e n)]; exact e) upd_same
/-! ### min of some texts -/
def rMinS (K : PySem.W.Frag) : RC := fun vs H Q => ∃ (a : Addr) (xs : List (List Nat)), vs = [V.ref a] ∧ SqL K H a (xs.map S) ∧ xs ≠ [] ∧ ∀ m, m ∈ xs → (∀ y ∈ xs, ¬ y < m) → Q (S m) H
theorem argBest_min (val : Nat → List Nat) : ∀ k, argBest (fun i j => decide (val i < val j)) k ≤ k ∧ ∀ j, j ≤ k → ¬ val j < val (argBest (fun i j => decide (val i < val j)) k)
  | 0 => ⟨Nat.le_refl _, fun j hj => by
    have : j = 0 := by omega
    subst this
    exact List.lt_irrefl _⟩
  | k + 1 => by
    obtain ⟨h1, h2⟩ := argBest_min val k
    unfold argBest
    by_cases h : val (k + 1) < val (argBest (fun i j => decide (val i < val j)) k)
    · rw [if_pos (decide_eq_true h)]
      refine ⟨Nat.le_refl _, fun j hj => ?_⟩
      by_cases e : j = k + 1
      · subst e; exact List.lt_irrefl _
      · exact fun z => h2 j (by omega) (List.lt_trans z h)
    · rw [if_neg (by simpa using h)]
      refine ⟨by omega, fun j hj => ?_⟩
      by_cases e : j = k + 1
      · subst e; exact h
      · exact h2 j (by omega)
theorem cmp_strs {prog : Program} {w : World} {A : Around} {P : Nat → Value → Prop} (val : Nat → List Nat) (hval : ∀ i v, P i v → ∃ t, v = .str ⟨(val i).toArray⟩ t) : CmpOf prog w A .Lt P (fun i j => decide (val i < val j)) := fun i j vi vj s Q E hi hj h => by
  obtain ⟨t, rfl⟩ := hval i vi hi
  obtain ⟨u, rfl⟩ := hval j vj hj
  refine richCompare_gives (op := .Lt) (typeIs_str s _ t) (typeIs_str s _ u) F.slot_str_lt F.entry_str_lt (F.args_str_lt_2 _ _) (gives_str_lt _ _ t u) (fun x => nomatch x) ?_
  show Q (Value.bool (decide ((val i).toArray.toList < (val j).toArray.toList))) s
  simpa using h
theorem cr_minS {X : Cx} (hc : X.calm = true) : CallR X (.builtin "min") (rMinS X.K) := by
  intro pins s σ H vs us Q I r h
  obtain ⟨a, xs, rfl, hs, hne, q⟩ := h
  obtain ⟨its, rv, hl, _⟩ := I.list hs
  rw [Vals.ref1 r]
  have hlen : xs.length = its.length := by have := rv.length; rw [List.length_map] at this; exact this
  have hpos : 0 < its.length := by rw [← hlen]; exact List.length_pos_iff.mpr hne
  have hL := hl.isList
  have ha : a < s.heap.objs.size := by obtain ⟨_, e, _⟩ := id hL; exact Heap.lt_size e
  have hval : ∀ (i : Nat) (v : Value), its.toArray[i]? = some v → ∃ t, v = Value.str ⟨(xs.getD i []).toArray⟩ t := fun i v hv => by
    have hv' : its[i]? = some v := by simpa using hv
    have hi : i < xs.length := by rw [hlen]; exact (List.getElem?_eq_some_iff.mp hv').1
    obtain ⟨u, hu, ru⟩ := rv.get (i := i) (x := S (xs.getD i [])) (by rw [List.getElem?_map, List.getElem?_eq_getElem hi, List.getD_eq_getElem?_getD, List.getElem?_eq_getElem hi]; rfl)
    rw [hv'] at hu
    cases hu
    exact ru
  refine call_min_walk (wpAny_pyIter_list hL ?_)
  refine ⟨_, _, _, _, _, _, _, rfl, Walks.list (A := X.A.in1) (I.ok.hd hc) s.heap.objs.size a (Nat.ne_of_lt ha) its.toArray,
    ⟨⟨_, Heap.get?_push_size _ rfl, rfl, rfl⟩, hL.push _⟩, fun b hb => ?_, by simpa using hpos, cmp_strs (fun i => xs.getD i []) hval, fun v h' tk hP hk => ?_⟩
  · show b < (s.heap.push _).objs.size
    rw [Heap.size_push]
    rcases List.mem_cons.mp hb with e | hb
    · rw [e]; exact Nat.lt_succ_self _
    · rw [List.mem_singleton.mp hb]; exact Nat.lt_succ_of_lt ha
  · obtain ⟨t, rfl⟩ := hval _ v hP
    obtain ⟨b1, b2⟩ := argBest_min (fun i => xs.getD i []) (its.toArray.size - 1)
    have sz : its.toArray.size = xs.length := by simp [hlen]
    have hb : argBest (fun i j => decide (xs.getD i [] < xs.getD j [])) (its.toArray.size - 1) < xs.length := by omega
    refine ⟨S (xs.getD _ []), H, I.kept (t' := tk) fun b u e => hk b u (fun hm => ?_) (Heap.get?_push_of_some _ e), ⟨t, rfl⟩, q _ ?_ fun y hy => ?_⟩
    · have e1 : b = s.heap.objs.size := List.mem_singleton.mp hm
      have e2 := Heap.lt_size e
      rw [e1] at e2
      exact absurd e2 (Nat.lt_irrefl _)
    · rw [List.getD_eq_getElem?_getD, List.getElem?_eq_getElem hb]
      exact List.getElem_mem hb
    · obtain ⟨i, hi, e⟩ := List.mem_iff_getElem.mp hy
      have e2 : xs.getD i [] = y := by rw [List.getD_eq_getElem?_getD, List.getElem?_eq_getElem hi, ← e]; rfl
      rw [← e2]
      exact b2 i (by omega)
theorem i_minS {K : PySem.W.Frag} {H : Hp} {Q : VK} {a : Addr} {xs : List (List Nat)} (hs : SqL K H a (xs.map S)) (hne : xs ≠ []) (q : ∀ m, m ∈ xs → (∀ y ∈ xs, ¬ y < m) → Q (S m) H) : rMinS K [.ref a] H Q := ⟨a, xs, rfl, hs, hne, q⟩
/-! ### the rules, the written part named -/
section
variable {X : Cx} (K : PySem.W.Frag) {e o : Expr} {es : List Expr} {te to : TE} {ta : TA} {tg : Expr} {p pos apos cpos tpos : Pos} {elts : List Expr} {kk : Nat}
theorem opAdd (h : X.K = K := by rfl) : OpR X (binaryOp .Add) (addP K) := h ▸ op_addP
theorem opEq (hu : X.A.units + 64 < cLine) (h : X.K = K := by rfl) : OpR X (compareOp .Eq) (eqP K) := h ▸ op_eqP hu
theorem opNe (hu : X.A.units + 64 < cLine) (h : X.K = K := by rfl) : OpR X (compareOp .NotEq) (neP K) := h ▸ op_neP hu
theorem opIn (h : X.K = K := by rfl) : OpR X (compareOp .In) (inP K) := h ▸ op_inP
theorem opNotIn (h : X.K = K := by rfl) : OpR X (compareOp .NotIn) (notInP K) := h ▸ op_notInP
theorem ixK (h : X.K = K := by rfl) : IxR X (ixP K) := h ▸ ix_P
theorem slK (h : X.K = K := by rfl) : SlR X (slP K) := h ▸ sl_P
theorem piAny (he : PE X e te) (h : X.K = K := by rfl) : PI X tg e (iAny K te) := h ▸ pi_any he
theorem piEnum (hg : Gl X "enumerate") (hm : X.mg "enumerate" = none) (ha : PA X [e] ta) (h : X.K = K := by rfl) (hs : starEach [e] X.env = [(false, eval e X.env)] := by rfl) :
    PI X (.Tuple elts kk tpos) (.Call (.Name "enumerate" p) [e] [] pos) (iEnumP K ta) := h ▸ pi_enumP hg hm ha hs
theorem cLen (h : X.K = K := by rfl) : CallR X (.builtin "len") (rLenP K) := h ▸ call_lenP
theorem cSum (hc : X.calm = true) (h : X.K = K := by rfl) : CallR X (.builtin "sum") (rSum K) := h ▸ cr_sum hc
theorem cAll (hc : X.calm = true) (h : X.K = K := by rfl) : CallR X (.builtin "all") (rAll K) := h ▸ cr_all hc
theorem cTup (h : X.K = K := by rfl) : CallR X (.type "tuple") (rTupP K) := h ▸ call_tupP
theorem cIsi (h : X.K = K := by rfl) : CallR X (.builtin "isinstance") (rIsi K) := h ▸ call_isi
theorem cMinS (hc : X.calm = true) (h : X.K = K := by rfl) : CallR X (.builtin "min") (rMinS K) := h ▸ cr_minS hc
theorem cSortedS (h : X.K = K := by rfl) : CallR X (.builtin "sorted") (rSortedS K) := h ▸ cr_sortedS
theorem peJoin (ho : PE X o to) (he : PE X e te) (h : X.K = K := by rfl) (hs : starEach [e] X.env = [(false, eval e X.env)] := by rfl) (hbase : attributeBase o "join" X.env (eval o X.env) = eval o X.env := by rfl) (hline : (apos.endLine == pos.line) = true := by rfl) :
    PE X (.Call (.Attribute o "join" apos) [e] [] pos) (tM1 (rJoinP K) to te) := h ▸ pe_joinP ho he hs hbase hline
theorem pgTup {t : TGs} {n : Nat} (hc : X.calm = true) (ht : PGs X es t) (h : X.K = K := by rfl) (hn : (assignEach es X.env).length = n := by rfl) (hst : (assignEach es X.env).findIdx? (·.1) = none := by rfl) :
    PG X (.Tuple es kk pos) (gTup K n t) := h ▸ pg_tup hc ht hn hst
/-- xs.append(e) -/
def tApp (K : PySem.W.Frag) (to : TE) (t : TA) : TE := tBM K "list" rAppend to t
theorem peApp (ho : PE X o to) (ha : PA X (e :: es) ta) (h : X.K = K := by rfl) (hbase : attributeBase o "append" X.env (eval o X.env) = eval o X.env := by rfl)
    (hfew : ((backTo cpos (starEach (e :: es) X.env)).all (fun x => !x.1) && (backToKw cpos (keywordEach [] X.env)).all (fun x => x.1.isSome)
      && decide ((e :: es).length + ([] : List Keyword).length + (if ([] : List Keyword).isEmpty then 0 else 1) < 30)) = true := by rfl)
    (hline : (apos.endLine == cpos.line) = true := by rfl) (hs : starEach (e :: es) X.env = (false, eval e X.env) :: starEach es X.env := by rfl) (hplain : (backTo cpos (starEach es X.env)).any (·.1) = false := by rfl) :
    PE X (.Call (.Attribute o "append" apos) (e :: es) [] cpos) (tApp K to ta) := h ▸ pe_bm PySem.F.plainAttrs_list PySem.F.slot_list_append PySem.F.type_list_append mt_append ho ha hbase hfew hline hs hplain
end
section
variable {K : PySem.W.Frag} {σ : L2.St} {H : Hp} {Q : VK} {te : TE} {ta : TA} {l : Addr} {xs : List V} {v : V}
theorem i_app (q : te σ H fun x H1 => tyV K "list" x H1 ∧ ta σ H1 fun xs H2 => rAppend x xs H2 Q) : tApp K te ta σ H Q := q
theorem i_appAt (h : H l = some (.lst xs)) {P : Prop} (q : P) : tyV K "list" (.ref l) H ∧ P := ⟨.inl ⟨rfl, _, .inl (.inl h)⟩, q⟩
theorem i_appEnd (h : H l = some (.lst xs)) (hz : xs.length < 100000) (q : Q .non (upd H l (.lst (xs ++ [v])))) : rAppend (.ref l) [v] H Q := ⟨l, xs, v, rfl, rfl, h, Nat.lt_trans hz (by decide), q⟩
end
/-! ### stores into lists; a word between two statements -/
section
variable {σ : L2.St} {H : Hp} {D : Ends} {t u : TS} {to ti : TE} {v : V} {Qs : L2.St → Hp → Prop} {Qh : Hp → Prop} {p : Addr} {xs ys : List V} {z : Int}
theorem i_gsub {ts : TSet} (q : to σ H fun o H1 => ti σ H1 fun i H2 => ts o i v H2 fun H3 => Qs σ H3) : gSub to ti ts v σ H Qs := q
theorem i_setL (j : Nat) (h : H p = some (.lst xs)) (hj : ixN xs.length z = some j) (e : xs.set j v = ys) (q : Qh (upd H p (.lst ys))) : rSetL (.ref p) (.int z) v H Qh := ⟨p, xs, z, j, rfl, rfl, h, hj, by rw [e]; exact q⟩
theorem i_cut (Mid : L2.St → Hp → Prop) (h1 : t { D with nx := Mid } σ H) (h2 : ∀ σ' H', Mid σ' H' → u D σ' H') : Evl.tCut t u D σ H := ⟨Mid, h1, h2⟩
end
/-! ### "".join -/
theorem joinL_nil : ∀ ls : List (List Nat), TL.joinL [] ls = ls.flatten
  | [] => rfl
  | [p] => by simp [TL.joinL]
  | p :: q :: r => by
    show p ++ ([] ++ TL.joinL [] (q :: r)) = _
    rw [joinL_nil (q :: r)]
    rfl
theorem join_nil (ls : List (List Nat)) : Txt.join ⟨([] : List Nat).toArray⟩ (ls.map fun l => (⟨l.toArray⟩ : Str)) = ⟨ls.flatten.toArray⟩ := by
  refine TL.ext_tl ?_
  rw [TL.join_eq, TL.tl_join, List.map_map]
  show TL.joinL ([] : List Nat).toArray.toList (ls.map fun l => l.toArray.toList) = ls.flatten.toArray.toList
  simp [joinL_nil]
theorem i_join0 {K : PySem.W.Frag} {H : Hp} {Q : VK} {p : Addr} {ls : List (List Nat)} (hs : SqL K H p (ls.map S)) (hz : (ls.map List.length).sum ≤ 100000) (q : Q (S ls.flatten) H) : rJoinP K (S []) [.ref p] H Q := by
  refine ⟨⟨([] : List Nat).toArray⟩, p, ls.map fun l => (⟨l.toArray⟩ : Str), rfl, rfl, .inl ?_, ?_, ?_⟩
  · rw [List.map_map]; exact hs
  · rw [List.map_map]
    have e : (ls.map ((·.length) ∘ fun l => (⟨l.toArray⟩ : Str))) = ls.map List.length := List.map_congr_left fun l _ => str_len l
    rw [e]
    show (ls.map List.length).sum + _ * ([] : List Nat).toArray.size ≤ _
    simp
    omega
  · rw [join_nil]; exact q
theorem flat_one (cs : List Nat) : (cs.map fun c => [c]).flatten = cs := by
  induction cs with
  | nil => rfl
  | cons a r ih => rw [List.map_cons, List.flatten_cons, ih]; rfl
theorem len_one (cs : List Nat) : ((cs.map fun c => [c]).map List.length).sum = cs.length := by
  induction cs with
  | nil => rfl
  | cons a r ih => rw [List.map_cons, List.map_cons, List.sum_cons, ih, List.length_cons, List.length_cons, List.length_nil]; omega
/-- .. of signs -/
theorem i_join1 {K : PySem.W.Frag} {H : Hp} {Q : VK} {p : Addr} {cs : List Nat} (hs : SqL K H p (cs.map fun c => S [c])) (hz : cs.length ≤ 100000) (q : Q (S cs) H) : rJoinP K (S []) [.ref p] H Q := by
  refine i_join0 (ls := cs.map fun c => [c]) (by rw [List.map_map]; exact hs) (by rw [len_one]; exact hz) ?_
  rw [flat_one]
  exact q
theorem i_yes {σ : L2.St} {H : Hp} {QB : Bool → Hp → Prop} (q : QB true H) : tYes σ H QB := q
/-! ### sorted(some texts): its first -/
theorem ltCps_dec : ∀ a b : List Nat, Spec.ltCps a b = decide (a < b)
  | [], [] => by rw [decide_eq_false (List.lt_irrefl _)]; rfl
  | [], b :: t => by rw [decide_eq_true (List.nil_lt_cons b t)]; rfl
  | a :: r, [] => by rw [decide_eq_false (List.not_lt_nil _)]; rfl
  | a :: r, b :: t => by
    show (decide (a < b) || (a == b && Spec.ltCps r t)) = _
    rw [ltCps_dec r t, Bool.eq_iff_iff]
    simp [List.cons_lt_cons_iff]
theorem rising_all : ∀ (r : List Str) (p : Str), PyProof.Rows.risingS p r = true → ∀ y ∈ r, ¬ y.cps.toList < p.cps.toList
  | [], p, _, y, hy => by simp at hy
  | x :: r, p, h, y, hy => by
    have h' : (!Spec.ltCps x.cps.toList p.cps.toList && PyProof.Rows.risingS x r) = true := h
    rw [Bool.and_eq_true, ltCps_dec] at h'
    have h1 : ¬ x.cps.toList < p.cps.toList := by simpa using h'.1
    rcases List.mem_cons.mp hy with rfl | hy
    · exact h1
    · have h2 := rising_all r x h'.2 y hy
      rw [List.not_lt] at h1 h2 ⊢
      exact List.le_trans h1 h2
theorem i_sortedS {K : PySem.W.Frag} {H : Hp} {Q : VK} {a : Addr} {ls : List (List Nat)} (hs : SqL K H a (ls.map S)) (h64 : ls.length < 64)
    (q : ∀ (zs : List (List Nat)) (p : Addr), zs.Perm ls → (∀ m, zs[0]? = some m → m ∈ ls ∧ ∀ y ∈ ls, ¬ y < m) → H p = none → Q (.ref p) (upd H p (.lst (zs.map S)))) : rSortedS K [.ref a] H Q := by
  refine ⟨a, ls.map fun l => (⟨l.toArray⟩ : Str), rfl, by rw [List.map_map]; exact hs, by rw [List.length_map]; exact h64, fun ys p pm srt np => ?_⟩
  have e : ys = (ys.map fun z => z.cps.toList).map fun l => (⟨l.toArray⟩ : Str) := by
    rw [List.map_map]
    have : ys.map ((fun l => (⟨l.toArray⟩ : Str)) ∘ fun z => z.cps.toList) = ys.map id := List.map_congr_left fun z _ => rfl
    rw [this, List.map_id]
  have pm2 : (ys.map fun z => z.cps.toList).Perm ls := by
    have := pm.map fun z : Str => z.cps.toList
    rw [List.map_map] at this
    have e2 : ls.map ((fun z : Str => z.cps.toList) ∘ fun l => (⟨l.toArray⟩ : Str)) = ls.map id := List.map_congr_left fun l _ => rfl
    rw [e2, List.map_id] at this
    exact this
  have := q (ys.map fun z => z.cps.toList) p pm2 (fun m hm => ?_) np
  · rw [List.map_map] at this
    have e3 : ys.map (S ∘ fun z => z.cps.toList) = ys.map V.str := List.map_congr_left fun z _ => rfl
    rw [e3] at this
    exact this
  · have hmem : m ∈ ys.map fun z => z.cps.toList := List.mem_of_getElem? hm
    refine ⟨pm2.mem_iff.mp hmem, fun y hy => ?_⟩
    have hy2 := pm2.mem_iff.mpr hy
    obtain ⟨z, hz, rfl⟩ := List.mem_map.mp hy2
    cases ys with
    | nil => simp at hz
    | cons x r =>
      have hm' : x.cps.toList = m := by simpa using hm
      rw [← hm']
      have srt' : PyProof.Rows.risingS x r = true := srt
      rcases List.mem_cons.mp hz with rfl | hz
      · exact List.lt_irrefl _
      · exact rising_all r x srt' z hz
/-! ### isinstance(e, C), e.f in a suite; data compared -/
section
variable {K : PySem.W.Frag} {σ : L2.St} {H : Hp} {Q : VK} {a dd D C : Addr} {fs : List (Str × V)} {c x y v : V} {cv : Value} {b r : Bool} {i : Nat} {f : Str} {d1 d2 : PyData}
theorem i_isX (hdd : H dd = some (.xd fs)) (T : ExcD K D) (kc : ClsV c cv) (e : PySem.W.kitOne K (.ref D) cv = some b) (q : Q (.bl b) H) : rIsX K a (.ref D) (some dd) [.ref a, c] H Q := ⟨D, dd, fs, c, cv, b, rfl, rfl, rfl, hdd, T, kc, e, q⟩
theorem i_xf (h : σ[i]? = some (some (.ref a))) (hdd : H dd = some (.xd [(f, v)])) (q : Q v H) : tXf a (.ref C) (some dd) C f (tVar i) σ H Q := ⟨.ref a, h, rfl, rfl, dd, _, v, rfl, hdd, by simp [List.lookup], q⟩
theorem i_eq_data (h1 : Dp K H x d1) (h2 : Dp K H y d2) (s1 : SeqAt.shaped d1 = true) (s2 : SeqAt.shaped d2 = true) (e : PyData.eqv d1 d2 = r) (q : Q (.bl r) H) : eqP K x y H Q := .inr ⟨d1, d2, h1, h2, s1, s2, by rw [e]; exact q⟩
theorem i_ne_data (h1 : Dp K H x d1) (h2 : Dp K H y d2) (s1 : SeqAt.shaped d1 = true) (s2 : SeqAt.shaped d2 = true) (e : PyData.eqv d1 d2 = r) (q : Q (.bl (!r)) H) : neP K x y H Q := .inr ⟨d1, d2, h1, h2, s1, s2, by rw [e]; exact q⟩
theorem dp_bls (bs : List Bool) : DpAll K H (bs.map V.bl) (bs.map PyData.bool) := by
  induction bs with
  | nil => exact .nil
  | cons b r ih => exact .cons (.bl b) ih
theorem dp_ints (ns : List Int) : DpAll K H (ns.map V.int) (ns.map PyData.int) := by
  induction ns with
  | nil => exact .nil
  | cons b r ih => exact .cons (.int b) ih
end
theorem cIsX (K : PySem.W.Frag) {X : Cx} {a : Addr} {oe : Obj} {cls : Value} {d : Option Addr} {pn : List (Addr × Obj)} (hz : Zc cls d oe) (hf : ∃ vs, oe.data = .fields vs) (h : X.K = K := by rfl) : CallR (X.suite a ((a, oe) :: pn)) (.builtin "isinstance") (rIsX K a cls d) := h ▸ call_isX hz hf
/-- what a clause asks, at an error of a class that it names -/
theorem i_caught {K : PySem.W.Frag} {C : Addr} {c : Value} {i : Nat} {ts : Addr → Value → Option Addr → TS} {Wout : WX} {D : Ends} {d : Option Addr} {σ : L2.St} {H : Hp} (h : PySem.W.exmOne K (.ref C) c = some true)
    (q : ∀ a, H a = none → ts a (.ref C) d { nx := fun σ' H' => D.nx (σ'.set i none) H', rt := D.rt, bk := fun σ' H' => D.bk (σ'.set i none) H', ct := fun σ' H' => D.ct (σ'.set i none) H' } (σ.set i (some (.ref a))) H) : wAs K c i ts Wout D (.ref C) d σ H :=
  ⟨true, h, fun _ => q, fun z => nomatch z⟩
/-! ### isinstance and clauses, from what stands of the classes -/
theorem kit_ref {K : PySem.W.Frag} {C D : Addr} {b : Bool} (hi : PySem.W.isClsIn K D = true) (ht : PySem.W.typeIn K (.ref D) = some (.type "type")) (hs : PySem.W.subIn K (.ref D) (.ref D) = some true) (e : PySem.W.subIn K (.ref C) (.ref D) = some b) : PySem.W.kitOne K (.ref C) (.ref D) = some b := by
  unfold PySem.W.kitOne
  by_cases h : C = D
  · subst h
    rw [hs] at e
    rw [if_pos (beq_self_eq_true _)]
    exact e
  · rw [if_neg (fun z => h (by simpa using z))]
    show (if ((PySem.W.clsIn K D).isSome && PySem.W.typeIn K (.ref D) == some (.type "type")) = true then PySem.W.subIn K (.ref C) (.ref D) else none) = _
    rw [show (PySem.W.clsIn K D).isSome = true from hi, ht, if_pos (by simp)]
    exact e
theorem kit_base {K : PySem.W.Frag} {C : Addr} {T : String} {b : Bool} (hm : PySem.W.kitMeta T = true) (e : PySem.W.subIn K (.ref C) (.type T) = some b) : PySem.W.kitOne K (.ref C) (.type T) = some b := by
  unfold PySem.W.kitOne
  rw [if_neg (by simp)]
  show (if PySem.W.kitMeta T = true then PySem.W.subIn K (.ref C) (.type T) else none) = _
  rw [if_pos hm]
  exact e
theorem exm_ref {K : PySem.W.Frag} {C D : Addr} {b : Bool} (hi : PySem.W.isClsIn K D = true) (ht : PySem.W.typeIn K (.ref D) = some (.type "type")) (hb : PySem.W.subIn K (.ref D) (.type "BaseException") = some true) (e : PySem.W.subIn K (.ref C) (.ref D) = some b) : PySem.W.exmOne K (.ref C) (.ref D) = some b := by
  unfold PySem.W.exmOne
  rw [hb, if_pos (by simp)]
  show (if ((PySem.W.clsIn K D).isSome && PySem.W.typeIn K (.ref D) == some (.type "type")) = true then PySem.W.subIn K (.ref C) (.ref D) else none) = _
  rw [show (PySem.W.clsIn K D).isSome = true from hi, ht, if_pos (by simp)]
  exact e
/-! ### what is never come to; a comprehension in a comprehension -/
theorem pe_never {X : Cx} {e : Expr} : PE X e (fun _ _ _ => False) := ⟨fun _ _ _ _ _ _ h => h.elim⟩
theorem pss_never {X : Cx} {st : List Stmt} : PSs X st (fun _ _ _ => False) := ⟨fun _ _ _ _ _ _ h => h.elim⟩
theorem blkOk_in {N : List Str} {sc scope scope2 : Scope} {own : List (Str × Nat)} {X : Cx} {s : Shared} {H : Hp} {cl : List (Str × Addr)} {C : Addr} {fp : List Addr} (hN : X.N = N) (he : X.env.scope = sc) (h : blkC N (relS scope sc) scope2 own = true) :
    BlkOk (X.blk s H scope (compEnvC scope cl C X.env) fp).N (X.blk s H scope (compEnvC scope cl C X.env) fp).env.scope scope2 own := by
  subst hN he
  exact blkOk_by h
theorem i_int_bl {H : Hp} {Q : VK} {b : Bool} (q : Q (.int (if b then 1 else 0)) H) : rIntP [.bl b] H Q := .inr ⟨b, rfl, q⟩
theorem i_par {i j : Nat} {ta : TA} {D : Ends} {σ : L2.St} {H : Hp} (q : ta σ H fun vs H1 => ∃ v w, vs = [v, w] ∧ D.nx ((σ.set i (some v)).set j (some w)) H1) : tPar i j ta D σ H := q
theorem i_par2 {i j : Nat} {v w : V} {D : Ends} {σ : L2.St} {H : Hp} (q : D.nx ((σ.set i (some v)).set j (some w)) H) : ∃ v' w', [v, w] = [v', w'] ∧ D.nx ((σ.set i (some v')).set j (some w')) H := ⟨v, w, rfl, q⟩
end Fg
/-! Loops and comprehensions, by what a turn does. -/
namespace Fg
open PySem PySem.Spec PyProof.Rows L2
theorem same_upd {H : Hp} {p : Addr} {o : HO} (h : H p = none) : Same H (upd H p o) := fun b x e => by
  rw [upd_ne (ne_of_none e h)]
  exact e
theorem Same.upd {H H' : Hp} {p : Addr} {o : HO} (e : Same H H') (h : H p = none) : Same H (upd H' p o) := fun b x eb => by
  rw [upd_ne (ne_of_none eb h)]
  exact e b x eb
theorem Same.tup {K : PySem.W.Frag} {H H' : Hp} {a : Addr} {xs : List V} (e : Same H H') (h : SqT K H a xs) : SqT K H' a xs := by
  rcases h with (h | ⟨o, h⟩) | h
  · exact .inl (.inl (e _ _ h))
  · exact .inl (.inr ⟨o, e _ _ h⟩)
  · exact .inr h
section
variable {K : PySem.W.Frag} {σ : L2.St} {H : Hp} {Q : VK} {D : Ends} {te tl : TE} {tt : TT} {ta : TA} {tb : TS} {j : Nat} {g : TG} {a : Addr} {xs : List V} {z : List Nat} {vs : List Nat}
/-- for j in range(n) -/
theorem f_rng1 (n : Nat) (ha : ∀ R : List V → Hp → Prop, R [.int (n : Int)] H → ta σ H R) (hn : n ≤ 100000000) (Pv : Nat → L2.St → Hp → Prop) (h0 : Pv 0 σ H)
    (hs : ∀ i σ' H', i < n → Pv i σ' H' → g (.int (i : Int)) σ' H' fun σ2 H2 => tb { D with nx := Pv (i + 1), ct := Pv (i + 1), bk := D.nx } σ2 H2) (hd : ∀ σ' H', Pv n σ' H' → D.nx σ' H') : tFor (iRng1 ta) g tb D σ H := by
  refine ha _ ⟨(n : Int), rfl, by omega, by omega, ?_⟩
  rw [Int.toNat_natCast]
  refine for_range Pv h0 (fun i σ' H' hi p => ?_) hd
  rw [Int.zero_add]
  exact hs i σ' H' hi p
/-- for j in range(lo, n) -/
theorem f_rng2 (lo n : Nat) (ha : ∀ R : List V → Hp → Prop, R [.int (lo : Int), .int (n : Int)] H → ta σ H R) (hn : lo ≤ 100000 ∧ n ≤ 100000000) (Pv : Nat → L2.St → Hp → Prop) (h0 : Pv 0 σ H)
    (hs : ∀ i σ' H', lo + i < n → Pv i σ' H' → g (.int ((lo + i : Nat) : Int)) σ' H' fun σ2 H2 => tb { D with nx := Pv (i + 1), ct := Pv (i + 1), bk := D.nx } σ2 H2) (hd : ∀ σ' H', Pv (n - lo) σ' H' → D.nx σ' H') : tFor (iRng2 ta) g tb D σ H := by
  refine ha _ ⟨(lo : Int), (n : Int), rfl, ⟨by omega, by omega, by omega, by omega⟩, ?_⟩
  have e : ((n : Int) - (lo : Int)).toNat = n - lo := by omega
  rw [e]
  refine for_range Pv h0 (fun i σ' H' hi p => ?_) hd
  rw [← Int.natCast_add]
  exact hs i σ' H' (by omega) p
theorem f_lst (ha : ∀ R : VK, R (.ref a) H → te σ H R) (hx : SqL K H a xs) (Pv : Nat → L2.St → Hp → Prop) (h0 : Pv 0 σ H) (hl : ∀ i σ' H', i ≤ xs.length → Pv i σ' H' → SqL K H' a xs)
    (hs : ∀ i x σ' H', xs[i]? = some x → Pv i σ' H' → g x σ' H' fun σ2 H2 => tb { D with nx := Pv (i + 1), ct := Pv (i + 1), bk := D.nx } σ2 H2) (hd : ∀ σ' H', Pv xs.length σ' H' → D.nx σ' H') : tFor (iAny K te) g tb D σ H :=
  ha _ (.inl ⟨a, xs, rfl, hx, for_list Pv h0 hl hs hd⟩)
theorem f_tup (ha : ∀ R : VK, R (.ref a) H → te σ H R) (hx : SqT K H a xs) (Pv : Nat → L2.St → Hp → Prop) (h0 : Pv 0 σ H) (hl : ∀ i σ' H', i ≤ xs.length → Pv i σ' H' → SqT K H' a xs)
    (hs : ∀ i x σ' H', xs[i]? = some x → Pv i σ' H' → g x σ' H' fun σ2 H2 => tb { D with nx := Pv (i + 1), ct := Pv (i + 1), bk := D.nx } σ2 H2) (hd : ∀ σ' H', Pv xs.length σ' H' → D.nx σ' H') : tFor (iAny K te) g tb D σ H :=
  ha _ (.inr (.inl ⟨a, xs, rfl, hx, for_tup Pv h0 hl hs hd⟩))
theorem f_str (ha : ∀ R : VK, R (S z) H → te σ H R) (Pv : Nat → L2.St → Hp → Prop) (h0 : Pv 0 σ H)
    (hs : ∀ i c σ' H', z[i]? = some c → Pv i σ' H' → g (S [c]) σ' H' fun σ2 H2 => tb { D with nx := Pv (i + 1), ct := Pv (i + 1), bk := D.nx } σ2 H2) (hd : ∀ σ' H', Pv z.length σ' H' → D.nx σ' H') : tFor (iAny K te) g tb D σ H := by
  have e : (⟨z.toArray⟩ : Str).cps.size = z.length := str_len z
  refine ha _ (.inr (.inr ⟨_, rfl, for_it walk_str Pv h0 (fun _ _ _ _ _ => True.intro) (fun i x σ' H' H2 hi p y => ?_) (by rw [e]; exact hd)⟩))
  obtain ⟨rfl, c, hc, rfl⟩ := y
  exact hs i c σ' _ (by simpa using hc) p
/-- for i, c in enumerate(text) -/
theorem f_enumS {i1 i2 : Nat} (ha : ∀ R : List V → Hp → Prop, R [S z] H → ta σ H R) (Pv : Nat → L2.St → Hp → Prop) (h0 : Pv 0 σ H)
    (hs : ∀ i c σ' H' T, z[i]? = some c → Pv i σ' H' → H' T = none → tb { D with nx := Pv (i + 1), ct := Pv (i + 1), bk := D.nx } ((σ'.set i1 (some (.int (i : Int)))).set i2 (some (S [c]))) (upd H' T (.tup [.int (i : Int), S [c]]))) (hd : ∀ σ' H', Pv z.length σ' H' → D.nx σ' H') :
    tFor (iEnumP K ta) (gTup K 2 (gCons (gName i1) (gCons (gName i2) gNil))) tb D σ H := by
  have e : (⟨z.toArray⟩ : Str).cps.size = z.length := str_len z
  refine ha _ (.inr ⟨⟨z.toArray⟩, rfl, ?_⟩)
  have w : Walk (Ites ⟨z.toArray⟩) z.length (fun _ => True) (fun i Ha v Hb => ∃ T c, v = .ref T ∧ Ha T = none ∧ Hb = upd Ha T (.tup [.int (i : Nat), S [c]]) ∧ z[i]? = some c) := by
    refine ⟨fun i H' hi _ => by show i < (⟨z.toArray⟩ : Str).cps.size; rw [e]; exact hi, fun H' _ => e.symm, fun i H' x H2 hi _ y => ?_⟩
    obtain ⟨T, c, h1, h2, h3, h4⟩ := y
    exact ⟨T, c, h1, h2, h3, by simpa using h4⟩
  refine for_it w Pv h0 (fun _ _ _ _ _ => True.intro) (fun i x σ' H' H2 hi p y => ?_) hd
  obtain ⟨T, c, rfl, nT, rfl, hc⟩ := y
  exact ⟨T, _, rfl, SqT.of upd_same, rfl, _, _, rfl, _, _, rfl, rfl, hs i c σ' H' T hc p nT⟩
/-! comprehensions whose elements leave what stood -/
def Lw (H1 : Hp) (Dl : Addr) (l : Nat → List V) (i : Nat) (H' : Hp) : Prop := H1 Dl = none ∧ Same H1 H' ∧ H' Dl = some (.lst (l i))
/-- the kept ones among the first n -/
def kept (f : Nat → Bool) (v : Nat → V) (n : Nat) : List V := ((List.range n).filter f).map v
theorem kept_yes {f : Nat → Bool} {v : Nat → V} {n : Nat} (h : f n = true) : kept f v (n + 1) = kept f v n ++ [v n] := by
  unfold kept
  rw [List.range_succ, List.filter_append, List.map_append, List.filter_cons_of_pos h] <;> rfl
theorem kept_no {f : Nat → Bool} {v : Nat → V} {n : Nat} (h : f n = false) : kept f v (n + 1) = kept f v n := by
  unfold kept
  rw [List.range_succ, List.filter_append, List.map_append, List.filter_cons_of_neg (by rw [h]; decide)]
  simp
theorem kept_len (f : Nat → Bool) (v : Nat → V) (n : Nat) : (kept f v n).length ≤ n := by
  unfold kept
  rw [List.length_map]
  exact Nat.le_trans (List.length_filter_le _ _) (by rw [List.length_range]; exact Nat.le_refl _)
theorem kept_all (v : Nat → V) (n : Nat) : kept (fun _ => true) v n = (List.range n).map v := by
  unfold kept
  rw [List.filter_eq_self.mpr (fun _ _ => rfl)]
theorem lw_turn {H1 H' : Hp} {Dl : Addr} {f : Nat → Bool} {v : Nat → V} {i : Nat} {σ2 : L2.St} (p : Lw H1 Dl (kept f v) i H') (hi : i < 100000)
    (ht : ∀ H2, Same H1 H2 → ∀ QB : Bool → Hp → Prop, (∀ H3, Same H2 H3 → QB (f i) H3) → tt σ2 H2 QB) (he : ∀ H2, Same H1 H2 → f i = true → ∀ QV : VK, (∀ H3, Same H2 H3 → QV (v i) H3) → te σ2 H2 QV) :
    tt σ2 H' fun b H3 => if b = true then te σ2 H3 fun y H4 => ∃ acc, H4 Dl = some (.lst acc) ∧ acc.length < sizeLine ∧ Lw H1 Dl (kept f v) (i + 1) (upd H4 Dl (.lst (acc ++ [y]))) else Lw H1 Dl (kept f v) (i + 1) H3 := by
  obtain ⟨n1, s1, d1⟩ := p
  refine ht H' s1 _ fun H3 s3 => ?_
  cases hf : f i with
  | true =>
    rw [if_pos rfl]
    refine he H3 (s1.trans s3) hf _ fun H4 s4 => ⟨kept f v i, s4 _ _ (s3 _ _ d1), ?_, n1, ?_, ?_⟩
    · exact Nat.lt_of_le_of_lt (kept_len f v i) (Nat.lt_trans hi (by decide))
    · exact Same.upd ((s1.trans s3).trans s4) n1
    · rw [kept_yes hf]; exact upd_same
  | false =>
    rw [if_neg (by decide)]
    exact ⟨n1, s1.trans s3, by rw [kept_no hf]; exact s3 _ _ d1⟩
/-- [te for j in range(n) if tt] -/
theorem c_rng1 (n : Nat) (ha : ∀ R : List V → Hp → Prop, R [.int (n : Int)] H → ta σ H R) (hn : n ≤ 100000) (f : Nat → Bool) (v : Nat → V) (hw : ∀ x, wipe ((wipe σ vs).set j (some x)) vs = wipe σ vs)
    (ht : ∀ i H2, i < n → Same H H2 → ∀ QB : Bool → Hp → Prop, (∀ H3, Same H2 H3 → QB (f i) H3) → tt ((wipe σ vs).set j (some (.int (i : Int)))) H2 QB)
    (he : ∀ i H2, i < n → Same H H2 → f i = true → ∀ QV : VK, (∀ H3, Same H2 H3 → QV (v i) H3) → te ((wipe σ vs).set j (some (.int (i : Int)))) H2 QV)
    (q : ∀ Dl H2, H Dl = none → Same H H2 → H2 Dl = some (.lst (kept f v n)) → Q (.ref Dl) H2) : tLc (iRng1 ta) (gName j) tt te vs σ H Q := by
  refine ha _ ⟨(n : Int), rfl, by omega, by omega, fun Dl nD => ?_⟩
  rw [Int.toNat_natCast]
  refine lc_range (Lw H Dl (kept f v)) ⟨nD, same_upd nD, upd_same⟩ (fun i H' hi p => ?_) (fun H' p => q Dl H' p.1 p.2.1 p.2.2)
  rw [Int.zero_add]
  exact ⟨hw _, lw_turn p (by omega) (fun H2 s2 => ht i H2 hi s2) (fun H2 s2 => he i H2 hi s2)⟩
/-- .. every one -/
theorem c_rng1A (n : Nat) (ha : ∀ R : List V → Hp → Prop, R [.int (n : Int)] H → ta σ H R) (hn : n ≤ 100000) (v : Nat → V) (hw : ∀ x, wipe ((wipe σ vs).set j (some x)) vs = wipe σ vs)
    (he : ∀ i H2, i < n → Same H H2 → ∀ QV : VK, (∀ H3, Same H2 H3 → QV (v i) H3) → te ((wipe σ vs).set j (some (.int (i : Int)))) H2 QV)
    (q : ∀ Dl H2, H Dl = none → Same H H2 → H2 Dl = some (.lst ((List.range n).map v)) → Q (.ref Dl) H2) : tLc (iRng1 ta) (gName j) tYes te vs σ H Q :=
  c_rng1 n ha hn (fun _ => true) v hw (fun i H2 hi s2 QB k => k H2 (L2.Same.refl H2)) (fun i H2 hi s2 _ => he i H2 hi s2) (fun Dl H2 n1 s1 d1 => q Dl H2 n1 s1 (by rw [kept_all] at d1; exact d1))
/-- [te for j in a list if tt] -/
theorem c_lst (ha : ∀ R : VK, R (.ref a) H → tl σ H R) (hx : SqL K H a xs) (hn : xs.length ≤ 100000) (f : Nat → Bool) (v : Nat → V) (hw : ∀ x, wipe ((wipe σ vs).set j (some x)) vs = wipe σ vs)
    (ht : ∀ i x H2, xs[i]? = some x → Same H H2 → ∀ QB : Bool → Hp → Prop, (∀ H3, Same H2 H3 → QB (f i) H3) → tt ((wipe σ vs).set j (some x)) H2 QB)
    (he : ∀ i x H2, xs[i]? = some x → Same H H2 → f i = true → ∀ QV : VK, (∀ H3, Same H2 H3 → QV (v i) H3) → te ((wipe σ vs).set j (some x)) H2 QV)
    (q : ∀ Dl H2, H Dl = none → Same H H2 → H2 Dl = some (.lst (kept f v xs.length)) → Q (.ref Dl) H2) : tLc (iAny K tl) (gName j) tt te vs σ H Q := by
  refine ha _ (.inl ⟨a, xs, rfl, hx, fun Dl nD => ?_⟩)
  refine lc_list (Lw H Dl (kept f v)) ⟨nD, same_upd nD, upd_same⟩ (fun i H' hi p => p.2.1.seq hx) (fun i x H' hi p => ?_) (fun H' p => q Dl H' p.1 p.2.1 p.2.2)
  have hlt := (List.getElem?_eq_some_iff.mp hi).1
  exact ⟨hw _, lw_turn p (by omega) (fun H2 s2 => ht i x H2 hi s2) (fun H2 s2 => he i x H2 hi s2)⟩
/-- [te for j in a tuple if tt] -/
theorem c_tup (ha : ∀ R : VK, R (.ref a) H → tl σ H R) (hx : SqT K H a xs) (hn : xs.length ≤ 100000) (f : Nat → Bool) (v : Nat → V) (hw : ∀ x, wipe ((wipe σ vs).set j (some x)) vs = wipe σ vs)
    (ht : ∀ i x H2, xs[i]? = some x → Same H H2 → ∀ QB : Bool → Hp → Prop, (∀ H3, Same H2 H3 → QB (f i) H3) → tt ((wipe σ vs).set j (some x)) H2 QB)
    (he : ∀ i x H2, xs[i]? = some x → Same H H2 → f i = true → ∀ QV : VK, (∀ H3, Same H2 H3 → QV (v i) H3) → te ((wipe σ vs).set j (some x)) H2 QV)
    (q : ∀ Dl H2, H Dl = none → Same H H2 → H2 Dl = some (.lst (kept f v xs.length)) → Q (.ref Dl) H2) : tLc (iAny K tl) (gName j) tt te vs σ H Q := by
  refine ha _ (.inr (.inl ⟨a, xs, rfl, hx, fun Dl nD => ?_⟩))
  refine lc_tup (Lw H Dl (kept f v)) ⟨nD, same_upd nD, upd_same⟩ (fun i H' hi p => Same.tup p.2.1 hx) (fun i x H' hi p => ?_) (fun H' p => q Dl H' p.1 p.2.1 p.2.2)
  have hlt := (List.getElem?_eq_some_iff.mp hi).1
  exact ⟨hw _, lw_turn p (by omega) (fun H2 s2 => ht i x H2 hi s2) (fun H2 s2 => he i x H2 hi s2)⟩
end
/-! a loop over what the text makes anew -/
def LoopG (g : TG) (tb : TS) (D : Ends) (σ : L2.St) : It → Hp → Prop := fun J H1 => tFor (fun _ _ R => R J H1) g tb D σ H1
section
variable {K : PySem.W.Frag} {σ : L2.St} {H : Hp} {D : Ends} {te : TE} {tb : TS} {g : TG} {a : Addr} {xs : List V}
theorem i_for (q : te σ H fun x H1 => (∃ a xs, x = .ref a ∧ SqL K H1 a xs ∧ LoopG g tb D σ (Itl K a) H1) ∨ (∃ a xs, x = .ref a ∧ SqT K H1 a xs ∧ LoopG g tb D σ (Itt K a) H1) ∨ (∃ z, x = .str z ∧ LoopG g tb D σ (Its z) H1)) : tFor (iAny K te) g tb D σ H := q
theorem i_forL {B : Prop} (hx : SqL K H a xs) (Pv : Nat → L2.St → Hp → Prop) (h0 : Pv 0 σ H) (hl : ∀ i σ' H', i ≤ xs.length → Pv i σ' H' → SqL K H' a xs)
    (hs : ∀ i x σ' H', xs[i]? = some x → Pv i σ' H' → g x σ' H' fun σ2 H2 => tb { D with nx := Pv (i + 1), ct := Pv (i + 1), bk := D.nx } σ2 H2) (hd : ∀ σ' H', Pv xs.length σ' H' → D.nx σ' H') :
    (∃ a' xs', V.ref a = .ref a' ∧ SqL K H a' xs' ∧ LoopG g tb D σ (Itl K a') H) ∨ B := .inl ⟨a, xs, rfl, hx, for_list Pv h0 hl hs hd⟩
end
end Fg
namespace K07
open PySem PySem.Spec PyProof.Rows L2 Fg
def topS (i : Nat) : Stmt := PySem.Challenge.pw_falseglim_k07_rounds_for_ever.main.body.getD i (.Pass ⟨0, 0, 0, 0⟩)
abbrev s_wrong_sign : Stmt := topS 7
theorem sc_wrong_sign : FnScope ["row", "place", "sign"] ["row"] (defScope s_wrong_sign) := ⟨rfl, rfl, rfl, by decide +kernel, rfl, by decide +kernel, by decide +kernel⟩
abbrev s_check_round : Stmt := topS 8
theorem sc_check_round : FnScope ["thing", "place"] ["thing"] (defScope s_check_round) := ⟨rfl, rfl, rfl, by decide +kernel, rfl, by decide +kernel, by decide +kernel⟩
abbrev s_shortest : Stmt := topS 10
theorem sc_shortest : FnScope ["row", "many"] ["row"] (defScope s_shortest) := ⟨rfl, rfl, rfl, by decide +kernel, rfl, by decide +kernel, by decide +kernel⟩
abbrev s_turns_of : Stmt := topS 11
theorem sc_turns_of : FnScope ["row", "many"] ["row"] (defScope s_turns_of) := ⟨rfl, rfl, rfl, by decide +kernel, rfl, by decide +kernel, by decide +kernel⟩
abbrev s_least_round : Stmt := topS 12
theorem sc_least_round : FnScope ["row"] ["row"] (defScope s_least_round) := ⟨rfl, rfl, rfl, by decide +kernel, rfl, by decide +kernel, by decide +kernel⟩
abbrev s_rhythm : Stmt := topS 13
theorem sc_rhythm : FnScope ["row"] ["row"] (defScope s_rhythm) := ⟨rfl, rfl, rfl, by decide +kernel, rfl, by decide +kernel, by decide +kernel⟩
abbrev s_turned : Stmt := topS 14
theorem sc_turned : FnScope ["row", "beats", "many"] ["row", "beats"] (defScope s_turned) := ⟨rfl, rfl, rfl, by decide +kernel, rfl, by decide +kernel, by decide +kernel⟩
abbrev s_alike : Stmt := topS 15
theorem sc_alike : FnScope ["first", "second"] ["first", "second"] (defScope s_alike) := ⟨rfl, rfl, rfl, by decide +kernel, rfl, by decide +kernel, by decide +kernel⟩
abbrev s_moments : Stmt := topS 16
theorem sc_moments : FnScope ["first", "second", "turns", "many"] ["first", "second"] (defScope s_moments) := ⟨rfl, rfl, rfl, by decide +kernel, rfl, by decide +kernel, by decide +kernel⟩
abbrev s_L_draw : Stmt := topS 18
theorem sc_L_draw : FnScope ["_law_script", "_law_cells", "_law_cell"] ["_law_script"] (defScope s_L_draw) := ⟨rfl, rfl, rfl, by decide +kernel, rfl, by decide +kernel, by decide +kernel⟩
abbrev s_L_mix : Stmt := topS 19
theorem sc_L_mix : FnScope ["_law_cell", "_law_turn", "_law_one", "_law_two"] ["_law_cell", "_law_turn"] (defScope s_L_mix) := ⟨rfl, rfl, rfl, by decide +kernel, rfl, by decide +kernel, by decide +kernel⟩
abbrev s_L_pick : Stmt := topS 20
theorem sc_L_pick : FnScope ["_law_draw_here", "_law_many", "_law_cell", "_law_digit", "_law_found"] ["_law_draw_here", "_law_many"] (defScope s_L_pick) := ⟨rfl, rfl, rfl, by decide +kernel, rfl, by decide +kernel, by decide +kernel⟩
abbrev s_L_is_int : Stmt := topS 21
theorem sc_L_is_int : FnScope ["_law_thing"] ["_law_thing"] (defScope s_L_is_int) := ⟨rfl, rfl, rfl, by decide +kernel, rfl, by decide +kernel, by decide +kernel⟩
abbrev s_L_sign : Stmt := topS 22
theorem sc_L_sign : FnScope ["_law_draw_here"] ["_law_draw_here"] (defScope s_L_sign) := ⟨rfl, rfl, rfl, by decide +kernel, rfl, by decide +kernel, by decide +kernel⟩
abbrev s_L_round : Stmt := topS 23
theorem sc_L_round : FnScope ["_law_draw_here", "_law_most", "_law_turn"] ["_law_draw_here", "_law_most"] (defScope s_L_round) := ⟨rfl, rfl, rfl, by decide +kernel, rfl, by decide +kernel, by decide +kernel⟩
abbrev s_L_bent : Stmt := topS 24
theorem sc_L_bent : FnScope ["_law_draw_here", "_law_row", "_law_place", "_law_kind"] ["_law_draw_here", "_law_row"] (defScope s_L_bent) := ⟨rfl, rfl, rfl, by decide +kernel, rfl, by decide +kernel, by decide +kernel⟩
abbrev s_L_same_for_ever : Stmt := topS 25
theorem sc_L_same_for_ever : FnScope ["_law_first", "_law_second", "_law_spot"] ["_law_first", "_law_second"] (defScope s_L_same_for_ever) := ⟨rfl, rfl, rfl, by decide +kernel, rfl, by decide +kernel, by decide +kernel⟩
abbrev s_L_least : Stmt := topS 26
theorem sc_L_least : FnScope ["_law_row", "_law_many"] ["_law_row"] (defScope s_L_least) := ⟨rfl, rfl, rfl, by decide +kernel, rfl, by decide +kernel, by decide +kernel⟩
abbrev s_L_later : Stmt := topS 27
theorem sc_L_later : FnScope ["_law_row", "_law_many", "_law_spot"] ["_law_row", "_law_many"] (defScope s_L_later) := ⟨rfl, rfl, rfl, by decide +kernel, rfl, by decide +kernel, by decide +kernel⟩
abbrev s_L_rhythm : Stmt := topS 28
theorem sc_L_rhythm : FnScope ["_law_row", "_law_least_here", "_law_many"] ["_law_row"] (defScope s_L_rhythm) := ⟨rfl, rfl, rfl, by decide +kernel, rfl, by decide +kernel, by decide +kernel⟩
abbrev s_L_moments : Stmt := topS 29
theorem sc_L_moments : FnScope ["_law_first", "_law_second", "_law_many", "_law_number_here"] ["_law_first", "_law_second"] (defScope s_L_moments) := ⟨rfl, rfl, rfl, by decide +kernel, rfl, by decide +kernel, by decide +kernel⟩
abbrev s_L_rounds : Stmt := topS 30
theorem sc_L_rounds : FnScope ["_law_draw_here", "_law_base", "_law_first", "_law_kind", "_law_second"] ["_law_draw_here"] (defScope s_L_rounds) := ⟨rfl, rfl, rfl, by decide +kernel, rfl, by decide +kernel, by decide +kernel⟩
abbrev s_L_number : Stmt := topS 31
theorem sc_L_number : FnScope ["_law_draw_here", "_law_kind"] ["_law_draw_here"] (defScope s_L_number) := ⟨rfl, rfl, rfl, by decide +kernel, rfl, by decide +kernel, by decide +kernel⟩
abbrev s_L_call : Stmt := topS 32
theorem sc_L_call : FnScope ["_law_kind", "_law_first", "_law_second"] ["_law_kind", "_law_first", "_law_second"] (defScope s_L_call) := ⟨rfl, rfl, rfl, by decide +kernel, rfl, by decide +kernel, by decide +kernel⟩
abbrev s_L_told : Stmt := topS 33
theorem sc_L_told : FnScope ["_law_kind", "_law_first", "_law_second", "e", "_law_hits"] ["_law_kind", "_law_first", "_law_second"] (defScope s_L_told) := ⟨rfl, rfl, rfl, by decide +kernel, rfl, by decide +kernel, by decide +kernel⟩
abbrev s_L_text_told : Stmt := topS 34
theorem sc_L_text_told : FnScope ["_law_told_here", "_law_due"] ["_law_told_here", "_law_due"] (defScope s_L_text_told) := ⟨rfl, rfl, rfl, by decide +kernel, rfl, by decide +kernel, by decide +kernel⟩
abbrev s_L_pair_right : Stmt := topS 35
theorem sc_L_pair_right : FnScope ["_law_first", "_law_second", "_law_many", "_law_told_here", "_law_due", "_law_number_here"] ["_law_first", "_law_second", "_law_many"] (defScope s_L_pair_right) := ⟨rfl, rfl, rfl, by decide +kernel, rfl, by decide +kernel, by decide +kernel⟩
abbrev s_L_bad_round : Stmt := topS 36
theorem sc_L_bad_round : FnScope ["_law_draw_here", "_law_row", "_law_menu", "_law_place", "_law_later_here", "_law_bad"] ["_law_draw_here", "_law_row"] (defScope s_L_bad_round) := ⟨rfl, rfl, rfl, by decide +kernel, rfl, by decide +kernel, by decide +kernel⟩
abbrev s_L_refused : Stmt := topS 37
theorem sc_L_refused : FnScope ["_law_told_here", "_law_word", "_law_due"] ["_law_told_here", "_law_word", "_law_due"] (defScope s_L_refused) := ⟨rfl, rfl, rfl, by decide +kernel, rfl, by decide +kernel, by decide +kernel⟩
abbrev s_L_refusals_right : Stmt := topS 38
theorem sc_L_refusals_right : FnScope ["_law_draw_here", "_law_first", "_law_second", "_law_bad", "_law_other", "_law_kind", "_law_thing"] ["_law_draw_here", "_law_first", "_law_second"] (defScope s_L_refusals_right) := ⟨rfl, rfl, rfl, by decide +kernel, rfl, by decide +kernel, by decide +kernel⟩
abbrev s_law : Stmt := topS 39
theorem sc_law : FnScope ["_law_script", "_law_draw_here", "_law_rows", "_law_third", "_law_pair"] ["_law_script"] (defScope s_law) := ⟨rfl, rfl, rfl, by decide +kernel, rfl, by decide +kernel, by decide +kernel⟩
abbrev s_BadRound : Stmt := inClass (topS 2) 0
theorem sc_BadRound : FnScope ["self", "number"] ["self", "number"] (defScope s_BadRound) := ⟨rfl, rfl, rfl, by decide +kernel, rfl, by decide +kernel, by decide +kernel⟩
abbrev s_BadBeats : Stmt := inClass (topS 3) 0
theorem sc_BadBeats : FnScope ["self", "beats"] ["self", "beats"] (defScope s_BadBeats) := ⟨rfl, rfl, rfl, by decide +kernel, rfl, by decide +kernel, by decide +kernel⟩
/-- what the top has written -/
structure Txt (K : PySem.W.Frag) (mg : Str → Option Value) (C_GlimError : Addr) (C_BadRound : Addr) (C_BadBeats : Addr) : Prop where
  d_wrong_sign : DefIn K mg "wrong_sign" s_wrong_sign ["row"]
  d_check_round : DefIn K mg "check_round" s_check_round ["thing"]
  d_shortest : DefIn K mg "shortest" s_shortest ["row"]
  d_turns_of : DefIn K mg "turns_of" s_turns_of ["row"]
  d_least_round : DefIn K mg "least_round" s_least_round ["row"]
  d_rhythm : DefIn K mg "rhythm" s_rhythm ["row"]
  d_turned : DefIn K mg "turned" s_turned ["row", "beats"]
  d_alike : DefIn K mg "alike" s_alike ["first", "second"]
  d_moments : DefIn K mg "moments" s_moments ["first", "second"]
  d_L_draw : DefIn K mg "_law_draw" s_L_draw ["_law_script"]
  d_L_mix : DefIn K mg "_law_mix" s_L_mix ["_law_cell", "_law_turn"]
  d_L_pick : DefIn K mg "_law_pick" s_L_pick ["_law_draw_here", "_law_many"]
  d_L_is_int : DefIn K mg "_law_is_int" s_L_is_int ["_law_thing"]
  d_L_sign : DefIn K mg "_law_sign" s_L_sign ["_law_draw_here"]
  d_L_round : DefIn K mg "_law_round" s_L_round ["_law_draw_here", "_law_most"]
  d_L_bent : DefIn K mg "_law_bent" s_L_bent ["_law_draw_here", "_law_row"]
  d_L_same_for_ever : DefIn K mg "_law_same_for_ever" s_L_same_for_ever ["_law_first", "_law_second"]
  d_L_least : DefIn K mg "_law_least" s_L_least ["_law_row"]
  d_L_later : DefIn K mg "_law_later" s_L_later ["_law_row", "_law_many"]
  d_L_rhythm : DefIn K mg "_law_rhythm" s_L_rhythm ["_law_row"]
  d_L_moments : DefIn K mg "_law_moments" s_L_moments ["_law_first", "_law_second"]
  d_L_rounds : DefIn K mg "_law_rounds" s_L_rounds ["_law_draw_here"]
  d_L_number : DefIn K mg "_law_number" s_L_number ["_law_draw_here"]
  d_L_call : DefIn K mg "_law_call" s_L_call ["_law_kind", "_law_first", "_law_second"]
  d_L_told : DefIn K mg "_law_told" s_L_told ["_law_kind", "_law_first", "_law_second"]
  d_L_text_told : DefIn K mg "_law_text_told" s_L_text_told ["_law_told_here", "_law_due"]
  d_L_pair_right : DefIn K mg "_law_pair_right" s_L_pair_right ["_law_first", "_law_second", "_law_many"]
  d_L_bad_round : DefIn K mg "_law_bad_round" s_L_bad_round ["_law_draw_here", "_law_row"]
  d_L_refused : DefIn K mg "_law_refused" s_L_refused ["_law_told_here", "_law_word", "_law_due"]
  d_L_refusals_right : DefIn K mg "_law_refusals_right" s_L_refusals_right ["_law_draw_here", "_law_first", "_law_second"]
  d_law : DefIn K mg "law" s_law ["_law_script"]
  b_ValueError : mg "ValueError" = none
  b_abs : mg "abs" = none
  b_all : mg "all" = none
  b_bool : mg "bool" = none
  b_enumerate : mg "enumerate" = none
  b_int : mg "int" = none
  b_isinstance : mg "isinstance" = none
  b_len : mg "len" = none
  b_min : mg "min" = none
  b_range : mg "range" = none
  b_sorted : mg "sorted" = none
  b_str : mg "str" = none
  b_sum : mg "sum" = none
  b_tuple : mg "tuple" = none
  g_SIGNS : ∃ t, mg "SIGNS" = some (.str ⟨([46, 103, 114, 119] : List Nat).toArray⟩ t)
  g_MOST_ROUND : ∃ t, mg "MOST_ROUND" = some (.int 24 t)
  c_GlimError : mg "GlimError" = some (.ref C_GlimError)
  c_BadRound : mg "BadRound" = some (.ref C_BadRound)
  c_BadBeats : mg "BadBeats" = some (.ref C_BadBeats)
  o_BadRound : OexC K C_BadRound
  nf_BadRound : PySem.W.findIn K (.ref C_BadRound) "number" = some none
  i_BadRound : ∃ fI fd, PySem.W.findIn K (.ref C_BadRound) "__init__" = some (some (.ref fI)) ∧ PySem.W.typeIn K (.ref fI) = some (.type "function") ∧ Fun K "__init__" "BadRound.__init__" s_BadRound fI fd ∧ Binds K fd ["self", "number"] []
  e_BadRound : ExcD K C_BadRound
  o_BadBeats : OexC K C_BadBeats
  nf_BadBeats : PySem.W.findIn K (.ref C_BadBeats) "beats" = some none
  i_BadBeats : ∃ fI fd, PySem.W.findIn K (.ref C_BadBeats) "__init__" = some (some (.ref fI)) ∧ PySem.W.typeIn K (.ref fI) = some (.type "function") ∧ Fun K "__init__" "BadBeats.__init__" s_BadBeats fI fd ∧ Binds K fd ["self", "beats"] []
  e_BadBeats : ExcD K C_BadBeats
  k_BadRound_BadRound : PySem.W.kitOne K (.ref C_BadRound) (.ref C_BadRound) = some true
  k_BadRound_BadBeats : PySem.W.kitOne K (.ref C_BadRound) (.ref C_BadBeats) = some false
  k_BadRound_ValueError : PySem.W.kitOne K (.ref C_BadRound) (.type "ValueError") = some true
  k_BadBeats_BadRound : PySem.W.kitOne K (.ref C_BadBeats) (.ref C_BadRound) = some false
  k_BadBeats_BadBeats : PySem.W.kitOne K (.ref C_BadBeats) (.ref C_BadBeats) = some true
  k_BadBeats_ValueError : PySem.W.kitOne K (.ref C_BadBeats) (.type "ValueError") = some true
  m_BadRound_GlimError : PySem.W.exmOne K (.ref C_BadRound) (.ref C_GlimError) = some true
  m_BadBeats_GlimError : PySem.W.exmOne K (.ref C_BadBeats) (.ref C_GlimError) = some true
section
variable {P : Program} {w : World} {K : PySem.W.Frag} {mg : Str → Option Value} {base : Heap} {C_GlimError C_BadRound C_BadBeats : Addr}
theorem okx_BadRound (T : Txt K mg C_GlimError C_BadRound C_BadBeats) : OKx P w K mg base "BadRound" "number" C_BadRound := by
  obtain ⟨fI, fd, h1, h2, F, hb⟩ := T.i_BadRound
  exact ⟨T.c_BadRound, T.o_BadRound, T.nf_BadRound, fI, fd, h1, h2, ini_ok F sc_BadRound T.o_BadRound T.nf_BadRound (fun cdv A outer s H E => (pss_one (ps_ost (pv 0) (pv 1)))), hb⟩
theorem okx_BadBeats (T : Txt K mg C_GlimError C_BadRound C_BadBeats) : OKx P w K mg base "BadBeats" "beats" C_BadBeats := by
  obtain ⟨fI, fd, h1, h2, F, hb⟩ := T.i_BadBeats
  exact ⟨T.c_BadBeats, T.o_BadBeats, T.nf_BadBeats, fI, fd, h1, h2, ini_ok F sc_BadBeats T.o_BadBeats T.nf_BadBeats (fun cdv A outer s H E => (pss_one (ps_ost (pv 0) (pv 1)))), hb⟩
end
end K07
namespace K07
open PySem PySem.Spec PyProof.Rows L2 Fg
local macro_rules | `(tactic| walk_at "sq") => `(tactic| first
  | assumption
  | exact .inl (.inl (by assumption))
  | exact .inl (.inl upd_same))
local macro_rules | `(tactic| walk_at "st") => `(tactic| first
  | assumption
  | exact .inl (.inl (by assumption))
  | exact .inl (.inl upd_same))
local macro_rules | `(tactic| walk_at "o") => `(tactic| first
  | omega
  | assumption
  | (simp only [List.length_append, List.length_take, List.length_drop, List.length_cons, List.length_nil, List.length_singleton, List.length_map, List.length_range, Int.toNat_natCast] ; omega))
local macro_rules | `(tactic| walk_at "s") => `(tactic| first
  | (with_reducible refine i_seq ?_)
  | (with_reducible refine i_asg ?_)
  | ((with_reducible refine' i_var ?h1 ?_); (case h1 => rfl))
  | (with_reducible refine i_c ?_)
  | ((with_reducible refine' i_gname' ?h1 ?_); (case h1 => (simp only [List.set_cons_zero, List.set_cons_succ]; rfl)))
  | (with_reducible refine i_op ?_)
  | (with_reducible refine i_ifS ?_)
  | (with_reducible refine i_for ?_)
  | (with_reducible refine i_test ?_)
  | (with_reducible refine i_B ?_)
  | (with_reducible refine i_exbl ?_)
  | (with_reducible refine i_exint ?_)
  | (with_reducible refine i_cb ?_)
  | (with_reducible refine i_nil ?_)
  | (with_reducible refine i_cons ?_)
  | (with_reducible refine i_ret ?_)
  | (with_reducible refine i_sl ?_)
  | (with_reducible refine i_nopart ?_)
  | (with_reducible refine i_part ?_)
  | (with_reducible refine i_add_int ?_)
  | (with_reducible refine i_sub ?_)
  | (with_reducible refine i_lt ?_)
  | ((with_reducible refine' i_mod ?h1 ?_); (case h1 => walk_at "o"))
  | ((with_reducible refine' i_fdiv ?h1 ?_); (case h1 => (refine cdiv_small ?_ ?_ <;> walk_at "o")))
  | ((with_reducible refine' i_sl_to ?h1 ?h2 ?_); (case h1 => walk_at "o"); (case h2 => walk_at "o"))
  | ((with_reducible refine' i_sl_from ?h1 ?h2 ?_); (case h1 => walk_at "o"); (case h2 => walk_at "o"))
  | ((with_reducible refine' i_add_str ?h1 ?_); (case h1 => walk_at "o"))
  | ((with_reducible refine' i_mul_int ?h1 ?_); (case h1 => first | (refine mul_small ?_ ?_ <;> walk_at "o") | (refine mul_smallR ?_ ?_ <;> walk_at "o")))
  | (with_reducible refine i_le ?_)
  | (with_reducible refine i_gt ?_)
  | (with_reducible refine i_ge ?_)
  | (with_reducible refine i_eq_int ?_)
  | (with_reducible refine i_eq_str ?_)
  | (with_reducible refine i_ne_int ?_)
  | (with_reducible refine i_ne_str ?_)
  | (with_reducible refine i_eq_bl ?_)
  | (with_reducible refine i_ne_bl ?_)
  | (with_reducible refine i_in_sg ?_)
  | (with_reducible refine i_notIn_sg ?_)
  | (with_reducible refine i_call ?_)
  | (with_reducible refine i_callS ?_)
  | (with_reducible refine i_sp1 ?_)
  | (with_reducible refine i_sp2 ?_)
  | (with_reducible refine i_sp3 ?_)
  | (with_reducible refine i_sp4 ?_)
  | (with_reducible refine i_sp1' ?_)
  | (with_reducible refine i_sp2' ?_)
  | (with_reducible refine i_sp3' ?_)
  | ((with_reducible refine' i_ix_lst ?h1 ?h2 ?_); (case h1 => walk_at "sq"); (case h2 => first | exact atI_nat rfl | rfl))
  | ((with_reducible refine' i_ix_tup ?h1 ?h2 ?_); (case h1 => walk_at "st"); (case h2 => first | exact atI_nat rfl | rfl))
  | (with_reducible refine i_gsub ?_)
  | (with_reducible refine i_raise ?_)
  | (with_reducible refine i_mkE ?_)
  | (with_reducible refine i_ex1 ?_)
  | (with_reducible refine i_and ?_)
  | (with_reducible refine i_or ?_)
  | (with_reducible refine i_not ?_)
  | (with_reducible refine i_tt ?_)
  | (with_reducible refine i_ff ?_)
  | (with_reducible refine i_nott ?_)
  | (with_reducible refine i_notf ?_)
  | (with_reducible refine i_andV ?_)
  | (with_reducible refine i_orV ?_)
  | (with_reducible refine i_notV ?_)
  | (with_reducible refine i_ifE ?_)
  | (with_reducible refine i_tup ?_)
  | (with_reducible refine i_lst ?_)
  | (with_reducible refine i_un ?_)
  | (with_reducible refine i_neg ?_)
  | (with_reducible refine i_chain ?_)
  | (with_reducible refine i_next ?_)
  | (with_reducible refine i_retN ?_)
  | (with_reducible refine i_drop ?_)
  | (with_reducible refine i_int_int ?_)
  | (with_reducible refine i_abs ?_)
  | (with_reducible refine i_m1c ?_)
  | (with_reducible refine i_is_non ?_)
  | (with_reducible refine i_is_int ?_)
  | (with_reducible refine i_is_str ?_)
  | (with_reducible refine i_is_ref ?_)
  | (with_reducible refine i_isn_non ?_)
  | (with_reducible refine i_isn_int ?_)
  | (with_reducible refine i_isn_str ?_)
  | (with_reducible refine i_isn_ref ?_)
  | (with_reducible refine i_len_str ?h1 ?_; (case h1 => walk_at "o"))
  | (with_reducible refine i_isi_int_int ?_) | (with_reducible refine i_isi_int_bool ?_) | (with_reducible refine i_isi_int_str ?_) | (with_reducible refine i_isi_int_tuple ?_) | (with_reducible refine i_isi_int_list ?_)
  | (with_reducible refine i_isi_bl_int ?_) | (with_reducible refine i_isi_bl_bool ?_) | (with_reducible refine i_isi_bl_str ?_) | (with_reducible refine i_isi_bl_tuple ?_) | (with_reducible refine i_isi_bl_list ?_)
  | (with_reducible refine i_isi_str_int ?_) | (with_reducible refine i_isi_str_bool ?_) | (with_reducible refine i_isi_str_str ?_) | (with_reducible refine i_isi_str_tuple ?_) | (with_reducible refine i_isi_str_list ?_)
  | (with_reducible refine i_isi_non_int ?_) | (with_reducible refine i_isi_non_bool ?_) | (with_reducible refine i_isi_non_str ?_) | (with_reducible refine i_isi_non_tuple ?_) | (with_reducible refine i_isi_non_list ?_))
local macro_rules | `(tactic| walk_at "go") => `(tactic| (repeat' (walk_at "s")))
/-! ### the program -/
def rpt (n : Nat) (l : List Nat) : List Nat := (List.replicate n l).flatten
/-- what the program asks of a stretch -/
def good (l : List Nat) (m : Nat) : Prop := l.length % m = 0 ∧ rpt (l.length / m) (l.take m) = l
/-- the program's shortest -/
def IsShort (l r : List Nat) : Prop := ∃ m, 1 ≤ m ∧ m ≤ l.length ∧ r = l.take m ∧ (good l m ∨ m = l.length) ∧ ∀ k, 1 ≤ k → k < m → ¬ good l k
theorem IsShort.len {l r : List Nat} (h : IsShort l r) : 1 ≤ r.length ∧ r.length ≤ l.length := by
  obtain ⟨m, h1, h2, rfl, _⟩ := h
  rw [List.length_take]
  omega
theorem div_le {n m k : Nat} (hk : 1 ≤ k) (h : n ≤ m) : n / k ≤ m := Nat.le_trans (Nat.div_le_self _ _) h
theorem mul_div_le {l : List Nat} {k : Nat} (h : l.length ≤ 1000) : (l.take k).length * (l.length / k) ≤ 100000 := by
  rw [List.length_take]
  have h1 : min k l.length ≤ k := Nat.min_le_left _ _
  have h2 : min k l.length * (l.length / k) ≤ k * (l.length / k) := Nat.mul_le_mul_right _ h1
  have h3 := Nat.mul_div_le l.length k
  omega
abbrev SG : List Nat := [46, 103, 114, 119]
def IsRound (l : List Nat) : Prop := 1 ≤ l.length ∧ l.length ≤ 24 ∧ ∀ c ∈ l, c ∈ SG
def turn (l : List Nat) (k : Nat) : List Nat := l.drop k ++ l.take k
def turns (l : List Nat) : List (List Nat) := (List.range l.length).map (turn l)
def firstBad (l : List Nat) : Option Nat := l.findIdx? fun c => !decide (c ∈ SG)
def oV : Option Nat → V
  | none => .non
  | some p => .int (p : Int)
/-- what is no string -/
def NoStr (H : Hp) (x : V) : Prop := x = .non ∨ (∃ b, x = .bl b) ∨ (∃ i, x = .int i) ∨ ∃ a xs, x = .ref a ∧ (H a = some (.tup xs) ∨ H a = some (.lst xs))
theorem NoStr.mono {H H' : Hp} {x : V} (h : NoStr H x) (s : Same H H') : NoStr H' x := by
  rcases h with h | h | h | ⟨a, xs, h, h2⟩
  · exact .inl h
  · exact .inr (.inl h)
  · exact .inr (.inr (.inl h))
  · exact .inr (.inr (.inr ⟨a, xs, h, h2.imp (s _ _) (s _ _)⟩))
/-- no round, and what BadRound bears of it -/
def BadR (H : Hp) (x : V) (k : Int) : Prop := (NoStr H x ∧ k = -1) ∨ ∃ l, x = S l ∧ l.length ≤ 1000 ∧ ((¬ (1 ≤ l.length ∧ l.length ≤ 24) ∧ k = -1) ∨ ((1 ≤ l.length ∧ l.length ≤ 24) ∧ ∃ p, firstBad l = some p ∧ k = (p : Int)))
theorem BadR.mono {H H' : Hp} {x : V} {k : Int} (h : BadR H x k) (s : Same H H') : BadR H' x k := by
  rcases h with ⟨h, e⟩ | h
  · exact .inl ⟨h.mono s, e⟩
  · exact .inr h
def BadX (C : Addr) (H : Hp) (x : V) (E : XK) : Prop := ∃ k, BadR H x k ∧ Rz E H C "number" (.int k)
theorem BadX.mono {C : Addr} {H H' : Hp} {x : V} {E : XK} (h : BadX C H x E) (s : Same H H') : BadX C H' x E := by
  obtain ⟨k, h1, h2⟩ := h
  exact ⟨k, h1.mono s, h2.mono s⟩
theorem firstBad_none {l : List Nat} (h : ∀ c ∈ l, c ∈ SG) : firstBad l = none := by
  unfold firstBad
  rw [List.findIdx?_eq_none_iff]
  intro c hc
  simp [h c hc]
theorem firstBad_some {l : List Nat} {p : Nat} {c : Nat} (h : l[p]? = some c) (hc : c ∉ SG) (hb : ∀ k < p, ∀ c, l[k]? = some c → c ∈ SG) : firstBad l = some p := by
  unfold firstBad
  rw [List.findIdx?_eq_some_iff_getElem]
  obtain ⟨hp, e⟩ := List.getElem?_eq_some_iff.mp h
  refine ⟨hp, by simpa [e] using hc, fun j hj => ?_⟩
  have := hb j hj (l[j]) (List.getElem?_eq_getElem (by omega))
  simp only [decide_eq_true this, Bool.not_true]
  decide
section
variable {P : Program} {w : World} {K : PySem.W.Frag} {mg : Str → Option Value} {base : Heap} {C_GlimError C_BadRound C_BadBeats : Addr}
def p_shortest : P1 := fun x H Q _ => ∃ l, x = S l ∧ 1 ≤ l.length ∧ l.length ≤ 1000 ∧ ∀ r, IsShort l r → Q (S r) H
theorem ok_shortest (T : Txt K mg C_GlimError C_BadRound C_BadBeats) : OK P w K mg base CX0 1 "shortest" ["row"] (sp1  p_shortest) := by
  refine OK.mk (k := 0) T.d_shortest sc_shortest len1 fun f cdv A outer s H vs Q E hr h => ?_
  obtain ⟨x, rfl, h⟩ := h
  refine ⟨_, (pss_cons (ps_for PassesOwn.never rfl (pi_range2 rfl T.b_range (pa_cons pe_int (pa_cons (pe_callB (cLen K) (by rfl) T.b_len (by decide +kernel) (pa_cons (pv 0) pa_nil)) pa_nil))) (pg_name (i := 1) sc_shortest.nd rfl (Or.inl rfl)) (pss_one (ps_if (pw_and (pt_cmpR (opEq K hr.units) (pe_op op_modP (pe_callB (cLen K) (by rfl) T.b_len (by decide +kernel) (pa_cons (pv 0) pa_nil)) (pv 1)) pe_int (nomark _)) (pw_and1 (pt_cmpR (opEq K hr.units) (pe_op op_mulP (pe_slice (slK K) (pv 0) po_none (po_some (pv 1))) (pe_op op_fdivP (pe_callB (cLen K) (by rfl) T.b_len (by decide +kernel) (pa_cons (pv 0) pa_nil)) (pv 1))) (pv 0) (nomark _)))).pt (pss_one (ps_ret (pe_slice (slK K) (pv 0) po_none (po_some (pv 1))))) pss_nil))) (pss_one (ps_ret (pv 0)))), ?_⟩
  show (_ : TS) { nx := fun _ H' => Q .non H', rt := Q } [some x, none] H
  obtain ⟨l, rfl, h1, h2, q⟩ := h
  walk_at "go"
  refine f_rng2 1 l.length (fun R k => by walk_at "go"; exact k) (by omega) (fun i σ H' => ∃ v, σ = [some (S l), v] ∧ H' = H ∧ ∀ k, 1 ≤ k → k < 1 + i → ¬ good l k) ⟨none, rfl, rfl, by omega⟩ ?_ ?_
  · rintro i σ H' hi ⟨v, rfl, rfl, hn⟩
    walk_at "go"
    refine i_dec (fun e1 => ?_) (fun e1 => ?_)
    · walk_at "go"
      refine i_mul_strI (by rw [← Int.natCast_ediv]; exact Int.natCast_nonneg _) ?_ ?_
      · rw [← Int.natCast_ediv, Int.toNat_natCast, Int.toNat_natCast]
        exact ⟨mul_div_le h2, div_le (by omega) (by omega)⟩
      · walk_at "go"
        rw [← Int.natCast_ediv, Int.toNat_natCast, Int.toNat_natCast]
        refine i_dec (fun e2 => ?_) (fun e2 => ?_)
        · walk_at "go"
          exact q _ ⟨1 + i, by omega, by omega, by rw [Int.toNat_natCast], .inl ⟨by omega, e2⟩, hn⟩
        · walk_at "go"
          exact ⟨_, rfl, rfl, fun k k1 k2 => by
            by_cases hk : k < 1 + i
            · exact hn k k1 hk
            · have : k = 1 + i := by omega
              subst this
              exact fun g => e2 g.2⟩
    · walk_at "go"
      exact ⟨_, rfl, rfl, fun k k1 k2 => by
        by_cases hk : k < 1 + i
        · exact hn k k1 hk
        · have : k = 1 + i := by omega
          subst this
          exact fun g => e1 (by have := g.1; omega)⟩
  · rintro σ H' ⟨v, rfl, rfl, hn⟩
    walk_at "go"
    exact q l ⟨l.length, h1, Nat.le_refl _, (List.take_length).symm, .inr rfl, fun k k1 k2 => hn k k1 (by omega)⟩
def p_turns_of : P1 := fun x H Q _ => ∃ l, x = S l ∧ l.length ≤ 1000 ∧ ∀ Dl H', H Dl = none → Same H H' → H' Dl = some (.lst ((turns l).map S)) → Q (.ref Dl) H'
theorem ok_turns_of (T : Txt K mg C_GlimError C_BadRound C_BadBeats) : OK P w K mg base CX0 1 "turns_of" ["row"] (sp1  p_turns_of) := by
  refine OK.mk (k := 0) T.d_turns_of sc_turns_of len1 fun f cdv A outer s H vs Q E hr h => ?_
  obtain ⟨x, rfl, h⟩ := h
  refine ⟨_, (pss_one (ps_ret (pe_lc (own := [("many", 1)]) (g := gName 1) (tt := tYes) (by rfl) sc_turns_of.nd (pi_range1 rfl T.b_range (pa_cons (pe_callB (cLen K) (by rfl) T.b_len (by decide +kernel) (pa_cons (pv 0) pa_nil)) pa_nil)) (blkOk_by (own := [("many", 1)]) (N := ["row", "many"]) (sc := (defScope s_turns_of)) (by decide +kernel)) (fun _ _ _ _ _ => (pg_name (i := 1) sc_turns_of.nd rfl (Or.inl rfl))) (fun _ _ _ _ _ => pts_nil) (fun _ _ _ _ _ => (pe_op (opAdd K) (pe_slice (slK K) (pv 0) (po_some (pv 1)) po_none) (pe_slice (slK K) (pv 0) po_none (po_some (pv 1)))))))), ?_⟩
  show (_ : TS) { nx := fun _ H' => Q .non H', rt := Q } [some x, none] H
  obtain ⟨l, rfl, h1, q⟩ := h
  walk_at "go"
  refine c_rng1A l.length (fun R k => by walk_at "go"; exact k) (by omega) (fun i => S (turn l i)) (fun _ => rfl) (fun i H2 hi s2 QV k => ?_) (fun Dl H2 n s d => ?_)
  · show tOp _ _ _ [some (S l), some (.int (i : Int))] H2 QV
    walk_at "go"
    rw [Int.toNat_natCast]
    exact k H2 (Same.refl H2)
  · refine q Dl H2 n s ?_
    rw [d]
    unfold turns
    rw [List.map_map]
    rfl
def p_wrong_sign : P1 := fun x H Q _ => ∃ l, x = S l ∧ l.length ≤ 1000 ∧ ∀ H', Same H H' → Q (oV (firstBad l)) H'
theorem ok_wrong_sign (T : Txt K mg C_GlimError C_BadRound C_BadBeats) : OK P w K mg base CX0 1 "wrong_sign" ["row"] (sp1  p_wrong_sign) := by
  refine OK.mk (k := 0) T.d_wrong_sign sc_wrong_sign len1 fun f cdv A outer s H vs Q E hr h => ?_
  obtain ⟨x, rfl, h⟩ := h
  refine ⟨_, (pss_cons (ps_for PassesOwn.never rfl (piEnum K rfl T.b_enumerate (pa_cons (pv 0) pa_nil)) (pgTup K rfl (pgs_cons (pg_name (i := 1) sc_wrong_sign.nd rfl (Or.inl rfl)) (pgs_cons (pg_name (i := 2) sc_wrong_sign.nd rfl (Or.inl rfl)) pgs_nil))) (pss_one (ps_if (pt_cmpR (opNotIn K) (pv 2) (pe_gS [46, 103, 114, 119] T.g_SIGNS) (by with_unfolding_all rfl)) (pss_one (ps_ret (pv 1))) pss_nil))) (pss_one (ps_ret pe_non))), ?_⟩
  show (_ : TS) { nx := fun _ H' => Q .non H', rt := Q } [some x, none, none] H
  obtain ⟨l, rfl, h1, q⟩ := h
  walk_at "go"
  refine f_enumS (z := l) (fun R k => by walk_at "go"; exact k) (fun i σ H' => ∃ v1 v2, σ = [some (S l), v1, v2] ∧ Same H H' ∧ ∀ k < i, ∀ c, l[k]? = some c → c ∈ SG) ⟨none, none, rfl, Same.refl H, by omega⟩ ?_ ?_
  · rintro i c σ H' Tt hc ⟨v1, v2, rfl, s1, hb⟩ nT
    show (_ : TS) _ [some (S l), some (.int (i : Int)), some (S [c])] _
    walk_at "go"
    refine i_decN (fun e => ?_) (fun e => ?_)
    · walk_at "go"
      have := q _ (s1.trans (same_upd (o := .tup [.int (i : Int), S [c]]) nT))
      rw [firstBad_some hc e hb] at this
      exact this
    · walk_at "go"
      refine ⟨_, _, rfl, s1.trans (same_upd nT), fun k hk c' hc' => ?_⟩
      by_cases e' : k < i
      · exact hb k e' c' hc'
      · have : k = i := by omega
        subst this
        rw [hc] at hc'
        cases hc'
        exact e
  · rintro σ H' ⟨v1, v2, rfl, s1, hb⟩
    walk_at "go"
    have := q _ s1
    rw [firstBad_none fun c hc => by
      obtain ⟨k, hk⟩ := List.getElem?_of_mem hc
      exact hb k (List.getElem?_eq_some_iff.mp hk).1 c hk] at this
    exact this
end
end K07
namespace K07
open PySem PySem.Spec PyProof.Rows L2 Fg
local macro_rules | `(tactic| walk_at "sq") => `(tactic| first
  | assumption
  | exact .inl (.inl (by assumption))
  | exact .inl (.inl upd_same))
local macro_rules | `(tactic| walk_at "st") => `(tactic| first
  | assumption
  | exact .inl (.inl (by assumption))
  | exact .inl (.inl upd_same))
local macro_rules | `(tactic| walk_at "o") => `(tactic| first
  | omega
  | assumption
  | (simp only [List.length_append, List.length_take, List.length_drop, List.length_cons, List.length_nil, List.length_singleton, List.length_map, List.length_range, Int.toNat_natCast] ; omega))
local macro_rules | `(tactic| walk_at "s") => `(tactic| first
  | (with_reducible refine i_seq ?_)
  | (with_reducible refine i_asg ?_)
  | ((with_reducible refine' i_var ?h1 ?_); (case h1 => rfl))
  | (with_reducible refine i_c ?_)
  | ((with_reducible refine' i_gname' ?h1 ?_); (case h1 => (simp only [List.set_cons_zero, List.set_cons_succ]; rfl)))
  | (with_reducible refine i_op ?_)
  | (with_reducible refine i_ifS ?_)
  | (with_reducible refine i_for ?_)
  | (with_reducible refine i_test ?_)
  | (with_reducible refine i_B ?_)
  | (with_reducible refine i_exbl ?_)
  | (with_reducible refine i_exint ?_)
  | (with_reducible refine i_cb ?_)
  | (with_reducible refine i_nil ?_)
  | (with_reducible refine i_cons ?_)
  | (with_reducible refine i_ret ?_)
  | (with_reducible refine i_sl ?_)
  | (with_reducible refine i_nopart ?_)
  | (with_reducible refine i_part ?_)
  | (with_reducible refine i_add_int ?_)
  | (with_reducible refine i_sub ?_)
  | (with_reducible refine i_lt ?_)
  | ((with_reducible refine' i_mod ?h1 ?_); (case h1 => walk_at "o"))
  | ((with_reducible refine' i_fdiv ?h1 ?_); (case h1 => (refine cdiv_small ?_ ?_ <;> walk_at "o")))
  | ((with_reducible refine' i_sl_to ?h1 ?h2 ?_); (case h1 => walk_at "o"); (case h2 => walk_at "o"))
  | ((with_reducible refine' i_sl_from ?h1 ?h2 ?_); (case h1 => walk_at "o"); (case h2 => walk_at "o"))
  | ((with_reducible refine' i_add_str ?h1 ?_); (case h1 => walk_at "o"))
  | ((with_reducible refine' i_mul_int ?h1 ?_); (case h1 => first | (refine mul_small ?_ ?_ <;> walk_at "o") | (refine mul_smallR ?_ ?_ <;> walk_at "o")))
  | (with_reducible refine i_le ?_)
  | (with_reducible refine i_gt ?_)
  | (with_reducible refine i_ge ?_)
  | (with_reducible refine i_eq_int ?_)
  | (with_reducible refine i_eq_str ?_)
  | (with_reducible refine i_ne_int ?_)
  | (with_reducible refine i_ne_str ?_)
  | (with_reducible refine i_eq_bl ?_)
  | (with_reducible refine i_ne_bl ?_)
  | (with_reducible refine i_in_sg ?_)
  | (with_reducible refine i_notIn_sg ?_)
  | (with_reducible refine i_call ?_)
  | (with_reducible refine i_callS ?_)
  | (with_reducible refine i_sp1 ?_)
  | (with_reducible refine i_sp2 ?_)
  | (with_reducible refine i_sp3 ?_)
  | (with_reducible refine i_sp4 ?_)
  | (with_reducible refine i_sp1' ?_)
  | (with_reducible refine i_sp2' ?_)
  | (with_reducible refine i_sp3' ?_)
  | ((with_reducible refine' i_ix_lst ?h1 ?h2 ?_); (case h1 => walk_at "sq"); (case h2 => first | exact atI_nat rfl | rfl))
  | ((with_reducible refine' i_ix_tup ?h1 ?h2 ?_); (case h1 => walk_at "st"); (case h2 => first | exact atI_nat rfl | rfl))
  | (with_reducible refine i_gsub ?_)
  | (with_reducible refine i_raise ?_)
  | (with_reducible refine i_mkE ?_)
  | (with_reducible refine i_ex1 ?_)
  | (with_reducible refine i_and ?_)
  | (with_reducible refine i_or ?_)
  | (with_reducible refine i_not ?_)
  | (with_reducible refine i_tt ?_)
  | (with_reducible refine i_ff ?_)
  | (with_reducible refine i_nott ?_)
  | (with_reducible refine i_notf ?_)
  | (with_reducible refine i_andV ?_)
  | (with_reducible refine i_orV ?_)
  | (with_reducible refine i_notV ?_)
  | (with_reducible refine i_ifE ?_)
  | (with_reducible refine i_tup ?_)
  | (with_reducible refine i_lst ?_)
  | (with_reducible refine i_un ?_)
  | (with_reducible refine i_neg ?_)
  | (with_reducible refine i_chain ?_)
  | (with_reducible refine i_next ?_)
  | (with_reducible refine i_retN ?_)
  | (with_reducible refine i_drop ?_)
  | (with_reducible refine i_int_int ?_)
  | (with_reducible refine i_abs ?_)
  | (with_reducible refine i_m1c ?_)
  | (with_reducible refine i_is_non ?_)
  | (with_reducible refine i_is_int ?_)
  | (with_reducible refine i_is_str ?_)
  | (with_reducible refine i_is_ref ?_)
  | (with_reducible refine i_isn_non ?_)
  | (with_reducible refine i_isn_int ?_)
  | (with_reducible refine i_isn_str ?_)
  | (with_reducible refine i_isn_ref ?_)
  | (with_reducible refine i_len_str ?h1 ?_; (case h1 => walk_at "o"))
  | (with_reducible refine i_isi_int_int ?_) | (with_reducible refine i_isi_int_bool ?_) | (with_reducible refine i_isi_int_str ?_) | (with_reducible refine i_isi_int_tuple ?_) | (with_reducible refine i_isi_int_list ?_)
  | (with_reducible refine i_isi_bl_int ?_) | (with_reducible refine i_isi_bl_bool ?_) | (with_reducible refine i_isi_bl_str ?_) | (with_reducible refine i_isi_bl_tuple ?_) | (with_reducible refine i_isi_bl_list ?_)
  | (with_reducible refine i_isi_str_int ?_) | (with_reducible refine i_isi_str_bool ?_) | (with_reducible refine i_isi_str_str ?_) | (with_reducible refine i_isi_str_tuple ?_) | (with_reducible refine i_isi_str_list ?_)
  | (with_reducible refine i_isi_non_int ?_) | (with_reducible refine i_isi_non_bool ?_) | (with_reducible refine i_isi_non_str ?_) | (with_reducible refine i_isi_non_tuple ?_) | (with_reducible refine i_isi_non_list ?_))
local macro_rules | `(tactic| walk_at "go") => `(tactic| (repeat' (walk_at "s")))
section
variable {P : Program} {w : World} {K : PySem.W.Frag} {mg : Str → Option Value} {base : Heap} {C_GlimError C_BadRound C_BadBeats : Addr}
def p_check_round (C : Addr) : P1 := fun x H Q E => (∃ l, x = S l ∧ IsRound l ∧ ∀ H', Same H H' → Q .non H') ∨ BadX C H x E
theorem ok_check_round (T : Txt K mg C_GlimError C_BadRound C_BadBeats) : OK P w K mg base (L2.CX P w) 3 "check_round" ["thing"] (sp1  (p_check_round C_BadRound)) := by
  refine OK.mkX (k := 2) T.d_check_round sc_check_round len1 fun f cdv A outer s H vs Q E hr h => ?_
  obtain ⟨x, rfl, h⟩ := h
  refine ⟨_, (pss_cons (ps_if (pw_or (pt_not (pt_val (pe_callB (cIsi K) (by rfl) T.b_isinstance (by decide +kernel) (pa_cons (pv 0) (pa_cons (pe_bltn (v := .ty "str") (by rfl) T.b_str (by decide +kernel) rfl) pa_nil))))) (pw_or1 (pt_not (pt_chain op_leP op_leP pe_int (pe_callB (cLen K) (by rfl) T.b_len (by decide +kernel) (pa_cons (pv 0) pa_nil)) (pe_gI 24 T.g_MOST_ROUND))))).pt (pss_one (ps_raiseP rfl (takes_of rfl rfl rfl rfl) (pmk_E (k := 0) (okx_BadRound T) (hr.mono (by decide)) (pa_cons (pe_un un_neg pe_int) pa_nil)))) pss_nil) (pss_cons (ps_set (i := 1) sc_check_round.nd rfl (Or.inl rfl) (pe_f (ok_wrong_sign (K := K) T) (hr.mono (by decide)) pass0 (pa_cons (pv 0) pa_nil))) (pss_one (ps_if (pt_cmpR op_isNotP (pv 1) pe_non (nomark _)) (pss_one (ps_raiseP rfl (takes_of rfl rfl rfl rfl) (pmk_E (k := 0) (okx_BadRound T) (hr.mono (by decide)) (pa_cons (pv 1) pa_nil)))) pss_nil)))), ?_⟩
  show (_ : TS) { nx := fun _ H' => Q .non H', rt := Q } [some x, none] H
  rcases h with ⟨l, rfl, ⟨h1, h2, h3⟩, q⟩ | ⟨k, h | ⟨l, rfl, hl, h⟩, z⟩
  · walk_at "go"
    refine i_dec (fun e1 => ?_) (fun e1 => absurd (by omega) e1)
    walk_at "go"
    refine i_decN (fun e2 => absurd (by omega) e2) (fun e2 => ?_)
    walk_at "go"
    refine ⟨l, rfl, by omega, fun H1 s1 => ?_⟩
    rw [firstBad_none h3, show oV none = V.non from rfl]
    walk_at "go"
    exact q H1 s1
  · obtain ⟨h, rfl⟩ := h
    rcases h with rfl | ⟨b, rfl⟩ | ⟨i, rfl⟩ | ⟨a, xs, rfl, h | h⟩
    · walk_at "go"
      intro d nd
      exact z.at nd
    · walk_at "go"
      intro d nd
      exact z.at nd
    · walk_at "go"
      intro d nd
      exact z.at nd
    · walk_at "go"
      refine i_isi_tup_str h ?_
      walk_at "go"
      intro d nd
      exact z.at nd
    · walk_at "go"
      refine i_isi_lst_str h ?_
      walk_at "go"
      intro d nd
      exact z.at nd
  · rcases h with ⟨h, rfl⟩ | ⟨⟨h1, h2⟩, p, hp, rfl⟩
    · walk_at "go"
      refine i_dec (fun e1 => ?_) (fun e1 => ?_)
      · walk_at "go"
        refine i_decN (fun e2 => ?_) (fun e2 => absurd (by omega) h)
        walk_at "go"
        intro d nd
        exact z.at nd
      · walk_at "go"
        intro d nd
        exact z.at nd
    · walk_at "go"
      refine i_dec (fun e1 => ?_) (fun e1 => absurd (by omega) e1)
      walk_at "go"
      refine i_decN (fun e2 => absurd (by omega) e2) (fun e2 => ?_)
      walk_at "go"
      refine ⟨l, rfl, by omega, fun H1 s1 => ?_⟩
      rw [hp, show oV (some p) = V.int (p : Int) from rfl]
      walk_at "go"
      intro d nd
      exact (z.mono s1).at nd
def p_least_round (C : Addr) : P1 := fun x H Q E => (∃ l, x = S l ∧ IsRound l ∧ ∀ r H', IsShort l r → Same H H' → Q (S r) H') ∨ BadX C H x E
theorem ok_least_round (T : Txt K mg C_GlimError C_BadRound C_BadBeats) : OK P w K mg base (L2.CX P w) 4 "least_round" ["row"] (sp1  (p_least_round C_BadRound)) := by
  refine OK.mkX (k := 3) T.d_least_round sc_least_round len1 fun f cdv A outer s H vs Q E hr h => ?_
  obtain ⟨x, rfl, h⟩ := h
  refine ⟨_, (pss_cons (ps_expr (pe_f (ok_check_round (K := K) T) (hr.mono (by decide)) (passes_call (takes_of rfl rfl rfl rfl) (fun _ _ _ _ h => h)) (pa_cons (pv 0) pa_nil))) (pss_one (ps_ret (pe_f (ok_shortest (K := K) T) (hr.mono (by decide)) pass0 (pa_cons (pv 0) pa_nil))))), ?_⟩
  show (_ : TS) { nx := fun _ H' => Q .non H', rt := Q } [some x] H
  rcases h with ⟨l, rfl, hl, q⟩ | h
  · walk_at "go"
    refine .inl ⟨l, rfl, hl, fun H1 s1 => ?_⟩
    walk_at "go"
    exact ⟨l, rfl, hl.1, by have := hl.2.1; omega, fun r hr => q r H1 hr s1⟩
  · walk_at "go"
    exact .inr h
def p_rhythm (C : Addr) : P1 := fun x H Q E => (∃ l, x = S l ∧ IsRound l ∧ ∀ r m H', IsShort l r → m ∈ turns r → (∀ y ∈ turns r, ¬ y < m) → Same H H' → Q (S m) H') ∨ BadX C H x E
theorem ok_rhythm (T : Txt K mg C_GlimError C_BadRound C_BadBeats) : OK P w K mg base (L2.CX P w) 4 "rhythm" ["row"] (sp1  (p_rhythm C_BadRound)) := by
  refine OK.mkX (k := 3) T.d_rhythm sc_rhythm len1 fun f cdv A outer s H vs Q E hr h => ?_
  obtain ⟨x, rfl, h⟩ := h
  refine ⟨_, (pss_cons (ps_expr (pe_f (ok_check_round (K := K) T) (hr.mono (by decide)) (passes_call (takes_of rfl rfl rfl rfl) (fun _ _ _ _ h => h)) (pa_cons (pv 0) pa_nil))) (pss_one (ps_ret (pe_callB (cMinS K rfl) (by rfl) T.b_min (by decide +kernel) (pa_cons (pe_f (ok_turns_of (K := K) T) (hr.mono (by decide)) pass0 (pa_cons (pe_f (ok_shortest (K := K) T) (hr.mono (by decide)) pass0 (pa_cons (pv 0) pa_nil)) pa_nil)) pa_nil))))), ?_⟩
  show (_ : TS) { nx := fun _ H' => Q .non H', rt := Q } [some x] H
  rcases h with ⟨l, rfl, hl, q⟩ | h
  · walk_at "go"
    refine .inl ⟨l, rfl, hl, fun H1 s1 => ?_⟩
    walk_at "go"
    refine ⟨l, rfl, hl.1, by have := hl.2.1; omega, fun r hr => ?_⟩
    walk_at "go"
    have hlen := hr.len
    have h24 := hl.2.1
    refine ⟨r, rfl, by omega, fun Dl H2 n2 s2 d2 => ?_⟩
    walk_at "go"
    refine i_minS (.inl (.inl d2)) (fun z => ?_) (fun m hm hle => q r m H2 hr hm hle (s1.trans s2))
    have := congrArg List.length z
    unfold turns at this
    rw [List.length_map, List.length_range] at this
    simp at this
    subst this
    simp at hlen
  · walk_at "go"
    exact .inr h
/-- no number of beats -/
def NoBeats (H : Hp) (y : V) : Prop := (∃ b, y = .bl b) ∨ (∃ n : Int, y = .int n ∧ n < 0) ∨ y = .non ∨ (∃ l, y = S l) ∨ ∃ a xs, y = .ref a ∧ (H a = some (.tup xs) ∨ H a = some (.lst xs))
theorem NoBeats.mono {H H' : Hp} {x : V} (h : NoBeats H x) (s : Same H H') : NoBeats H' x := by
  rcases h with h | h | h | h | ⟨a, xs, h, h2⟩
  · exact .inl h
  · exact .inr (.inl h)
  · exact .inr (.inr (.inl h))
  · exact .inr (.inr (.inr (.inl h)))
  · exact .inr (.inr (.inr (.inr ⟨a, xs, h, h2.imp (s _ _) (s _ _)⟩)))
def p_turned (C CB : Addr) : P2 := fun x y H Q E => (∃ l, x = S l ∧ IsRound l ∧ ((∃ n : Int, y = .int n ∧ 0 ≤ n ∧ ∀ H', Same H H' → Q (S (turn l (n % l.length).toNat)) H') ∨ (NoBeats H y ∧ Rz E H CB "beats" y))) ∨ BadX C H x E
theorem ok_turned (T : Txt K mg C_GlimError C_BadRound C_BadBeats) : OK P w K mg base (L2.CX P w) 4 "turned" ["row", "beats"] (sp2  (p_turned C_BadRound C_BadBeats)) := by
  refine OK.mkX (k := 3) T.d_turned sc_turned len2 fun f cdv A outer s H vs Q E hr h => ?_
  obtain ⟨x, y, rfl, h⟩ := h
  refine ⟨_, (pss_cons (ps_expr (pe_f (ok_check_round (K := K) T) (hr.mono (by decide)) (passes_call (takes_of rfl rfl rfl rfl) (fun _ _ _ _ h => h)) (pa_cons (pv 0) pa_nil))) (pss_cons (ps_if (pw_or (pt_val (pe_callB (cIsi K) (by rfl) T.b_isinstance (by decide +kernel) (pa_cons (pv 1) (pa_cons (pe_bltn (v := .ty "bool") (by rfl) T.b_bool (by decide +kernel) rfl) pa_nil)))) (pw_or (pt_not (pt_val (pe_callB (cIsi K) (by rfl) T.b_isinstance (by decide +kernel) (pa_cons (pv 1) (pa_cons (pe_bltn (v := .ty "int") (by rfl) T.b_int (by decide +kernel) rfl) pa_nil))))) (pw_or1 (pt_cmpR op_ltP (pv 1) pe_int (nomark _))))).pt (pss_one (ps_raiseP rfl (takes_of rfl rfl rfl rfl) (pmk_E (k := 0) (okx_BadBeats T) (hr.mono (by decide)) (pa_cons (pv 1) pa_nil)))) pss_nil) (pss_cons (ps_set (i := 2) sc_turned.nd rfl (Or.inl rfl) (pe_op op_modP (pv 1) (pe_callB (cLen K) (by rfl) T.b_len (by decide +kernel) (pa_cons (pv 0) pa_nil)))) (pss_one (ps_ret (pe_op (opAdd K) (pe_slice (slK K) (pv 0) (po_some (pv 2)) po_none) (pe_slice (slK K) (pv 0) po_none (po_some (pv 2))))))))), ?_⟩
  show (_ : TS) { nx := fun _ H' => Q .non H', rt := Q } [some x, some y, none] H
  rcases h with ⟨l, rfl, hl, h⟩ | h
  · walk_at "go"
    refine .inl ⟨l, rfl, hl, fun H1 s1 => ?_⟩
    have l1 := hl.1
    have l2 := hl.2.1
    rcases h with ⟨n, rfl, hn, q⟩ | ⟨nb, z⟩
    · walk_at "go"
      refine i_dec (fun e => absurd e (by omega)) (fun _ => ?_)
      have h0 : 0 ≤ n % (l.length : Int) := Int.emod_nonneg _ (by omega)
      walk_at "go"
      exact q H1 s1
    · rcases nb.mono s1 with ⟨b, rfl⟩ | ⟨n, rfl, hn⟩ | rfl | ⟨m, rfl⟩ | ⟨a, xs, rfl, h | h⟩
      · walk_at "go"
        intro d nd
        exact (z.mono s1).at nd
      · walk_at "go"
        refine i_dec (fun _ => ?_) (fun e => absurd hn e)
        walk_at "go"
        intro d nd
        exact (z.mono s1).at nd
      · walk_at "go"
        intro d nd
        exact (z.mono s1).at nd
      · walk_at "go"
        intro d nd
        exact (z.mono s1).at nd
      · walk_at "go"
        refine i_isi_tup_bool h ?_
        walk_at "go"
        refine i_isi_tup_int h ?_
        walk_at "go"
        intro d nd
        exact (z.mono s1).at nd
      · walk_at "go"
        refine i_isi_lst_bool h ?_
        walk_at "go"
        refine i_isi_lst_int h ?_
        walk_at "go"
        intro d nd
        exact (z.mono s1).at nd
  · walk_at "go"
    exact .inr h
def p_two (C : Addr) (R : List Nat → List Nat → Hp → VK → Prop) : P2 := fun x y H Q E => (∃ l1, x = S l1 ∧ IsRound l1 ∧ ((∃ l2, y = S l2 ∧ IsRound l2 ∧ R l1 l2 H Q) ∨ BadX C H y E)) ∨ BadX C H x E
def r_alike : List Nat → List Nat → Hp → VK → Prop := fun l1 l2 H Q => ∀ r1 r2 H', IsShort l1 r1 → IsShort l2 r2 → Same H H' → Q (.bl (decide (r1 = r2))) H'
theorem ok_alike (T : Txt K mg C_GlimError C_BadRound C_BadBeats) : OK P w K mg base (L2.CX P w) 4 "alike" ["first", "second"] (sp2  (p_two C_BadRound r_alike)) := by
  refine OK.mkX (k := 3) T.d_alike sc_alike len2 fun f cdv A outer s H vs Q E hr h => ?_
  obtain ⟨x, y, rfl, h⟩ := h
  refine ⟨_, (pss_cons (ps_expr (pe_f (ok_check_round (K := K) T) (hr.mono (by decide)) (passes_call (takes_of rfl rfl rfl rfl) (fun _ _ _ _ h => h)) (pa_cons (pv 0) pa_nil))) (pss_cons (ps_expr (pe_f (ok_check_round (K := K) T) (hr.mono (by decide)) (passes_call (takes_of rfl rfl rfl rfl) (fun _ _ _ _ h => h)) (pa_cons (pv 1) pa_nil))) (pss_one (ps_ret (pe_cmpR (opEq K hr.units) (pe_f (ok_shortest (K := K) T) (hr.mono (by decide)) pass0 (pa_cons (pv 0) pa_nil)) (pe_f (ok_shortest (K := K) T) (hr.mono (by decide)) pass0 (pa_cons (pv 1) pa_nil)) (nomark _)))))), ?_⟩
  show (_ : TS) { nx := fun _ H' => Q .non H', rt := Q } [some x, some y] H
  rcases h with ⟨l1, rfl, hl1, ⟨l2, rfl, hl2, q⟩ | h⟩ | h
  · walk_at "go"
    refine .inl ⟨l1, rfl, hl1, fun H1 s1 => ?_⟩
    walk_at "go"
    refine .inl ⟨l2, rfl, hl2, fun H2 s2 => ?_⟩
    walk_at "go"
    refine ⟨l1, rfl, hl1.1, by have := hl1.2.1; omega, fun r1 hr1 => ?_⟩
    walk_at "go"
    refine ⟨l2, rfl, hl2.1, by have := hl2.2.1; omega, fun r2 hr2 => ?_⟩
    walk_at "go"
    exact q r1 r2 H2 hr1 hr2 (s1.trans s2)
  · walk_at "go"
    refine .inl ⟨l1, rfl, hl1, fun H1 s1 => ?_⟩
    walk_at "go"
    exact .inr (h.mono s1)
  · walk_at "go"
    exact .inr h
def r_moments : List Nat → List Nat → Hp → VK → Prop := fun l1 l2 H Q => ∀ r1 r2 Dl H', IsShort l1 r1 → IsShort l2 r2 → H Dl = none → Same H H' → H' Dl = some (.tup (((List.range r2.length).filter fun k => decide (turn r2 k = r1)).map fun (k : Nat) => V.int (k : Int))) → Q (.ref Dl) H'
theorem short_ex (l : List Nat) (h : 1 ≤ l.length) : ∃ r, IsShort l r := by
  have key : ∀ n m, n + m = l.length → 1 ≤ m → (∀ k, 1 ≤ k → k < m → ¬ good l k) → ∃ r, IsShort l r := by
    intro n
    induction n with
    | zero => exact fun m hm h1 hk => ⟨l.take m, m, h1, by omega, rfl, .inr (by omega), hk⟩
    | succ n ih =>
      intro m hm h1 hk
      by_cases hg : good l m
      · exact ⟨l.take m, m, h1, by omega, rfl, .inl hg, hk⟩
      · refine ih (m + 1) (by omega) (by omega) fun k k1 k2 => ?_
        by_cases e : k < m
        · exact hk k k1 e
        · have : k = m := by omega
          subst this
          exact hg
  exact key (l.length - 1) 1 (by omega) (Nat.le_refl _) (by omega)
theorem short_one {l r r' : List Nat} (h : IsShort l r) (h' : IsShort l r') : r = r' := by
  obtain ⟨m, a1, a2, rfl, a3, a4⟩ := h
  obtain ⟨m', b1, b2, rfl, b3, b4⟩ := h'
  have : m = m' := by
    by_cases h1 : m < m'
    · rcases a3 with a3 | a3
      · exact absurd a3 (b4 m a1 h1)
      · omega
    · by_cases h2 : m' < m
      · rcases b3 with b3 | b3
        · exact absurd b3 (a4 m' b1 h2)
        · omega
      · omega
  rw [this]
theorem ok_moments (T : Txt K mg C_GlimError C_BadRound C_BadBeats) : OK P w K mg base (L2.CX P w) 4 "moments" ["first", "second"] (sp2  (p_two C_BadRound r_moments)) := by
  refine OK.mkX (k := 3) T.d_moments sc_moments len2 fun f cdv A outer s H vs Q E hr h => ?_
  obtain ⟨x, y, rfl, h⟩ := h
  refine ⟨_, (pss_cons (ps_expr (pe_f (ok_check_round (K := K) T) (hr.mono (by decide)) (passes_call (takes_of rfl rfl rfl rfl) (fun _ _ _ _ h => h)) (pa_cons (pv 0) pa_nil))) (pss_cons (ps_expr (pe_f (ok_check_round (K := K) T) (hr.mono (by decide)) (passes_call (takes_of rfl rfl rfl rfl) (fun _ _ _ _ h => h)) (pa_cons (pv 1) pa_nil))) (pss_cons (ps_set (i := 2) sc_moments.nd rfl (Or.inr rfl) (pe_f (ok_turns_of (K := K) T) (hr.mono (by decide)) pass0 (pa_cons (pe_f (ok_shortest (K := K) T) (hr.mono (by decide)) pass0 (pa_cons (pv 1) pa_nil)) pa_nil))) (pss_one (ps_ret (pe_callTy (cTup K) (by rfl) T.b_tuple (by decide +kernel) (pa_cons (pe_lc (own := [("many", 3)]) (g := gName 3) (by rfl) sc_moments.nd (pi_range1 rfl T.b_range (pa_cons (pe_callB (cLen K) (by rfl) T.b_len (by decide +kernel) (pa_cons (pv 2) pa_nil)) pa_nil)) (blkOk_by (own := [("many", 3)]) (N := ["first", "second", "turns", "many"]) (sc := (defScope s_moments)) (by decide +kernel)) (fun _ _ _ _ _ => (pg_name (i := 3) sc_moments.nd rfl (Or.inl rfl))) (fun _ _ _ _ _ => (pts_one (pt_cmpR (opEq K hr.units) (pe_ix (ixK K) (pv 2) (pv 3) (fun _ _ => rfl)) (pe_f (ok_shortest (K := K) T) (hr.mono (by decide)) pass0 (pa_cons (pv 0) pa_nil)) (nomark _)))) (fun _ _ _ _ _ => (pv 3))) pa_nil))))))), ?_⟩
  show (_ : TS) { nx := fun _ H' => Q .non H', rt := Q } [some x, some y, none, none] H
  rcases h with ⟨l1, rfl, hl1, ⟨l2, rfl, hl2, q⟩ | h⟩ | h
  · walk_at "go"
    refine .inl ⟨l1, rfl, hl1, fun H1 s1 => ?_⟩
    walk_at "go"
    refine .inl ⟨l2, rfl, hl2, fun H2 s2 => ?_⟩
    walk_at "go"
    refine ⟨l2, rfl, hl2.1, by have := hl2.2.1; omega, fun r2 hr2 => ?_⟩
    obtain ⟨r1, hr1⟩ := short_ex l1 hl1.1
    have k1 := hr1.len
    have k2 := hr2.len
    have k3 := hl1.2.1
    have k4 := hl2.2.1
    walk_at "go"
    refine ⟨r2, rfl, by omega, fun Dt H3 n3 s3 d3 => ?_⟩
    walk_at "go"
    have tl : ((turns r2).map S).length = r2.length := by unfold turns; simp
    refine c_rng1 r2.length (fun R k => ?_) (by omega) (fun k => decide (turn r2 k = r1)) (fun k => .int (k : Int)) (fun _ => rfl) (fun i H4 hi s4 QB k => ?_) (fun i H4 hi s4 _ QV k => ?_) (fun Dl H5 n5 s5 d5 => ?_)
    · walk_at "go"
      refine i_len_lst (.inl (.inl d3)) ?_
      walk_at "go"
      rw [tl]
      exact k
    · show (_ : TT) [some (S l1), some (S l2), some (.ref Dt), some (.int (i : Int))] H4 QB
      walk_at "go"
      refine i_ix_lst (v := S (turn r2 i)) (.inl (.inl (s4 _ _ d3))) (atI_nat ?_) ?_
      · unfold turns
        rw [List.map_map, List.getElem?_map, List.getElem?_range hi]
        rfl
      · walk_at "go"
        refine ⟨l1, rfl, hl1.1, by omega, fun r hr => ?_⟩
        rw [short_one hr hr1]
        walk_at "go"
        exact k H4 (Same.refl H4)
    · show (_ : TE) [some (S l1), some (S l2), some (.ref Dt), some (.int (i : Int))] H4 QV
      walk_at "go"
      exact k H4 (Same.refl H4)
    · walk_at "go"
      refine i_tuple_lst (.inl (.inl d5)) fun Dl' n6 => ?_
      walk_at "go"
      exact q r1 r2 Dl' _ hr1 hr2 (s1.free (s2.free (s3.free (s5.free n6)))) ((s1.trans (s2.trans (s3.trans s5))).trans (same_upd n6)) upd_same
  · walk_at "go"
    refine .inl ⟨l1, rfl, hl1, fun H1 s1 => ?_⟩
    walk_at "go"
    exact .inr (h.mono s1)
  · walk_at "go"
    exact .inr h
end
end K07
namespace K07
open PySem PySem.Spec PyProof.Rows L2 Fg
local macro_rules | `(tactic| walk_at "sq") => `(tactic| first
  | assumption
  | exact .inl (.inl (by assumption))
  | exact .inl (.inl upd_same))
local macro_rules | `(tactic| walk_at "st") => `(tactic| first
  | assumption
  | exact .inl (.inl (by assumption))
  | exact .inl (.inl upd_same))
local macro_rules | `(tactic| walk_at "o") => `(tactic| first
  | omega
  | assumption
  | (simp only [List.length_append, List.length_take, List.length_drop, List.length_cons, List.length_nil, List.length_singleton, List.length_map, List.length_range, Int.toNat_natCast] ; omega))
local macro_rules | `(tactic| walk_at "s") => `(tactic| first
  | (with_reducible refine i_seq ?_)
  | (with_reducible refine i_asg ?_)
  | ((with_reducible refine' i_var ?h1 ?_); (case h1 => rfl))
  | (with_reducible refine i_c ?_)
  | ((with_reducible refine' i_gname' ?h1 ?_); (case h1 => (simp only [List.set_cons_zero, List.set_cons_succ]; rfl)))
  | (with_reducible refine i_op ?_)
  | (with_reducible refine i_ifS ?_)
  | (with_reducible refine i_for ?_)
  | (with_reducible refine i_test ?_)
  | (with_reducible refine i_B ?_)
  | (with_reducible refine i_exbl ?_)
  | (with_reducible refine i_exint ?_)
  | (with_reducible refine i_cb ?_)
  | (with_reducible refine i_nil ?_)
  | (with_reducible refine i_cons ?_)
  | (with_reducible refine i_ret ?_)
  | (with_reducible refine i_sl ?_)
  | (with_reducible refine i_nopart ?_)
  | (with_reducible refine i_part ?_)
  | (with_reducible refine i_add_int ?_)
  | (with_reducible refine i_sub ?_)
  | (with_reducible refine i_lt ?_)
  | ((with_reducible refine' i_mod ?h1 ?_); (case h1 => walk_at "o"))
  | ((with_reducible refine' i_fdiv ?h1 ?_); (case h1 => (refine cdiv_small ?_ ?_ <;> walk_at "o")))
  | ((with_reducible refine' i_sl_to ?h1 ?h2 ?_); (case h1 => walk_at "o"); (case h2 => walk_at "o"))
  | ((with_reducible refine' i_sl_from ?h1 ?h2 ?_); (case h1 => walk_at "o"); (case h2 => walk_at "o"))
  | ((with_reducible refine' i_add_str ?h1 ?_); (case h1 => walk_at "o"))
  | ((with_reducible refine' i_mul_int ?h1 ?_); (case h1 => first | (refine mul_small ?_ ?_ <;> walk_at "o") | (refine mul_smallR ?_ ?_ <;> walk_at "o")))
  | (with_reducible refine i_le ?_)
  | (with_reducible refine i_gt ?_)
  | (with_reducible refine i_ge ?_)
  | (with_reducible refine i_eq_int ?_)
  | (with_reducible refine i_eq_str ?_)
  | (with_reducible refine i_ne_int ?_)
  | (with_reducible refine i_ne_str ?_)
  | (with_reducible refine i_eq_bl ?_)
  | (with_reducible refine i_ne_bl ?_)
  | (with_reducible refine i_in_sg ?_)
  | (with_reducible refine i_notIn_sg ?_)
  | (with_reducible refine i_call ?_)
  | (with_reducible refine i_callS ?_)
  | (with_reducible refine i_sp1 ?_)
  | (with_reducible refine i_sp2 ?_)
  | (with_reducible refine i_sp3 ?_)
  | (with_reducible refine i_sp4 ?_)
  | (with_reducible refine i_sp1' ?_)
  | (with_reducible refine i_sp2' ?_)
  | (with_reducible refine i_sp3' ?_)
  | ((with_reducible refine' i_ix_lst ?h1 ?h2 ?_); (case h1 => walk_at "sq"); (case h2 => first | exact atI_nat rfl | rfl))
  | ((with_reducible refine' i_ix_tup ?h1 ?h2 ?_); (case h1 => walk_at "st"); (case h2 => first | exact atI_nat rfl | rfl))
  | (with_reducible refine i_gsub ?_)
  | (with_reducible refine i_raise ?_)
  | (with_reducible refine i_mkE ?_)
  | (with_reducible refine i_ex1 ?_)
  | (with_reducible refine i_and ?_)
  | (with_reducible refine i_or ?_)
  | (with_reducible refine i_not ?_)
  | (with_reducible refine i_tt ?_)
  | (with_reducible refine i_ff ?_)
  | (with_reducible refine i_nott ?_)
  | (with_reducible refine i_notf ?_)
  | (with_reducible refine i_andV ?_)
  | (with_reducible refine i_orV ?_)
  | (with_reducible refine i_notV ?_)
  | (with_reducible refine i_ifE ?_)
  | (with_reducible refine i_tup ?_)
  | (with_reducible refine i_lst ?_)
  | (with_reducible refine i_un ?_)
  | (with_reducible refine i_neg ?_)
  | (with_reducible refine i_chain ?_)
  | (with_reducible refine i_next ?_)
  | (with_reducible refine i_retN ?_)
  | (with_reducible refine i_drop ?_)
  | (with_reducible refine i_int_int ?_)
  | (with_reducible refine i_abs ?_)
  | (with_reducible refine i_m1c ?_)
  | (with_reducible refine i_is_non ?_)
  | (with_reducible refine i_is_int ?_)
  | (with_reducible refine i_is_str ?_)
  | (with_reducible refine i_is_ref ?_)
  | (with_reducible refine i_isn_non ?_)
  | (with_reducible refine i_isn_int ?_)
  | (with_reducible refine i_isn_str ?_)
  | (with_reducible refine i_isn_ref ?_)
  | (with_reducible refine i_len_str ?h1 ?_; (case h1 => walk_at "o"))
  | (with_reducible refine i_isi_int_int ?_) | (with_reducible refine i_isi_int_bool ?_) | (with_reducible refine i_isi_int_str ?_) | (with_reducible refine i_isi_int_tuple ?_) | (with_reducible refine i_isi_int_list ?_)
  | (with_reducible refine i_isi_bl_int ?_) | (with_reducible refine i_isi_bl_bool ?_) | (with_reducible refine i_isi_bl_str ?_) | (with_reducible refine i_isi_bl_tuple ?_) | (with_reducible refine i_isi_bl_list ?_)
  | (with_reducible refine i_isi_str_int ?_) | (with_reducible refine i_isi_str_bool ?_) | (with_reducible refine i_isi_str_str ?_) | (with_reducible refine i_isi_str_tuple ?_) | (with_reducible refine i_isi_str_list ?_)
  | (with_reducible refine i_isi_non_int ?_) | (with_reducible refine i_isi_non_bool ?_) | (with_reducible refine i_isi_non_str ?_) | (with_reducible refine i_isi_non_tuple ?_) | (with_reducible refine i_isi_non_list ?_))
local macro_rules | `(tactic| walk_at "go") => `(tactic| (repeat' (walk_at "s")))
/-! ### draws: the list at a holds a place in the script's cells (at c) and what is left of a great one -/
structure Dd where
  a : Addr
  c : Addr
  ns : List Int
/-- H0: what is known besides -/
def Dr (K : PySem.W.Frag) (d : Dd) (H0 H : Hp) : Prop := Same H0 H ∧ H0 d.a = none ∧ SqL K H0 d.c (d.ns.map V.int) ∧ d.ns.length ≤ 100 ∧ ∃ p b u x s : Int, H d.a = some (.lst [.ref d.c, .int p, .int b, .int u, .int x, .int s]) ∧ 0 ≤ p
section
variable {K : PySem.W.Frag} {d : Dd} {H0 H H' H1 : Hp} {q : Addr} {o o' : HO}
theorem Dr.same (h : Dr K d H0 H) (s : Same H H') : Dr K d H0 H' := by
  obtain ⟨s0, n0, hc, hl, p, b, u, x, sd, ha, hp⟩ := h
  exact ⟨s0.trans s, n0, hc, hl, p, b, u, x, sd, s _ _ ha, hp⟩
theorem Dr.new (h : Dr K d H0 H) (n : H q = none) : Dr K d (upd H0 q o) (upd H q o) := by
  obtain ⟨s0, n0, hc, hl, p, b, u, x, sd, ha, hp⟩ := h
  have nq : d.a ≠ q := ne_of_none ha n
  have s1 : Same H0 (upd H0 q o) := same_upd (s0.free n)
  refine ⟨fun b' o' e => ?_, by rw [upd_ne nq]; exact n0, s1.seq hc, hl, p, b, u, x, sd, by rw [upd_ne nq]; exact ha, hp⟩
  by_cases hb : b' = q
  · rw [hb, upd_same] at e
    rw [hb, upd_same]; exact e
  · rw [upd_ne hb] at e
    rw [upd_ne hb]; exact s0 _ _ e
/-- an object that is known changes -/
theorem Dr.put (h : Dr K d (upd H0 q o) H) (hc : SqL K H0 d.c (d.ns.map V.int)) (n : H0 q = none) : Dr K d (upd H0 q o') (upd H q o') := by
  obtain ⟨s0, n0, _, hl, p, b, u, x, sd, ha, hp⟩ := h
  have nq : d.a ≠ q := fun z => by rw [z, upd_same] at n0; cases n0
  have s1 : Same H0 (upd H0 q o') := same_upd n
  rw [upd_ne nq] at n0
  refine ⟨fun b' o' e => ?_, by rw [upd_ne nq]; exact n0, s1.seq hc, hl, p, b, u, x, sd, by rw [upd_ne nq]; exact ha, hp⟩
  by_cases hb : b' = q
  · rw [hb, upd_same] at e
    rw [hb, upd_same]; exact e
  · rw [upd_ne hb] at e
    rw [upd_ne hb]; exact s0 _ _ (by rw [upd_ne hb]; exact e)
/-- more, or less, is known -/
theorem Dr.know (h : Dr K d H0 H) (s0 : Same H0 H1) (s1 : Same H1 H) (n : H1 d.a = none) : Dr K d H1 H := by
  obtain ⟨_, n0, hc, hl, p, b, u, x, sd, ha, hp⟩ := h
  exact ⟨s1, n, s0.seq hc, hl, p, b, u, x, sd, ha, hp⟩
theorem Dr.less (h : Dr K d (upd H0 q o) H) (hc : SqL K H0 d.c (d.ns.map V.int)) (n : H0 q = none) : Dr K d H0 H := by
  obtain ⟨s0, n0, _, hl, p, b, u, x, sd, ha, hp⟩ := h
  have nq : d.a ≠ q := fun z => by rw [z, upd_same] at n0; cases n0
  rw [upd_ne nq] at n0
  exact ⟨(same_upd n).trans s0, n0, hc, hl, p, b, u, x, sd, ha, hp⟩
theorem Dr.old (h : Dr K d H0 H) (e : H0 q = some o) : H q = some o := h.1 _ _ e
theorem Dr.cells (h : Dr K d H0 H) : SqL K H0 d.c (d.ns.map V.int) := h.2.2.1
theorem Dr.free (h : Dr K d H0 H) (n : H q = none) : H0 q = none := h.1.free n
/-- what a call that leaves all as it was hands back new -/
theorem Dr.got (h : Dr K d H0 H) (n : H q = none) (s : Same H H') (e : H' q = some o) : Dr K d (upd H0 q o) H' := by
  obtain ⟨s0, n0, hc, hl, p, b, u, x, sd, ha, hp⟩ := h
  have nq : d.a ≠ q := ne_of_none ha n
  have s1 : Same H0 (upd H0 q o) := same_upd (s0.free n)
  refine ⟨fun b' o' e' => ?_, by rw [upd_ne nq]; exact n0, s1.seq hc, hl, p, b, u, x, sd, s _ _ ha, hp⟩
  by_cases hb : b' = q
  · rw [hb, upd_same] at e'
    rw [hb, e]; exact e'
  · rw [upd_ne hb] at e'
    exact s _ _ (s0 _ _ e')
end
theorem range_getD (xs : List V) : (List.range xs.length).map (fun i => xs.getD i .non) = xs := by
  refine List.ext_getElem? fun i => ?_
  rw [List.getElem?_map]
  by_cases h : i < xs.length
  · rw [List.getElem?_range h, Option.map_some, List.getD_eq_getElem?_getD, List.getElem?_eq_getElem h]
    rfl
  · rw [List.getElem?_eq_none (by simpa using h), List.getElem?_eq_none (by omega)]
    rfl
def Btw (n many : Int) : Prop := 0 ≤ n ∧ (2 ≤ many → n < many) ∧ (many < 2 → n = 0)
section
variable {P : Program} {w : World} {K : PySem.W.Frag} {mg : Str → Option Value} {base : Heap} {C_GlimError C_BadRound C_BadBeats : Addr}
def p_L_draw (K : PySem.W.Frag) : P1 := fun v H Q _ => ∃ (a0 : Addr) (ns : List Int), v = .ref a0 ∧ SqL K H a0 (ns.map V.int) ∧ ns.length ≤ 100 ∧ ∀ H0 d H', Same H H0 → Dr K d H0 H' → Q (.ref d.a) H'
theorem ok_L_draw (T : Txt K mg C_GlimError C_BadRound C_BadBeats) : OK P w K mg base CX0 1 "_law_draw" ["_law_script"] (sp1  (p_L_draw K)) := by
  refine OK.mk (k := 0) T.d_L_draw sc_L_draw len1 fun f cdv A outer s H vs Q E hr h => ?_
  obtain ⟨x, rfl, h⟩ := h
  refine ⟨_, (pss_cons (ps_setLc (i := 1) (own := [("_law_cell", 2)]) (g := gName 2) (tt := tYes) (by rfl) sc_L_draw.nd rfl rfl (sw_true rfl rfl rfl (by decide +kernel)) (piAny K (pv 0)) (blkOk_by (own := [("_law_cell", 2)]) (N := ["_law_script", "_law_cells", "_law_cell"]) (sc := (defScope s_L_draw)) (by decide +kernel)) (fun _ _ _ _ _ => (pg_name (i := 2) sc_L_draw.nd rfl (Or.inl rfl))) (fun _ _ _ _ _ => pts_nil) (fun _ _ _ _ _ => (pv 2))) (pss_one (ps_ret (pe_lst (pa_cons (pv 1) (pa_cons pe_int (pa_cons pe_int (pa_cons pe_int (pa_cons pe_int (pa_cons (pe_op (opAdd K) (pe_op op_modP (pe_callTy call_intP (by rfl) T.b_int (by decide +kernel) (pa_cons (pe_callB (cSum K rfl) (by rfl) T.b_sum (by decide +kernel) (pa_cons (pv 1) pa_nil)) pa_nil)) pe_int) (pe_op op_mulP pe_int (pe_callB (cLen K) (by rfl) T.b_len (by decide +kernel) (pa_cons (pv 1) pa_nil)))) pa_nil)))))))))), ?_⟩
  show (_ : TS) { nx := fun _ H' => Q .non H', rt := Q } [some x, none, none] H
  obtain ⟨a0, ns, rfl, hS, hl, q⟩ := h
  walk_at "go"
  refine c_lst (xs := ns.map V.int) (fun R k => by walk_at "go"; exact k) hS (by rw [List.length_map]; omega) (fun _ => true) (fun i => (ns.map V.int).getD i .non) (fun _ => rfl) (fun i v H2 hi s2 QB k => k H2 (Same.refl H2)) (fun i v H2 hi s2 _ QV k => ?_) (fun Dl H2 n2 s2 d2 => ?_)
  · show (_ : TE) [some (.ref a0), none, some v] H2 QV
    walk_at "go"
    have e : v = (ns.map V.int).getD i .non := by rw [List.getD_eq_getElem?_getD, hi]; rfl
    rw [e]
    exact k H2 (Same.refl H2)
  · rw [kept_all, range_getD] at d2
    walk_at "go"
    refine i_sum (ns := ns) (.inl (.inl d2)) ?_
    walk_at "go"
    refine i_len_lst (.inl (.inl d2)) ?_
    walk_at "go"
    refine i_new (by show 6 ≤ 100000; omega) fun a na => ?_
    walk_at "go"
    exact q H2 ⟨a, Dl, ns⟩ _ s2 ⟨same_upd na, na, .inl (.inl d2), hl, _, _, _, _, _, upd_same, Int.le_refl _⟩
def p_L_mix : P2 := fun x y H Q _ => ∃ a b : Int, x = .int a ∧ y = .int b ∧ ∀ r : Int, Q (.int r) H
theorem ok_L_mix (T : Txt K mg C_GlimError C_BadRound C_BadBeats) : OK P w K mg base CX0 1 "_law_mix" ["_law_cell", "_law_turn"] (sp2  p_L_mix) := by
  refine OK.mk (k := 0) T.d_L_mix sc_L_mix len2 fun f cdv A outer s H vs Q E hr h => ?_
  obtain ⟨x, y, rfl, h⟩ := h
  refine ⟨_, (pss_cons (ps_set (i := 2) sc_L_mix.nd rfl (Or.inl rfl) (pe_op op_modP (pe_callTy call_intP (by rfl) T.b_int (by decide +kernel) (pa_cons (pe_op (opAdd K) (pe_op (opAdd K) (pe_op op_mulP (pv 0) pe_int) (pe_op op_mulP (pv 1) pe_int)) pe_int) pa_nil)) pe_int)) (pss_cons (ps_set (i := 3) sc_L_mix.nd rfl (Or.inl rfl) (pe_op op_modP (pe_callTy call_intP (by rfl) T.b_int (by decide +kernel) (pa_cons (pe_op (opAdd K) (pe_op (opAdd K) (pe_op op_mulP (pv 2) (pv 2)) (pe_op op_mulP (pv 1) pe_int)) (pv 0)) pa_nil)) pe_int)) (pss_cons (ps_set (i := 3) sc_L_mix.nd rfl (Or.inl rfl) (pe_op op_modP (pe_callTy call_intP (by rfl) T.b_int (by decide +kernel) (pa_cons (pe_op (opAdd K) (pe_op op_mulP (pv 3) (pv 3)) (pv 2)) pa_nil)) pe_int)) (pss_one (ps_ret (pe_op op_fdivP (pv 3) pe_int)))))), ?_⟩
  show (_ : TS) { nx := fun _ H' => Q .non H', rt := Q } [some x, some y, none, none] H
  obtain ⟨c, t, rfl, rfl, q⟩ := h
  walk_at "go"
  have h1 : 0 ≤ (c * 48271 + t * 69621 + 12345) % 2147483647 := Int.emod_nonneg _ (by decide)
  have h2 : (c * 48271 + t * 69621 + 12345) % 2147483647 < 2147483647 := Int.emod_lt_of_pos _ (by decide)
  generalize (c * 48271 + t * 69621 + 12345) % 2147483647 = o at *
  walk_at "go"
  have h3 : 0 ≤ (o * o + t * 7919 + c) % 998244353 := Int.emod_nonneg _ (by decide)
  have h4 : (o * o + t * 7919 + c) % 998244353 < 998244353 := Int.emod_lt_of_pos _ (by decide)
  generalize (o * o + t * 7919 + c) % 998244353 = o2 at *
  walk_at "go"
  exact q _
/-- a number from 0 to less than so many; the draws go on -/
def p_L_pick (K : PySem.W.Frag) : P2 := fun x y H Q _ => ∃ (H0 : Hp) (d : Dd) (many : Int), x = .ref d.a ∧ y = .int many ∧ Dr K d H0 H ∧ many ≤ 10000000000000000000000000000000000000000 ∧ ∀ (n : Int) H', Dr K d H0 H' → Btw n many → Q (.int n) H'
theorem wide_many {b many : Int} (h : 0 < many) (h2 : many ≤ 10000000000000000000000000000000000000000) : CDivW b many := by
  refine wide_div (b := 140) h ?_ (by decide) (by decide)
  have e : (2 : Nat) ^ 140 = 1393796574908163946345982392040522594123776 := by decide +kernel
  rw [e]
  omega
theorem ok_L_pick (T : Txt K mg C_GlimError C_BadRound C_BadBeats) : OK P w K mg base CX0 2 "_law_pick" ["_law_draw_here", "_law_many"] (sp2  (p_L_pick K)) := by
  refine OK.mk (k := 1) T.d_L_pick sc_L_pick len2 fun f cdv A outer s H vs Q E hr h => ?_
  obtain ⟨x, y, rfl, h⟩ := h
  refine ⟨_, (pss_cons (ps_if (pt_cmpR op_ltP (pv 1) pe_int (nomark _)) (pss_one (ps_ret pe_int)) pss_nil) (Evl.pss_cut (ps_if (pw_and (pt_cmpR (opEq K hr.units) (pe_ix (ixK K) (pv 0) pe_int (fun _ _ => rfl)) pe_int (nomark _)) (pw_and (pt_cmpR op_ltP (pe_ix (ixK K) (pv 0) pe_int (fun _ _ => rfl)) (pe_callB (cLen K) (by rfl) T.b_len (by decide +kernel) (pa_cons (pe_ix (ixK K) (pv 0) pe_int (fun _ _ => rfl)) pa_nil)) (nomark _)) (pw_and1 (pt_cmpR (opEq K hr.units) (pe_ix (ixK K) (pv 0) pe_int (fun _ _ => rfl)) pe_int (nomark _))))).pt (pss_cons (ps_set (i := 2) sc_L_pick.nd rfl (Or.inl rfl) (pe_ix (ixK K) (pe_ix (ixK K) (pv 0) pe_int (fun _ _ => rfl)) (pe_ix (ixK K) (pv 0) pe_int (fun _ _ => rfl)) (fun _ _ => rfl))) (pss_one (ps_if (pw_or (pt_cmpR op_geP (pv 2) (pe_op op_powP pe_int pe_int) (nomark _)) (pw_or1 (pt_cmpR op_leP (pv 2) (pe_un un_neg (pe_op op_powP pe_int pe_int)) (nomark _)))).pt (pss_cons (ps_asg (pe_op op_modP (pe_callTy call_intP (by rfl) T.b_int (by decide +kernel) (pa_cons (pe_callB call_absP (by rfl) T.b_abs (by decide +kernel) (pa_cons (pv 2) pa_nil)) pa_nil)) (pe_op op_powP (pe_op op_powP pe_int pe_int) pe_int)) (pg_sub (pv 0) pe_int set_list)) (pss_one (ps_asg (pe_op (opAdd K) (pe_ix (ixK K) (pv 0) pe_int (fun _ _ => rfl)) pe_int) (pg_sub (pv 0) pe_int set_list)))) pss_nil))) pss_nil) (pss_cons (ps_if (pt_cmpR op_gtP (pe_ix (ixK K) (pv 0) pe_int (fun _ _ => rfl)) pe_int (nomark _)) (pss_cons (ps_set (i := 3) sc_L_pick.nd rfl (Or.inl rfl) (pe_op op_modP (pe_callTy call_intP (by rfl) T.b_int (by decide +kernel) (pa_cons (pe_ix (ixK K) (pv 0) pe_int (fun _ _ => rfl)) pa_nil)) (pv 1))) (pss_cons (ps_asg (pe_op op_fdivP (pe_ix (ixK K) (pv 0) pe_int (fun _ _ => rfl)) (pv 1)) (pg_sub (pv 0) pe_int set_list)) (pss_one (ps_ret (pv 3))))) pss_nil) (pss_cons (ps_if (pt_cmpR op_ltP (pe_ix (ixK K) (pv 0) pe_int (fun _ _ => rfl)) (pe_callB (cLen K) (by rfl) T.b_len (by decide +kernel) (pa_cons (pe_ix (ixK K) (pv 0) pe_int (fun _ _ => rfl)) pa_nil)) (nomark _)) (pss_cons (ps_set (i := 2) sc_L_pick.nd rfl (Or.inl rfl) (pe_ix (ixK K) (pe_ix (ixK K) (pv 0) pe_int (fun _ _ => rfl)) (pe_ix (ixK K) (pv 0) pe_int (fun _ _ => rfl)) (fun _ _ => rfl))) (pss_cons (ps_asg (pe_op (opAdd K) (pe_ix (ixK K) (pv 0) pe_int (fun _ _ => rfl)) pe_int) (pg_sub (pv 0) pe_int set_list)) (pss_cons (ps_set (i := 4) sc_L_pick.nd rfl (Or.inl rfl) (pe_op op_modP (pe_callTy call_intP (by rfl) T.b_int (by decide +kernel) (pa_cons (pe_f (ok_L_mix (K := K) T) (hr.mono (by decide)) pass0 (pa_cons (pe_op (opAdd K) (pv 2) (pe_op op_mulP pe_int (pe_ix (ixK K) (pv 0) pe_int (fun _ _ => rfl)))) (pa_cons (pe_ix (ixK K) (pv 0) pe_int (fun _ _ => rfl)) pa_nil))) pa_nil)) (pv 1))) (Evl.pss_cut (ps_if (pt_cmpR (opEq K hr.units) (pe_ix (ixK K) (pv 0) pe_int (fun _ _ => rfl)) pe_int (nomark _)) (pss_cons (ps_asg pe_int (pg_sub (pv 0) pe_int set_list)) (pss_one (ps_asg (pe_op (opAdd K) (pe_ix (ixK K) (pv 0) pe_int (fun _ _ => rfl)) pe_int) (pg_sub (pv 0) pe_int set_list)))) pss_nil) (pss_one (ps_ret (pv 4))))))) pss_nil) (pss_cons (ps_asg (pe_op (opAdd K) (pe_ix (ixK K) (pv 0) pe_int (fun _ _ => rfl)) pe_int) (pg_sub (pv 0) pe_int set_list)) (pss_one (ps_ret (pe_op op_modP (pe_callTy call_intP (by rfl) T.b_int (by decide +kernel) (pa_cons (pe_f (ok_L_mix (K := K) T) (hr.mono (by decide)) pass0 (pa_cons (pe_ix (ixK K) (pv 0) pe_int (fun _ _ => rfl)) (pa_cons (pe_op (opAdd K) (pe_ix (ixK K) (pv 0) pe_int (fun _ _ => rfl)) pe_int) pa_nil))) pa_nil)) (pv 1))))))))), ?_⟩
  show (_ : TS) { nx := fun _ H' => Q .non H', rt := Q } [some x, some y, none, none, none] H
  obtain ⟨H0, d, many, rfl, rfl, dr, hmax, q⟩ := h
  walk_at "go"
  refine i_dec (fun e => ?_) (fun e => ?_)
  · walk_at "go"
    exact q 0 H dr ⟨Int.le_refl _, fun z => by omega, fun _ => rfl⟩
  walk_at "go"
  have hpos : 0 < many := by omega
  -- a great cell is taken up
  refine i_cut (fun σ H' => ∃ v2 v3 v4, σ = [some (.ref d.a), some (.int many), v2, v3, v4] ∧ Dr K d H0 H') ?_ ?_
  · obtain ⟨a, c, ns⟩ := d
    obtain ⟨s0, n0, hC, hl, p, b, u, x, sd, hA, hp⟩ := id dr
    dsimp only at *
    have hC' : SqL K H c (ns.map V.int) := s0.seq hC
    have skip : ∃ v2 v3 v4, ([some (.ref a), some (.int many), none, none, none] : L2.St) = [some (.ref a), some (.int many), v2, v3, v4] ∧ Dr K ⟨a, c, ns⟩ H0 H := ⟨_, _, _, rfl, dr⟩
    walk_at "go"
    refine i_dec (fun e1 => ?_) (fun e1 => skip)
    walk_at "go"
    refine i_len_lst hC' ?_
    walk_at "go"
    refine i_dec (fun e2 => ?_) (fun e2 => skip)
    walk_at "go"
    refine i_dec (fun e3 => ?_) (fun e3 => skip)
    walk_at "go"
    rw [List.length_map] at e2
    have hpl : p.toNat < ns.length := by omega
    refine i_ix_lst (v := .int ns[p.toNat]) hC' (atI_int hp (by rw [List.getElem?_map, List.getElem?_eq_getElem hpl]; rfl)) ?_
    walk_at "go"
    refine i_pow (by decide +kernel) ?_
    walk_at "go"
    have fin : ∃ v2 v3 v4, ([some (.ref a), some (.int many), some (.int ns[p.toNat]), none, none] : L2.St) = [some (.ref a), some (.int many), v2, v3, v4] ∧ Dr K ⟨a, c, ns⟩ H0 H := ⟨_, _, _, rfl, dr⟩
    refine i_dec (fun e4 => ?_) (fun e4 => ?_)
    case' refine_2 =>
      walk_at "go"
      refine i_pow (by decide +kernel) ?_
      walk_at "go"
      refine i_dec (fun e5 => ?_) (fun e5 => fin)
    all_goals
      walk_at "go"
      refine i_pow (by decide +kernel) ?_
      walk_at "go"
      refine i_pow (by decide +kernel) ?_
      walk_at "go"
      refine i_mod (by decide +kernel) ?_
      walk_at "go"
      refine i_setL 2 hA rfl rfl ?_
      walk_at "go"
      refine i_setL 1 upd_same rfl rfl ?_
      walk_at "go"
      rw [upd_upd]
      exact ⟨_, _, _, rfl, Same.upd s0 n0, n0, hC, hl, _, _, _, _, _, upd_same, by omega⟩
  · rintro σ H1 ⟨v2, v3, v4, rfl, d1⟩
    obtain ⟨a, c, ns⟩ := d
    obtain ⟨s0, n0, hC, hl, p, b, u, x, sd, hA, hp⟩ := id d1
    dsimp only at *
    have hC' : SqL K H1 c (ns.map V.int) := s0.seq hC
    have put : ∀ {p' b' u' x' s' : Int}, 0 ≤ p' → Dr K ⟨a, c, ns⟩ H0 (upd H1 a (.lst [.ref c, .int p', .int b', .int u', .int x', .int s'])) := fun h => ⟨Same.upd s0 n0, n0, hC, hl, _, _, _, _, _, upd_same, h⟩
    have btw : ∀ r : Int, Btw (r % many) many := fun r => ⟨Int.emod_nonneg _ (by omega), fun _ => Int.emod_lt_of_pos _ hpos, fun z => by omega⟩
    walk_at "go"
    refine i_dec (fun e1 => ?_) (fun e1 => ?_)
    · -- a digit of the great one
      walk_at "go"
      refine i_fdiv (wide_many hpos hmax) ?_
      walk_at "go"
      refine i_setL 2 hA rfl rfl ?_
      walk_at "go"
      exact q _ _ (put hp) (btw _)
    walk_at "go"
    refine i_len_lst hC' ?_
    walk_at "go"
    rw [List.length_map]
    refine i_dec (fun e2 => ?_) (fun e2 => ?_)
    · have hpl : p.toNat < ns.length := by omega
      walk_at "go"
      refine i_ix_lst (v := .int ns[p.toNat]) hC' (atI_int hp (by rw [List.getElem?_map, List.getElem?_eq_getElem hpl]; rfl)) ?_
      walk_at "go"
      refine i_setL 3 hA rfl rfl ?_
      walk_at "go"
      refine ⟨_, _, rfl, rfl, fun r => ?_⟩
      walk_at "go"
      refine i_cut (fun σ H' => ∃ v3, σ = [some (.ref a), some (.int many), some (.int ns[p.toNat]), v3, some (.int (r % many))] ∧ Dr K ⟨a, c, ns⟩ H0 H') ?_ ?_
      · walk_at "go"
        refine i_dec (fun e3 => ?_) (fun e3 => ⟨_, rfl, put hp⟩)
        walk_at "go"
        refine i_setL 3 upd_same rfl rfl ?_
        walk_at "go"
        refine i_setL 1 upd_same rfl rfl ?_
        walk_at "go"
        rw [upd_upd, upd_upd]
        exact ⟨_, rfl, put (by omega)⟩
      · rintro σ H2 ⟨v3, rfl, d2⟩
        walk_at "go"
        exact q _ _ d2 (btw _)
    · walk_at "go"
      refine i_setL 4 hA rfl rfl ?_
      walk_at "go"
      refine ⟨_, _, rfl, rfl, fun r => ?_⟩
      walk_at "go"
      exact q _ _ (put hp) (btw _)
end
end K07
namespace K07
open PySem PySem.Spec PyProof.Rows L2 Fg
local macro_rules | `(tactic| walk_at "sq") => `(tactic| first
  | assumption
  | exact .inl (.inl (by assumption))
  | exact .inl (.inl upd_same))
local macro_rules | `(tactic| walk_at "st") => `(tactic| first
  | assumption
  | exact .inl (.inl (by assumption))
  | exact .inl (.inl upd_same))
local macro_rules | `(tactic| walk_at "o") => `(tactic| first
  | omega
  | assumption
  | (simp only [List.length_append, List.length_take, List.length_drop, List.length_cons, List.length_nil, List.length_singleton, List.length_map, List.length_range, Int.toNat_natCast] ; omega))
local macro_rules | `(tactic| walk_at "s") => `(tactic| first
  | (with_reducible refine i_seq ?_)
  | (with_reducible refine i_asg ?_)
  | ((with_reducible refine' i_var ?h1 ?_); (case h1 => rfl))
  | (with_reducible refine i_c ?_)
  | ((with_reducible refine' i_gname' ?h1 ?_); (case h1 => (simp only [List.set_cons_zero, List.set_cons_succ]; rfl)))
  | (with_reducible refine i_op ?_)
  | (with_reducible refine i_ifS ?_)
  | (with_reducible refine i_for ?_)
  | (with_reducible refine i_test ?_)
  | (with_reducible refine i_B ?_)
  | (with_reducible refine i_exbl ?_)
  | (with_reducible refine i_exint ?_)
  | (with_reducible refine i_cb ?_)
  | (with_reducible refine i_nil ?_)
  | (with_reducible refine i_cons ?_)
  | (with_reducible refine i_ret ?_)
  | (with_reducible refine i_sl ?_)
  | (with_reducible refine i_nopart ?_)
  | (with_reducible refine i_part ?_)
  | (with_reducible refine i_add_int ?_)
  | (with_reducible refine i_sub ?_)
  | (with_reducible refine i_lt ?_)
  | ((with_reducible refine' i_mod ?h1 ?_); (case h1 => walk_at "o"))
  | ((with_reducible refine' i_fdiv ?h1 ?_); (case h1 => (refine cdiv_small ?_ ?_ <;> walk_at "o")))
  | ((with_reducible refine' i_sl_to ?h1 ?h2 ?_); (case h1 => walk_at "o"); (case h2 => walk_at "o"))
  | ((with_reducible refine' i_sl_from ?h1 ?h2 ?_); (case h1 => walk_at "o"); (case h2 => walk_at "o"))
  | ((with_reducible refine' i_add_str ?h1 ?_); (case h1 => walk_at "o"))
  | ((with_reducible refine' i_mul_int ?h1 ?_); (case h1 => first | (refine mul_small ?_ ?_ <;> walk_at "o") | (refine mul_smallR ?_ ?_ <;> walk_at "o")))
  | (with_reducible refine i_le ?_)
  | (with_reducible refine i_gt ?_)
  | (with_reducible refine i_ge ?_)
  | (with_reducible refine i_eq_int ?_)
  | (with_reducible refine i_eq_str ?_)
  | (with_reducible refine i_ne_int ?_)
  | (with_reducible refine i_ne_str ?_)
  | (with_reducible refine i_eq_bl ?_)
  | (with_reducible refine i_ne_bl ?_)
  | (with_reducible refine i_in_sg ?_)
  | (with_reducible refine i_notIn_sg ?_)
  | (with_reducible refine i_call ?_)
  | (with_reducible refine i_callS ?_)
  | (with_reducible refine i_sp1 ?_)
  | (with_reducible refine i_sp2 ?_)
  | (with_reducible refine i_sp3 ?_)
  | (with_reducible refine i_sp4 ?_)
  | (with_reducible refine i_sp1' ?_)
  | (with_reducible refine i_sp2' ?_)
  | (with_reducible refine i_sp3' ?_)
  | ((with_reducible refine' i_ix_lst ?h1 ?h2 ?_); (case h1 => walk_at "sq"); (case h2 => first | exact atI_nat rfl | rfl))
  | ((with_reducible refine' i_ix_tup ?h1 ?h2 ?_); (case h1 => walk_at "st"); (case h2 => first | exact atI_nat rfl | rfl))
  | (with_reducible refine i_gsub ?_)
  | (with_reducible refine i_raise ?_)
  | (with_reducible refine i_mkE ?_)
  | (with_reducible refine i_ex1 ?_)
  | (with_reducible refine i_and ?_)
  | (with_reducible refine i_or ?_)
  | (with_reducible refine i_not ?_)
  | (with_reducible refine i_tt ?_)
  | (with_reducible refine i_ff ?_)
  | (with_reducible refine i_nott ?_)
  | (with_reducible refine i_notf ?_)
  | (with_reducible refine i_andV ?_)
  | (with_reducible refine i_orV ?_)
  | (with_reducible refine i_notV ?_)
  | (with_reducible refine i_ifE ?_)
  | (with_reducible refine i_tup ?_)
  | (with_reducible refine i_lst ?_)
  | (with_reducible refine i_un ?_)
  | (with_reducible refine i_neg ?_)
  | (with_reducible refine i_chain ?_)
  | (with_reducible refine i_next ?_)
  | (with_reducible refine i_retN ?_)
  | (with_reducible refine i_drop ?_)
  | (with_reducible refine i_int_int ?_)
  | (with_reducible refine i_abs ?_)
  | (with_reducible refine i_m1c ?_)
  | (with_reducible refine i_is_non ?_)
  | (with_reducible refine i_is_int ?_)
  | (with_reducible refine i_is_str ?_)
  | (with_reducible refine i_is_ref ?_)
  | (with_reducible refine i_isn_non ?_)
  | (with_reducible refine i_isn_int ?_)
  | (with_reducible refine i_isn_str ?_)
  | (with_reducible refine i_isn_ref ?_)
  | (with_reducible refine i_len_str ?h1 ?_; (case h1 => walk_at "o"))
  | (with_reducible refine i_isi_int_int ?_) | (with_reducible refine i_isi_int_bool ?_) | (with_reducible refine i_isi_int_str ?_) | (with_reducible refine i_isi_int_tuple ?_) | (with_reducible refine i_isi_int_list ?_)
  | (with_reducible refine i_isi_bl_int ?_) | (with_reducible refine i_isi_bl_bool ?_) | (with_reducible refine i_isi_bl_str ?_) | (with_reducible refine i_isi_bl_tuple ?_) | (with_reducible refine i_isi_bl_list ?_)
  | (with_reducible refine i_isi_str_int ?_) | (with_reducible refine i_isi_str_bool ?_) | (with_reducible refine i_isi_str_str ?_) | (with_reducible refine i_isi_str_tuple ?_) | (with_reducible refine i_isi_str_list ?_)
  | (with_reducible refine i_isi_non_int ?_) | (with_reducible refine i_isi_non_bool ?_) | (with_reducible refine i_isi_non_str ?_) | (with_reducible refine i_isi_non_tuple ?_) | (with_reducible refine i_isi_non_list ?_))
local macro_rules | `(tactic| walk_at "go") => `(tactic| (repeat' (walk_at "s")))
/-! ### comprehensions whose elements draw -/
section
variable {K : PySem.W.Frag} {σ : L2.St} {H H0 : Hp} {Q : VK} {te : TE} {ta : TA} {j : Nat} {vs : List Nat} {d : Dd}
theorem c_rngD (Pz : Int → Prop) (ha : ∀ R : List V → Hp → Prop, (∀ (z : Int) H1, Dr K d H0 H1 → Pz z → R [.int z] H1) → ta σ H R) (hz : ∀ z, Pz z → 0 ≤ z ∧ z ≤ 100000)
    (Pc : Nat → List V → Prop) (h0 : Pc 0 []) (hl : ∀ i acc, Pc i acc → acc.length ≤ 100000) (hw : ∀ x, wipe ((wipe σ vs).set j (some x)) vs = wipe σ vs)
    (he : ∀ (z : Int) (i : Nat) acc Hk H2, Pz z → (i : Int) < z → Pc i acc → Dr K d Hk H2 → ∀ QV : VK, (∀ y H3, Dr K d Hk H3 → Pc (i + 1) (acc ++ [y]) → QV y H3) → te ((wipe σ vs).set j (some (.int (i : Int)))) H2 QV)
    (q : ∀ (z : Int) Dl H3 acc, Pz z → H0 Dl = none → Pc z.toNat acc → Dr K d (upd H0 Dl (.lst acc)) H3 → Q (.ref Dl) H3) : tLc (iRng1 ta) (gName j) tYes te vs σ H Q := by
  refine ha _ fun z H1 dr pz => ⟨z, rfl, by have := hz z pz; omega, by have := hz z pz; omega, fun Dl nD => ?_⟩
  have n0 : H0 Dl = none := dr.free nD
  refine lc_range (fun i H' => ∃ acc, Pc i acc ∧ Dr K d (upd H0 Dl (.lst acc)) H') ⟨[], h0, dr.new nD⟩ (fun i H' hi p => ?_) (fun H' p => ?_)
  · obtain ⟨acc, pc, dr'⟩ := p
    rw [Int.zero_add]
    refine ⟨hw _, ?_⟩
    refine i_yes (i_tt ?_)
    refine he z i acc _ H' pz (by omega) pc dr' _ fun y H3 dr3 pc' => ⟨acc, dr3.old upd_same, Nat.lt_of_le_of_lt (hl i acc pc) (by decide), _, pc', dr3.put dr.cells n0⟩
  · obtain ⟨acc, pc, dr'⟩ := p
    exact q z Dl H' acc pz n0 pc dr'
end
section
variable {P : Program} {w : World} {K : PySem.W.Frag} {mg : Str → Option Value} {base : Heap} {C_GlimError C_BadRound C_BadBeats : Addr}
/-- the kinds of values that laws show about -/
def Kn (H : Hp) (x : V) : Prop := (∃ l, x = S l) ∨ NoStr H x
def isI : V → Bool
  | .int _ => true
  | _ => false
def p_L_is_int : P1 := fun x H Q _ => Kn H x ∧ Q (.bl (isI x)) H
theorem ok_L_is_int (T : Txt K mg C_GlimError C_BadRound C_BadBeats) : OK P w K mg base CX0 1 "_law_is_int" ["_law_thing"] (sp1  p_L_is_int) := by
  refine OK.mk (k := 0) T.d_L_is_int sc_L_is_int len1 fun f cdv A outer s H vs Q E hr h => ?_
  obtain ⟨x, rfl, h⟩ := h
  refine ⟨_, (pss_one (ps_ret (pe_and (pe_callB (cIsi K) (by rfl) T.b_isinstance (by decide +kernel) (pa_cons (pv 0) (pa_cons (pe_bltn (v := .ty "int") (by rfl) T.b_int (by decide +kernel) rfl) pa_nil))) (pe_one (pe_not (pe_callB (cIsi K) (by rfl) T.b_isinstance (by decide +kernel) (pa_cons (pv 0) (pa_cons (pe_bltn (v := .ty "bool") (by rfl) T.b_bool (by decide +kernel) rfl) pa_nil)))))))), ?_⟩
  show (_ : TS) { nx := fun _ H' => Q .non H', rt := Q } [some x] H
  obtain ⟨h, q⟩ := h
  rcases h with ⟨l, rfl⟩ | rfl | ⟨b, rfl⟩ | ⟨i, rfl⟩ | ⟨a, xs, rfl, h | h⟩
  · walk_at "go"
    exact q
  · walk_at "go"
    exact q
  · walk_at "go"
    exact q
  · walk_at "go"
    exact q
  · walk_at "go"
    refine i_isi_tup_int h ?_
    walk_at "go"
    exact q
  · walk_at "go"
    refine i_isi_lst_int h ?_
    walk_at "go"
    exact q
def p_L_sign (K : PySem.W.Frag) : P1 := fun x H Q _ => ∃ (H0 : Hp) (d : Dd), x = .ref d.a ∧ Dr K d H0 H ∧ ∀ c H', Dr K d H0 H' → c ∈ SG → Q (S [c]) H'
theorem ok_L_sign (T : Txt K mg C_GlimError C_BadRound C_BadBeats) : OK P w K mg base CX0 3 "_law_sign" ["_law_draw_here"] (sp1  (p_L_sign K)) := by
  refine OK.mk (k := 2) T.d_L_sign sc_L_sign len1 fun f cdv A outer s H vs Q E hr h => ?_
  obtain ⟨x, rfl, h⟩ := h
  refine ⟨_, (pss_one (ps_ret (pe_ix (ixK K) (pe_S [46, 46, 46, 119, 119, 114, 103]) (pe_f (ok_L_pick (K := K) T) (hr.mono (by decide)) pass0 (pa_cons (pv 0) (pa_cons pe_int pa_nil))) (fun _ _ => rfl)))), ?_⟩
  show (_ : TS) { nx := fun _ H' => Q .non H', rt := Q } [some x] H
  obtain ⟨H0, d, rfl, dr, q⟩ := h
  walk_at "go"
  refine ⟨H0, d, 7, rfl, rfl, dr, by decide, fun n H1 dr1 b => ?_⟩
  have b0 := b.1
  have b1 := b.2.1 (by decide)
  have hn : n.toNat < 7 := by omega
  have key : ∀ i < 7, ∃ c, ([46, 46, 46, 119, 119, 114, 103] : List Nat)[i]? = some c ∧ c ∈ SG := by decide
  obtain ⟨c, hc, hs⟩ := key n.toNat hn
  refine i_ix_str (by decide) b0 hc ?_
  walk_at "go"
  exact q c H1 dr1 hs
def Row (l : List Nat) : Prop := ∀ c ∈ l, c ∈ SG
def p_L_round (K : PySem.W.Frag) : P2 := fun x y H Q _ => ∃ (H0 : Hp) (d : Dd) (most : Int), x = .ref d.a ∧ y = .int most ∧ Dr K d H0 H ∧ 1 ≤ most ∧ most ≤ 1000 ∧ ∀ l H', Dr K d H0 H' → Row l → 1 ≤ l.length → (l.length : Int) ≤ most → Q (S l) H'
theorem ok_L_round (T : Txt K mg C_GlimError C_BadRound C_BadBeats) : OK P w K mg base CX0 4 "_law_round" ["_law_draw_here", "_law_most"] (sp2  (p_L_round K)) := by
  refine OK.mk (k := 3) T.d_L_round sc_L_round len2 fun f cdv A outer s H vs Q E hr h => ?_
  obtain ⟨x, y, rfl, h⟩ := h
  refine ⟨_, (pss_one (ps_ret (peJoin K (pe_S []) (pe_lc (own := [("_law_turn", 2)]) (g := gName 2) (tt := tYes) (by rfl) sc_L_round.nd (pi_range1 rfl T.b_range (pa_cons (pe_op (opAdd K) pe_int (pe_f (ok_L_pick (K := K) T) (hr.mono (by decide)) pass0 (pa_cons (pv 0) (pa_cons (pv 1) pa_nil)))) pa_nil)) (blkOk_by (own := [("_law_turn", 2)]) (N := ["_law_draw_here", "_law_most", "_law_turn"]) (sc := (defScope s_L_round)) (by decide +kernel)) (fun _ _ _ _ _ => (pg_name (i := 2) sc_L_round.nd rfl (Or.inl rfl))) (fun _ _ _ _ _ => pts_nil) (fun _ _ _ _ _ => (pe_f (ok_L_sign (K := K) T) (hr.mono (by decide)) pass0 (pa_cons (pv 0) pa_nil))))))), ?_⟩
  show (_ : TS) { nx := fun _ H' => Q .non H', rt := Q } [some x, some y, none] H
  obtain ⟨H0, d, most, rfl, rfl, dr, m1, m2, q⟩ := h
  walk_at "go"
  refine c_rngD (K := K) (d := d) (H0 := H0) (fun z => 1 ≤ z ∧ z ≤ most) (fun R k => ?_) (fun z h => by omega) (fun i acc => ∃ cs : List Nat, cs.length = i ∧ i ≤ 1000 ∧ Row cs ∧ acc = cs.map fun c => S [c]) ⟨[], rfl, by omega, by simp [Row], rfl⟩ ?_ (fun _ => rfl) ?_ ?_
  · walk_at "go"
    refine ⟨H0, d, most, rfl, rfl, dr, by omega, fun n H1 dr1 b => ?_⟩
    walk_at "go"
    exact k _ _ dr1 (by have := b.1; have := b.2.1; have := b.2.2; omega)
  · rintro i acc ⟨cs, h1, h2, h3, rfl⟩
    rw [List.length_map]; omega
  · rintro z i acc Hk H2 hz hi ⟨cs, h1, h2, h3, rfl⟩ dr2 QV k
    show (_ : TE) [some (.ref d.a), some (.int most), some (.int (i : Int))] H2 QV
    walk_at "go"
    refine ⟨Hk, d, rfl, dr2, fun c H3 dr3 hc => k _ _ dr3 ⟨cs ++ [c], by rw [List.length_append, h1]; rfl, by omega, fun x hx => ?_, by rw [List.map_append]; rfl⟩⟩
    rcases List.mem_append.mp hx with hx | hx
    · exact h3 x hx
    · rw [List.mem_singleton.mp hx]; exact hc
  · rintro z Dl H3 acc hz n0 ⟨cs, h1, h2, h3, rfl⟩ dr3
    walk_at "go"
    refine i_join1 (.inl (.inl (dr3.old upd_same))) (by omega) ?_
    exact q cs H3 (dr3.less dr.cells n0) h3 (by omega) (by omega)
end
end K07
namespace K07
open PySem PySem.Spec PyProof.Rows L2 Fg
local macro_rules | `(tactic| walk_at "sq") => `(tactic| first
  | assumption
  | exact .inl (.inl (by assumption))
  | exact .inl (.inl upd_same))
local macro_rules | `(tactic| walk_at "st") => `(tactic| first
  | assumption
  | exact .inl (.inl (by assumption))
  | exact .inl (.inl upd_same))
local macro_rules | `(tactic| walk_at "o") => `(tactic| first
  | omega
  | assumption
  | (simp only [List.length_append, List.length_take, List.length_drop, List.length_cons, List.length_nil, List.length_singleton, List.length_map, List.length_range, Int.toNat_natCast] ; omega))
local macro_rules | `(tactic| walk_at "s") => `(tactic| first
  | (with_reducible refine i_seq ?_)
  | (with_reducible refine i_asg ?_)
  | ((with_reducible refine' i_var ?h1 ?_); (case h1 => rfl))
  | (with_reducible refine i_c ?_)
  | ((with_reducible refine' i_gname' ?h1 ?_); (case h1 => (simp only [List.set_cons_zero, List.set_cons_succ]; rfl)))
  | (with_reducible refine i_op ?_)
  | (with_reducible refine i_ifS ?_)
  | (with_reducible refine i_for ?_)
  | (with_reducible refine i_test ?_)
  | (with_reducible refine i_B ?_)
  | (with_reducible refine i_exbl ?_)
  | (with_reducible refine i_exint ?_)
  | (with_reducible refine i_cb ?_)
  | (with_reducible refine i_nil ?_)
  | (with_reducible refine i_cons ?_)
  | (with_reducible refine i_ret ?_)
  | (with_reducible refine i_sl ?_)
  | (with_reducible refine i_nopart ?_)
  | (with_reducible refine i_part ?_)
  | (with_reducible refine i_add_int ?_)
  | (with_reducible refine i_sub ?_)
  | (with_reducible refine i_lt ?_)
  | ((with_reducible refine' i_mod ?h1 ?_); (case h1 => walk_at "o"))
  | ((with_reducible refine' i_fdiv ?h1 ?_); (case h1 => (refine cdiv_small ?_ ?_ <;> walk_at "o")))
  | ((with_reducible refine' i_sl_to ?h1 ?h2 ?_); (case h1 => walk_at "o"); (case h2 => walk_at "o"))
  | ((with_reducible refine' i_sl_from ?h1 ?h2 ?_); (case h1 => walk_at "o"); (case h2 => walk_at "o"))
  | ((with_reducible refine' i_add_str ?h1 ?_); (case h1 => walk_at "o"))
  | ((with_reducible refine' i_mul_int ?h1 ?_); (case h1 => first | (refine mul_small ?_ ?_ <;> walk_at "o") | (refine mul_smallR ?_ ?_ <;> walk_at "o")))
  | (with_reducible refine i_le ?_)
  | (with_reducible refine i_gt ?_)
  | (with_reducible refine i_ge ?_)
  | (with_reducible refine i_eq_int ?_)
  | (with_reducible refine i_eq_str ?_)
  | (with_reducible refine i_ne_int ?_)
  | (with_reducible refine i_ne_str ?_)
  | (with_reducible refine i_eq_bl ?_)
  | (with_reducible refine i_ne_bl ?_)
  | (with_reducible refine i_in_sg ?_)
  | (with_reducible refine i_notIn_sg ?_)
  | (with_reducible refine i_call ?_)
  | (with_reducible refine i_callS ?_)
  | (with_reducible refine i_sp1 ?_)
  | (with_reducible refine i_sp2 ?_)
  | (with_reducible refine i_sp3 ?_)
  | (with_reducible refine i_sp4 ?_)
  | (with_reducible refine i_sp1' ?_)
  | (with_reducible refine i_sp2' ?_)
  | (with_reducible refine i_sp3' ?_)
  | ((with_reducible refine' i_ix_lst ?h1 ?h2 ?_); (case h1 => walk_at "sq"); (case h2 => first | exact atI_nat rfl | rfl))
  | ((with_reducible refine' i_ix_tup ?h1 ?h2 ?_); (case h1 => walk_at "st"); (case h2 => first | exact atI_nat rfl | rfl))
  | (with_reducible refine i_gsub ?_)
  | (with_reducible refine i_raise ?_)
  | (with_reducible refine i_mkE ?_)
  | (with_reducible refine i_ex1 ?_)
  | (with_reducible refine i_and ?_)
  | (with_reducible refine i_or ?_)
  | (with_reducible refine i_not ?_)
  | (with_reducible refine i_tt ?_)
  | (with_reducible refine i_ff ?_)
  | (with_reducible refine i_nott ?_)
  | (with_reducible refine i_notf ?_)
  | (with_reducible refine i_andV ?_)
  | (with_reducible refine i_orV ?_)
  | (with_reducible refine i_notV ?_)
  | (with_reducible refine i_ifE ?_)
  | (with_reducible refine i_tup ?_)
  | (with_reducible refine i_lst ?_)
  | (with_reducible refine i_un ?_)
  | (with_reducible refine i_neg ?_)
  | (with_reducible refine i_chain ?_)
  | (with_reducible refine i_next ?_)
  | (with_reducible refine i_retN ?_)
  | (with_reducible refine i_drop ?_)
  | (with_reducible refine i_int_int ?_)
  | (with_reducible refine i_abs ?_)
  | (with_reducible refine i_m1c ?_)
  | (with_reducible refine i_is_non ?_)
  | (with_reducible refine i_is_int ?_)
  | (with_reducible refine i_is_str ?_)
  | (with_reducible refine i_is_ref ?_)
  | (with_reducible refine i_isn_non ?_)
  | (with_reducible refine i_isn_int ?_)
  | (with_reducible refine i_isn_str ?_)
  | (with_reducible refine i_isn_ref ?_)
  | (with_reducible refine i_len_str ?h1 ?_; (case h1 => walk_at "o"))
  | (with_reducible refine i_isi_int_int ?_) | (with_reducible refine i_isi_int_bool ?_) | (with_reducible refine i_isi_int_str ?_) | (with_reducible refine i_isi_int_tuple ?_) | (with_reducible refine i_isi_int_list ?_)
  | (with_reducible refine i_isi_bl_int ?_) | (with_reducible refine i_isi_bl_bool ?_) | (with_reducible refine i_isi_bl_str ?_) | (with_reducible refine i_isi_bl_tuple ?_) | (with_reducible refine i_isi_bl_list ?_)
  | (with_reducible refine i_isi_str_int ?_) | (with_reducible refine i_isi_str_bool ?_) | (with_reducible refine i_isi_str_str ?_) | (with_reducible refine i_isi_str_tuple ?_) | (with_reducible refine i_isi_str_list ?_)
  | (with_reducible refine i_isi_non_int ?_) | (with_reducible refine i_isi_non_bool ?_) | (with_reducible refine i_isi_non_str ?_) | (with_reducible refine i_isi_non_tuple ?_) | (with_reducible refine i_isi_non_list ?_))
local macro_rules | `(tactic| walk_at "go") => `(tactic| (repeat' (walk_at "s")))
/-- the law's going through -/
def sf (l m : List Nat) : Bool := (List.range (l.length * m.length + 24)).all fun i => l[i % l.length]? == m[i % m.length]?
def IsLeast (l r : List Nat) : Prop := ∃ m, 1 ≤ m ∧ m ≤ l.length ∧ r = l.take m ∧ sf (l.take m) l = true ∧ ∀ k, 1 ≤ k → k < m → sf (l.take k) l = false
theorem IsLeast.len {l r : List Nat} (h : IsLeast l r) : 1 ≤ r.length ∧ r.length ≤ l.length := by
  obtain ⟨m, h1, h2, rfl, _⟩ := h
  rw [List.length_take]
  omega
def later (l : List Nat) (n : Int) : List Nat := (List.range l.length).map fun (i : Nat) => l.getD (((i : Int) + n) % (l.length : Int)).toNat 0
theorem later_len (l : List Nat) (n : Int) : (later l n).length = l.length := by simp [later]
def laters (r : List Nat) : List (List Nat) := (List.range r.length).map fun (k : Nat) => later r (k : Int)
theorem sf_self (l : List Nat) : sf l l = true := by
  unfold sf
  rw [List.all_eq_true]
  intro i _
  simp
theorem Row.take {l : List Nat} (h : Row l) (n : Nat) : Row (l.take n) := fun c hc => h c (List.mem_of_mem_take hc)
theorem Row.drop {l : List Nat} (h : Row l) (n : Nat) : Row (l.drop n) := fun c hc => h c (List.mem_of_mem_drop hc)
theorem Row.app {l m : List Nat} (h : Row l) (h2 : Row m) : Row (l ++ m) := fun c hc => (List.mem_append.mp hc).elim (h c) (h2 c)
theorem Row.one {c : Nat} (h : c ∈ SG) : Row [c] := fun x hx => by rw [List.mem_singleton.mp hx]; exact h
theorem Row.rep {l : List Nat} (h : Row l) (n : Nat) : Row (List.replicate n l).flatten := fun c hc => by
  obtain ⟨m, hm, hc⟩ := List.mem_flatten.mp hc
  rw [(List.mem_replicate.mp hm).2] at hc
  exact h c hc
theorem rep_len (n : Nat) (l : List Nat) : (List.replicate n l).flatten.length = n * l.length := by
  simp [List.length_flatten]
theorem Row.later {l : List Nat} (h : Row l) (h1 : 1 ≤ l.length) (n : Int) : Row (later l n) := fun c hc => by
  obtain ⟨i, hi, rfl⟩ := List.mem_map.mp hc
  have h2 : (((i : Int) + n) % (l.length : Int)).toNat < l.length := by
    have a := Int.emod_nonneg ((i : Int) + n) (show (l.length : Int) ≠ 0 by omega)
    have b := Int.emod_lt_of_pos ((i : Int) + n) (show (0 : Int) < l.length by omega)
    omega
  rw [List.getD_eq_getElem?_getD, List.getElem?_eq_getElem h2]
  exact h _ (List.getElem_mem h2)
section
variable {P : Program} {w : World} {K : PySem.W.Frag} {mg : Str → Option Value} {base : Heap} {C_GlimError C_BadRound C_BadBeats : Addr}
def p_L_bent (K : PySem.W.Frag) : P2 := fun x y H Q _ => ∃ (H0 : Hp) (d : Dd) (l : List Nat), x = .ref d.a ∧ y = S l ∧ Dr K d H0 H ∧ Row l ∧ 1 ≤ l.length ∧ l.length ≤ 1000 ∧ ∀ l' H', Dr K d H0 H' → Row l' → 1 ≤ l'.length → l'.length ≤ l.length + 1 → Q (S l') H'
theorem ok_L_bent (T : Txt K mg C_GlimError C_BadRound C_BadBeats) : OK P w K mg base CX0 4 "_law_bent" ["_law_draw_here", "_law_row"] (sp2  (p_L_bent K)) := by
  refine OK.mk (k := 3) T.d_L_bent sc_L_bent len2 fun f cdv A outer s H vs Q E hr h => ?_
  obtain ⟨x, y, rfl, h⟩ := h
  refine ⟨_, (pss_cons (ps_set (i := 2) sc_L_bent.nd rfl (Or.inl rfl) (pe_f (ok_L_pick (K := K) T) (hr.mono (by decide)) pass0 (pa_cons (pv 0) (pa_cons (pe_callB (cLen K) (by rfl) T.b_len (by decide +kernel) (pa_cons (pv 1) pa_nil)) pa_nil)))) (pss_cons (ps_set (i := 3) sc_L_bent.nd rfl (Or.inl rfl) (pe_f (ok_L_pick (K := K) T) (hr.mono (by decide)) pass0 (pa_cons (pv 0) (pa_cons pe_int pa_nil)))) (pss_cons (ps_if (pw_and (pt_cmpR (opEq K hr.units) (pv 3) pe_int (nomark _)) (pw_and1 (pt_cmpR op_gtP (pe_callB (cLen K) (by rfl) T.b_len (by decide +kernel) (pa_cons (pv 1) pa_nil)) pe_int (nomark _)))).pt (pss_one (ps_ret (pe_op (opAdd K) (pe_slice (slK K) (pv 1) po_none (po_some (pv 2))) (pe_slice (slK K) (pv 1) (po_some (pe_op (opAdd K) (pv 2) pe_int)) po_none)))) pss_nil) (pss_cons (ps_if (pt_cmpR (opEq K hr.units) (pv 3) pe_int (nomark _)) (pss_one (ps_ret (pe_op (opAdd K) (pe_op (opAdd K) (pe_slice (slK K) (pv 1) po_none (po_some (pv 2))) (pe_f (ok_L_sign (K := K) T) (hr.mono (by decide)) pass0 (pa_cons (pv 0) pa_nil))) (pe_slice (slK K) (pv 1) (po_some (pv 2)) po_none)))) pss_nil) (pss_one (ps_ret (pe_op (opAdd K) (pe_op (opAdd K) (pe_slice (slK K) (pv 1) po_none (po_some (pv 2))) (pe_f (ok_L_sign (K := K) T) (hr.mono (by decide)) pass0 (pa_cons (pv 0) pa_nil))) (pe_slice (slK K) (pv 1) (po_some (pe_op (opAdd K) (pv 2) pe_int)) po_none)))))))), ?_⟩
  show (_ : TS) { nx := fun _ H' => Q .non H', rt := Q } [some x, some y, none, none] H
  obtain ⟨H0, d, l, rfl, rfl, dr, hr, h1, h2, q⟩ := h
  walk_at "go"
  refine ⟨H0, d, l.length, rfl, rfl, dr, by omega, fun n H1 dr1 b => ?_⟩
  have b0 := b.1
  have b1 : n.toNat < l.length := by have := b.2.1; have := b.2.2; omega
  have e1 : (n + 1).toNat = n.toNat + 1 := by omega
  walk_at "go"
  refine ⟨H0, d, 3, rfl, rfl, dr1, by decide, fun k H2 dr2 _ => ?_⟩
  walk_at "go"
  have last : ∀ c H3, Dr K d H0 H3 → c ∈ SG → Q (S (l.take n.toNat ++ [c] ++ l.drop (n + 1).toNat)) H3 := fun c H3 dr3 hc =>
    q _ H3 dr3 (((hr.take _).app (.one hc)).app (hr.drop _)) (by simp; omega) (by rw [e1]; simp; omega)
  refine i_dec (fun c0 => ?_) (fun c0 => ?_)
  · walk_at "go"
    refine i_dec (fun c1 => ?_) (fun c1 => ?_)
    · walk_at "go"
      exact q _ H2 dr2 ((hr.take _).app (hr.drop _)) (by rw [e1]; simp; omega) (by rw [e1]; simp; omega)
    · walk_at "go"
      refine i_dec (fun c2 => absurd c2 (by omega)) (fun c2 => ?_)
      walk_at "go"
      refine ⟨H0, d, rfl, dr2, fun c H3 dr3 hc => ?_⟩
      walk_at "go"
      exact last c H3 dr3 hc
  · walk_at "go"
    refine i_dec (fun c2 => ?_) (fun c2 => ?_)
    · walk_at "go"
      refine ⟨H0, d, rfl, dr2, fun c H3 dr3 hc => ?_⟩
      walk_at "go"
      exact q _ H3 dr3 (((hr.take _).app (.one hc)).app (hr.drop _)) (by simp; omega) (by simp; omega)
    · walk_at "go"
      refine ⟨H0, d, rfl, dr2, fun c H3 dr3 hc => ?_⟩
      walk_at "go"
      exact last c H3 dr3 hc
def p_L_same : P2 := fun x y H Q _ => ∃ l m, x = S l ∧ y = S m ∧ 1 ≤ l.length ∧ l.length ≤ 1000 ∧ 1 ≤ m.length ∧ m.length ≤ 1000 ∧ Q (.bl (sf l m)) H
theorem ok_L_same_for_ever (T : Txt K mg C_GlimError C_BadRound C_BadBeats) : OK P w K mg base CX0 1 "_law_same_for_ever" ["_law_first", "_law_second"] (sp2  p_L_same) := by
  refine OK.mk (k := 0) T.d_L_same_for_ever sc_L_same_for_ever len2 fun f cdv A outer s H vs Q E hr h => ?_
  obtain ⟨x, y, rfl, h⟩ := h
  refine ⟨_, (pss_cons (ps_for PassesOwn.never rfl (pi_range1 rfl T.b_range (pa_cons (pe_op (opAdd K) (pe_op op_mulP (pe_callB (cLen K) (by rfl) T.b_len (by decide +kernel) (pa_cons (pv 0) pa_nil)) (pe_callB (cLen K) (by rfl) T.b_len (by decide +kernel) (pa_cons (pv 1) pa_nil))) pe_int) pa_nil)) (pg_name (i := 2) sc_L_same_for_ever.nd rfl (Or.inl rfl)) (pss_one (ps_if (pt_cmpR (opNe K hr.units) (pe_ix (ixK K) (pv 0) (pe_op op_modP (pe_callTy call_intP (by rfl) T.b_int (by decide +kernel) (pa_cons (pv 2) pa_nil)) (pe_callB (cLen K) (by rfl) T.b_len (by decide +kernel) (pa_cons (pv 0) pa_nil))) (fun _ _ => rfl)) (pe_ix (ixK K) (pv 1) (pe_op op_modP (pe_callTy call_intP (by rfl) T.b_int (by decide +kernel) (pa_cons (pv 2) pa_nil)) (pe_callB (cLen K) (by rfl) T.b_len (by decide +kernel) (pa_cons (pv 1) pa_nil))) (fun _ _ => rfl)) (nomark _)) (pss_one (ps_ret pe_bl)) pss_nil))) (pss_one (ps_ret pe_bl))), ?_⟩
  show (_ : TS) { nx := fun _ H' => Q .non H', rt := Q } [some x, some y, none] H
  obtain ⟨l, m, rfl, rfl, l1, l2, m1, m2, q⟩ := h
  have hmul : l.length * m.length ≤ 1000000 := Nat.mul_le_mul l2 m2
  walk_at "go"
  refine f_rng1 (l.length * m.length + 24) (fun R k => ?_) (by omega) (fun i σ H' => ∃ v, σ = [some (S l), some (S m), v] ∧ H' = H ∧ ∀ k < i, l[k % l.length]? = m[k % m.length]?) ⟨_, rfl, rfl, by omega⟩ ?_ ?_
  · walk_at "go"
    have e : ((l.length : Int) * (m.length : Int) + 24) = ((l.length * m.length + 24 : Nat) : Int) := by simp
    rw [e]
    exact k
  · rintro i σ H' hi ⟨v, rfl, rfl, hk⟩
    walk_at "go"
    have h1 : i % l.length < l.length := Nat.mod_lt _ (by omega)
    have h2 : i % m.length < m.length := Nat.mod_lt _ (by omega)
    rw [← Int.natCast_emod]
    refine i_ix_str (c := l[i % l.length]) (by omega) (by omega) (by rw [Int.toNat_natCast]; exact List.getElem?_eq_getElem h1) ?_
    walk_at "go"
    rw [← Int.natCast_emod]
    refine i_ix_str (c := m[i % m.length]) (by omega) (by omega) (by rw [Int.toNat_natCast]; exact List.getElem?_eq_getElem h2) ?_
    walk_at "go"
    refine i_decN (fun e => ?_) (fun e => ?_)
    · walk_at "go"
      have : sf l m = false := by
        rw [Bool.eq_false_iff]
        intro z
        have z2 := List.all_eq_true.mp z i (List.mem_range.mpr hi)
        rw [beq_iff_eq, List.getElem?_eq_getElem h1, List.getElem?_eq_getElem h2] at z2
        exact e (by rw [Option.some.inj z2])
      rw [this] at q
      exact q
    · walk_at "go"
      refine ⟨_, rfl, rfl, fun k hk' => ?_⟩
      by_cases e' : k < i
      · exact hk k e'
      · have : k = i := by omega
        subst this
        rw [List.getElem?_eq_getElem h1, List.getElem?_eq_getElem h2]
        simpa using e
  · rintro σ H' ⟨v, rfl, rfl, hk⟩
    walk_at "go"
    have : sf l m = true := List.all_eq_true.mpr fun i hi => by
      rw [beq_iff_eq]
      exact hk i (List.mem_range.mp hi)
    rw [this] at q
    exact q
def p_L_least : P1 := fun x H Q _ => ∃ l, x = S l ∧ 1 ≤ l.length ∧ l.length ≤ 1000 ∧ ∀ r, IsLeast l r → Q (S r) H
theorem ok_L_least (T : Txt K mg C_GlimError C_BadRound C_BadBeats) : OK P w K mg base CX0 2 "_law_least" ["_law_row"] (sp1  p_L_least) := by
  refine OK.mk (k := 1) T.d_L_least sc_L_least len1 fun f cdv A outer s H vs Q E hr h => ?_
  obtain ⟨x, rfl, h⟩ := h
  refine ⟨_, (pss_cons (ps_for PassesOwn.never rfl (pi_range2 rfl T.b_range (pa_cons pe_int (pa_cons (pe_op (opAdd K) (pe_callB (cLen K) (by rfl) T.b_len (by decide +kernel) (pa_cons (pv 0) pa_nil)) pe_int) pa_nil))) (pg_name (i := 1) sc_L_least.nd rfl (Or.inl rfl)) (pss_one (ps_if (pt_val (pe_f (ok_L_same_for_ever (K := K) T) (hr.mono (by decide)) pass0 (pa_cons (pe_slice (slK K) (pv 0) po_none (po_some (pv 1))) (pa_cons (pv 0) pa_nil)))) (pss_one (ps_ret (pe_slice (slK K) (pv 0) po_none (po_some (pv 1))))) pss_nil))) (pss_one (ps_ret (pv 0)))), ?_⟩
  show (_ : TS) { nx := fun _ H' => Q .non H', rt := Q } [some x, none] H
  obtain ⟨l, rfl, l1, l2, q⟩ := h
  walk_at "go"
  refine f_rng2 1 (l.length + 1) (fun R k => ?_) (by omega) (fun i σ H' => ∃ v, σ = [some (S l), v] ∧ H' = H ∧ ∀ k, 1 ≤ k → k < 1 + i → sf (l.take k) l = false) ⟨_, rfl, rfl, by omega⟩ ?_ ?_
  · walk_at "go"
    exact k
  · rintro i σ H' hi ⟨v, rfl, rfl, hk⟩
    walk_at "go"
    rw [Int.toNat_natCast]
    refine ⟨l.take (1 + i), l, rfl, rfl, by simp; omega, by simp; omega, l1, l2, ?_⟩
    walk_at "go"
    refine i_bool (fun e => ?_) (fun e => ?_)
    · walk_at "go"
      rw [Int.toNat_natCast]
      exact q _ ⟨1 + i, by omega, by omega, rfl, e, hk⟩
    · walk_at "go"
      refine ⟨_, rfl, rfl, fun k k1 k2 => ?_⟩
      by_cases e' : k < 1 + i
      · exact hk k k1 e'
      · have : k = 1 + i := by omega
        subst this
        exact e
  · rintro σ H' ⟨v, rfl, rfl, hk⟩
    have := hk l.length l1 (by omega)
    rw [List.take_length, sf_self] at this
    cases this
def p_L_later : P2 := fun x y H Q _ => ∃ (l : List Nat) (n : Int), x = S l ∧ y = .int n ∧ 1 ≤ l.length ∧ l.length ≤ 1000 ∧ ∀ H', Same H H' → Q (S (later l n)) H'
theorem ok_L_later (T : Txt K mg C_GlimError C_BadRound C_BadBeats) : OK P w K mg base CX0 1 "_law_later" ["_law_row", "_law_many"] (sp2  p_L_later) := by
  refine OK.mk (k := 0) T.d_L_later sc_L_later len2 fun f cdv A outer s H vs Q E hr h => ?_
  obtain ⟨x, y, rfl, h⟩ := h
  refine ⟨_, (pss_one (ps_ret (peJoin K (pe_S []) (pe_lc (own := [("_law_spot", 2)]) (g := gName 2) (tt := tYes) (by rfl) sc_L_later.nd (pi_range1 rfl T.b_range (pa_cons (pe_callB (cLen K) (by rfl) T.b_len (by decide +kernel) (pa_cons (pv 0) pa_nil)) pa_nil)) (blkOk_by (own := [("_law_spot", 2)]) (N := ["_law_row", "_law_many", "_law_spot"]) (sc := (defScope s_L_later)) (by decide +kernel)) (fun _ _ _ _ _ => (pg_name (i := 2) sc_L_later.nd rfl (Or.inl rfl))) (fun _ _ _ _ _ => pts_nil) (fun _ _ _ _ _ => (pe_ix (ixK K) (pv 0) (pe_op op_modP (pe_callTy call_intP (by rfl) T.b_int (by decide +kernel) (pa_cons (pe_op (opAdd K) (pv 2) (pv 1)) pa_nil)) (pe_callB (cLen K) (by rfl) T.b_len (by decide +kernel) (pa_cons (pv 0) pa_nil))) (fun _ _ => rfl))))))), ?_⟩
  show (_ : TS) { nx := fun _ H' => Q .non H', rt := Q } [some x, some y, none] H
  obtain ⟨l, n, rfl, rfl, l1, l2, q⟩ := h
  walk_at "go"
  refine c_rng1A l.length (fun R k => by walk_at "go"; exact k) (by omega) (fun i => S [l.getD (((i : Int) + n) % (l.length : Int)).toNat 0]) (fun _ => rfl) (fun i H2 hi s2 QV k => ?_) (fun Dl H2 n2 s2 d2 => ?_)
  · show (_ : TE) [some (S l), some (.int n), some (.int (i : Int))] H2 QV
    walk_at "go"
    have a := Int.emod_nonneg ((i : Int) + n) (show (l.length : Int) ≠ 0 by omega)
    have b := Int.emod_lt_of_pos ((i : Int) + n) (show (0 : Int) < l.length by omega)
    have h2 : (((i : Int) + n) % (l.length : Int)).toNat < l.length := by omega
    refine i_ix_str (by omega) a (List.getElem?_eq_getElem h2) ?_
    have := k H2 (Same.refl H2)
    rw [List.getD_eq_getElem?_getD, List.getElem?_eq_getElem h2] at this
    exact this
  · walk_at "go"
    refine i_join1 (cs := later l n) (.inl (.inl ?_)) (by rw [later_len]; omega) ?_
    · rw [d2]; unfold later; rw [List.map_map]; rfl
    · exact q H2 s2
def p_L_number (K : PySem.W.Frag) : P1 := fun x H Q _ => ∃ (H0 : Hp) (d : Dd), x = .ref d.a ∧ Dr K d H0 H ∧ ∀ (n : Int) H', Dr K d H0 H' → 0 ≤ n → Q (.int n) H'
theorem ok_L_number (T : Txt K mg C_GlimError C_BadRound C_BadBeats) : OK P w K mg base CX0 3 "_law_number" ["_law_draw_here"] (sp1  (p_L_number K)) := by
  refine OK.mk (k := 2) T.d_L_number sc_L_number len1 fun f cdv A outer s H vs Q E hr h => ?_
  obtain ⟨x, rfl, h⟩ := h
  refine ⟨_, (pss_cons (ps_set (i := 1) sc_L_number.nd rfl (Or.inl rfl) (pe_f (ok_L_pick (K := K) T) (hr.mono (by decide)) pass0 (pa_cons (pv 0) (pa_cons pe_int pa_nil)))) (pss_cons (ps_if (pt_cmpR (opEq K hr.units) (pv 1) pe_int (nomark _)) (pss_one (ps_ret (pe_f (ok_L_pick (K := K) T) (hr.mono (by decide)) pass0 (pa_cons (pv 0) (pa_cons pe_int pa_nil))))) pss_nil) (pss_cons (ps_if (pt_cmpR (opEq K hr.units) (pv 1) pe_int (nomark _)) (pss_one (ps_ret (pe_f (ok_L_pick (K := K) T) (hr.mono (by decide)) pass0 (pa_cons (pv 0) (pa_cons (pe_op op_powP pe_int pe_int) pa_nil))))) pss_nil) (pss_one (ps_ret (pe_op op_subP (pe_op op_subP (pe_op op_powP pe_int pe_int) pe_int) (pe_f (ok_L_pick (K := K) T) (hr.mono (by decide)) pass0 (pa_cons (pv 0) (pa_cons (pe_op op_powP pe_int pe_int) pa_nil))))))))), ?_⟩
  show (_ : TS) { nx := fun _ H' => Q .non H', rt := Q } [some x, none] H
  obtain ⟨H0, d, rfl, dr, q⟩ := h
  walk_at "go"
  refine ⟨H0, d, 3, rfl, rfl, dr, by decide, fun k H1 dr1 _ => ?_⟩
  walk_at "go"
  refine i_dec (fun e => ?_) (fun e => ?_)
  · walk_at "go"
    exact ⟨H0, d, 30, rfl, rfl, dr1, by decide, fun n H2 dr2 b => q n H2 dr2 b.1⟩
  walk_at "go"
  refine i_dec (fun e => ?_) (fun e => ?_)
  · walk_at "go"
    refine i_pow (by decide +kernel) ?_
    walk_at "go"
    exact ⟨H0, d, _, rfl, rfl, dr1, by decide +kernel, fun n H2 dr2 b => q n H2 dr2 b.1⟩
  · walk_at "go"
    refine i_pow (by decide +kernel) ?_
    walk_at "go"
    refine i_pow (by decide +kernel) ?_
    walk_at "go"
    refine ⟨H0, d, _, rfl, rfl, dr1, by decide +kernel, fun n H2 dr2 b => ?_⟩
    walk_at "go"
    refine q _ H2 dr2 ?_
    have h1 := b.2.1 (by decide +kernel)
    have e1 : ((10 : Int) ^ (39 : Int).toNat) = 1000000000000000000000000000000000000000 := by decide +kernel
    have e2 : ((10 : Int) ^ (40 : Int).toNat) = 10000000000000000000000000000000000000000 := by decide +kernel
    rw [e1] at h1
    rw [e2]
    omega
end
end K07
namespace K07
open PySem PySem.Spec PyProof.Rows L2 Fg
local macro_rules | `(tactic| walk_at "sq") => `(tactic| first
  | assumption
  | exact .inl (.inl (by assumption))
  | exact .inl (.inl upd_same))
local macro_rules | `(tactic| walk_at "st") => `(tactic| first
  | assumption
  | exact .inl (.inl (by assumption))
  | exact .inl (.inl upd_same))
local macro_rules | `(tactic| walk_at "o") => `(tactic| first
  | omega
  | assumption
  | (simp only [List.length_append, List.length_take, List.length_drop, List.length_cons, List.length_nil, List.length_singleton, List.length_map, List.length_range, Int.toNat_natCast] ; omega))
local macro_rules | `(tactic| walk_at "s") => `(tactic| first
  | (with_reducible refine i_seq ?_)
  | (with_reducible refine i_asg ?_)
  | ((with_reducible refine' i_var ?h1 ?_); (case h1 => rfl))
  | (with_reducible refine i_c ?_)
  | ((with_reducible refine' i_gname' ?h1 ?_); (case h1 => (simp only [List.set_cons_zero, List.set_cons_succ]; rfl)))
  | (with_reducible refine i_op ?_)
  | (with_reducible refine i_ifS ?_)
  | (with_reducible refine i_for ?_)
  | (with_reducible refine i_test ?_)
  | (with_reducible refine i_B ?_)
  | (with_reducible refine i_exbl ?_)
  | (with_reducible refine i_exint ?_)
  | (with_reducible refine i_cb ?_)
  | (with_reducible refine i_nil ?_)
  | (with_reducible refine i_cons ?_)
  | (with_reducible refine i_ret ?_)
  | (with_reducible refine i_sl ?_)
  | (with_reducible refine i_nopart ?_)
  | (with_reducible refine i_part ?_)
  | (with_reducible refine i_add_int ?_)
  | (with_reducible refine i_sub ?_)
  | (with_reducible refine i_lt ?_)
  | ((with_reducible refine' i_mod ?h1 ?_); (case h1 => walk_at "o"))
  | ((with_reducible refine' i_fdiv ?h1 ?_); (case h1 => (refine cdiv_small ?_ ?_ <;> walk_at "o")))
  | ((with_reducible refine' i_sl_to ?h1 ?h2 ?_); (case h1 => walk_at "o"); (case h2 => walk_at "o"))
  | ((with_reducible refine' i_sl_from ?h1 ?h2 ?_); (case h1 => walk_at "o"); (case h2 => walk_at "o"))
  | ((with_reducible refine' i_add_str ?h1 ?_); (case h1 => walk_at "o"))
  | ((with_reducible refine' i_mul_int ?h1 ?_); (case h1 => first | (refine mul_small ?_ ?_ <;> walk_at "o") | (refine mul_smallR ?_ ?_ <;> walk_at "o")))
  | (with_reducible refine i_le ?_)
  | (with_reducible refine i_gt ?_)
  | (with_reducible refine i_ge ?_)
  | (with_reducible refine i_eq_int ?_)
  | (with_reducible refine i_eq_str ?_)
  | (with_reducible refine i_ne_int ?_)
  | (with_reducible refine i_ne_str ?_)
  | (with_reducible refine i_eq_bl ?_)
  | (with_reducible refine i_ne_bl ?_)
  | (with_reducible refine i_in_sg ?_)
  | (with_reducible refine i_notIn_sg ?_)
  | (with_reducible refine i_call ?_)
  | (with_reducible refine i_callS ?_)
  | (with_reducible refine i_sp1 ?_)
  | (with_reducible refine i_sp2 ?_)
  | (with_reducible refine i_sp3 ?_)
  | (with_reducible refine i_sp4 ?_)
  | (with_reducible refine i_sp1' ?_)
  | (with_reducible refine i_sp2' ?_)
  | (with_reducible refine i_sp3' ?_)
  | ((with_reducible refine' i_ix_lst ?h1 ?h2 ?_); (case h1 => walk_at "sq"); (case h2 => first | exact atI_nat rfl | rfl))
  | ((with_reducible refine' i_ix_tup ?h1 ?h2 ?_); (case h1 => walk_at "st"); (case h2 => first | exact atI_nat rfl | rfl))
  | (with_reducible refine i_gsub ?_)
  | (with_reducible refine i_raise ?_)
  | (with_reducible refine i_mkE ?_)
  | (with_reducible refine i_ex1 ?_)
  | (with_reducible refine i_and ?_)
  | (with_reducible refine i_or ?_)
  | (with_reducible refine i_not ?_)
  | (with_reducible refine i_tt ?_)
  | (with_reducible refine i_ff ?_)
  | (with_reducible refine i_nott ?_)
  | (with_reducible refine i_notf ?_)
  | (with_reducible refine i_andV ?_)
  | (with_reducible refine i_orV ?_)
  | (with_reducible refine i_notV ?_)
  | (with_reducible refine i_ifE ?_)
  | (with_reducible refine i_tup ?_)
  | (with_reducible refine i_lst ?_)
  | (with_reducible refine i_un ?_)
  | (with_reducible refine i_neg ?_)
  | (with_reducible refine i_chain ?_)
  | (with_reducible refine i_next ?_)
  | (with_reducible refine i_retN ?_)
  | (with_reducible refine i_drop ?_)
  | (with_reducible refine i_int_int ?_)
  | (with_reducible refine i_abs ?_)
  | (with_reducible refine i_m1c ?_)
  | (with_reducible refine i_is_non ?_)
  | (with_reducible refine i_is_int ?_)
  | (with_reducible refine i_is_str ?_)
  | (with_reducible refine i_is_ref ?_)
  | (with_reducible refine i_isn_non ?_)
  | (with_reducible refine i_isn_int ?_)
  | (with_reducible refine i_isn_str ?_)
  | (with_reducible refine i_isn_ref ?_)
  | (with_reducible refine i_len_str ?h1 ?_; (case h1 => walk_at "o"))
  | (with_reducible refine i_isi_int_int ?_) | (with_reducible refine i_isi_int_bool ?_) | (with_reducible refine i_isi_int_str ?_) | (with_reducible refine i_isi_int_tuple ?_) | (with_reducible refine i_isi_int_list ?_)
  | (with_reducible refine i_isi_bl_int ?_) | (with_reducible refine i_isi_bl_bool ?_) | (with_reducible refine i_isi_bl_str ?_) | (with_reducible refine i_isi_bl_tuple ?_) | (with_reducible refine i_isi_bl_list ?_)
  | (with_reducible refine i_isi_str_int ?_) | (with_reducible refine i_isi_str_bool ?_) | (with_reducible refine i_isi_str_str ?_) | (with_reducible refine i_isi_str_tuple ?_) | (with_reducible refine i_isi_str_list ?_)
  | (with_reducible refine i_isi_non_int ?_) | (with_reducible refine i_isi_non_bool ?_) | (with_reducible refine i_isi_non_str ?_) | (with_reducible refine i_isi_non_tuple ?_) | (with_reducible refine i_isi_non_list ?_))
local macro_rules | `(tactic| walk_at "go") => `(tactic| (repeat' (walk_at "s")))
theorem least_ex (l : List Nat) (h : 1 ≤ l.length) : ∃ r, IsLeast l r := by
  have key : ∀ n m, n + m = l.length → 1 ≤ m → (∀ k, 1 ≤ k → k < m → sf (l.take k) l = false) → ∃ r, IsLeast l r := by
    intro n
    induction n with
    | zero => exact fun m hm h1 hk => ⟨l.take m, m, h1, by omega, rfl, by rw [show m = l.length by omega, List.take_length]; exact sf_self l, hk⟩
    | succ n ih =>
      intro m hm h1 hk
      cases hg : sf (l.take m) l with
      | true => exact ⟨l.take m, m, h1, by omega, rfl, hg, hk⟩
      | false =>
        refine ih (m + 1) (by omega) (by omega) fun k k1 k2 => ?_
        by_cases e : k < m
        · exact hk k k1 e
        · have : k = m := by omega
          subst this
          exact hg
  exact key (l.length - 1) 1 (by omega) (Nat.le_refl _) (by omega)
section
variable {P : Program} {w : World} {K : PySem.W.Frag} {mg : Str → Option Value} {base : Heap} {C_GlimError C_BadRound C_BadBeats : Addr}
def p_L_rhythm : P1 := fun x H Q _ => ∃ l, x = S l ∧ 1 ≤ l.length ∧ l.length ≤ 60 ∧ ∀ r m H', IsLeast l r → m ∈ laters r → (∀ y ∈ laters r, ¬ y < m) → Same H H' → Q (S m) H'
theorem ok_L_rhythm (T : Txt K mg C_GlimError C_BadRound C_BadBeats) : OK P w K mg base CX0 3 "_law_rhythm" ["_law_row"] (sp1  p_L_rhythm) := by
  refine OK.mk (k := 2) T.d_L_rhythm sc_L_rhythm len1 fun f cdv A outer s H vs Q E hr h => ?_
  obtain ⟨x, rfl, h⟩ := h
  refine ⟨_, (pss_cons (ps_set (i := 1) sc_L_rhythm.nd rfl (Or.inr rfl) (pe_f (ok_L_least (K := K) T) (hr.mono (by decide)) pass0 (pa_cons (pv 0) pa_nil))) (pss_one (ps_ret (pe_ix (ixK K) (pe_callB (cSortedS K) (by rfl) T.b_sorted (by decide +kernel) (pa_cons (pe_lc (own := [("_law_many", 2)]) (g := gName 2) (tt := tYes) (by rfl) sc_L_rhythm.nd (pi_range1 rfl T.b_range (pa_cons (pe_callB (cLen K) (by rfl) T.b_len (by decide +kernel) (pa_cons (pv 1) pa_nil)) pa_nil)) (blkOk_by (own := [("_law_many", 2)]) (N := ["_law_row", "_law_least_here", "_law_many"]) (sc := (defScope s_L_rhythm)) (by decide +kernel)) (fun _ _ _ _ _ => (pg_name (i := 2) sc_L_rhythm.nd rfl (Or.inl rfl))) (fun _ _ _ _ _ => pts_nil) (fun _ _ _ _ _ => (pe_f (ok_L_later (K := K) T) (hr.mono (by decide)) pass0 (pa_cons (pv 1) (pa_cons (pv 2) pa_nil))))) pa_nil)) pe_int (fun _ _ => rfl))))), ?_⟩
  show (_ : TS) { nx := fun _ H' => Q .non H', rt := Q } [some x, none, none] H
  obtain ⟨l, rfl, l1, l2, q⟩ := h
  walk_at "go"
  refine ⟨l, rfl, l1, by omega, fun r hr => ?_⟩
  have hlen := hr.len
  walk_at "go"
  refine c_rng1A r.length (fun R k => by walk_at "go"; exact k) (by omega) (fun (i : Nat) => S (later r (i : Int))) (fun _ => rfl) (fun i H2 hi s2 QV k => ?_) (fun Dl H2 n2 s2 d2 => ?_)
  · show (_ : TE) [some (S l), some (S r), some (.int (i : Int))] H2 QV
    walk_at "go"
    exact ⟨r, (i : Int), rfl, rfl, hlen.1, by omega, fun H3 s3 => k H3 s3⟩
  · walk_at "go"
    have e : (List.range r.length).map (fun (i : Nat) => S (later r (i : Int))) = (laters r).map S := by unfold laters; rw [List.map_map]; rfl
    rw [e] at d2
    have ll : (laters r).length = r.length := by unfold laters; simp
    refine i_sortedS (ls := laters r) (.inl (.inl d2)) (by omega) fun zs p pm hd np => ?_
    walk_at "go"
    have zl : zs.length = r.length := by rw [pm.length_eq, ll]
    have z0 : zs[0]? = some zs[0] := List.getElem?_eq_getElem (by omega)
    obtain ⟨h1, h2⟩ := hd _ z0
    refine i_ix_lst (v := S zs[0]) (.inl (.inl upd_same)) (atI_nat (j := 0) (by rw [List.getElem?_map, z0]; rfl)) ?_
    walk_at "go"
    exact q r _ _ hr h1 h2 (s2.trans (same_upd np))
def p_L_moments : P2 := fun x y H Q _ => ∃ l1 l2, x = S l1 ∧ y = S l2 ∧ 1 ≤ l1.length ∧ l1.length ≤ 1000 ∧ 1 ≤ l2.length ∧ l2.length ≤ 1000 ∧ ∀ r2 Dl H', IsLeast l2 r2 → H Dl = none → Same H H' → H' Dl = some (.tup (((List.range r2.length).filter fun (k : Nat) => sf (later l2 (k : Int)) l1).map fun (k : Nat) => V.int (k : Int))) → Q (.ref Dl) H'
theorem ok_L_moments (T : Txt K mg C_GlimError C_BadRound C_BadBeats) : OK P w K mg base CX0 3 "_law_moments" ["_law_first", "_law_second"] (sp2  p_L_moments) := by
  refine OK.mk (k := 2) T.d_L_moments sc_L_moments len2 fun f cdv A outer s H vs Q E hr h => ?_
  obtain ⟨x, y, rfl, h⟩ := h
  refine ⟨_, (pss_cons (ps_set (i := 2) sc_L_moments.nd rfl (Or.inl rfl) (pe_callB (cLen K) (by rfl) T.b_len (by decide +kernel) (pa_cons (pe_f (ok_L_least (K := K) T) (hr.mono (by decide)) pass0 (pa_cons (pv 1) pa_nil)) pa_nil))) (pss_one (ps_ret (pe_callTy (cTup K) (by rfl) T.b_tuple (by decide +kernel) (pa_cons (pe_lc (own := [("_law_number_here", 3)]) (g := gName 3) (by rfl) sc_L_moments.nd (pi_range1 rfl T.b_range (pa_cons (pv 2) pa_nil)) (blkOk_by (own := [("_law_number_here", 3)]) (N := ["_law_first", "_law_second", "_law_many", "_law_number_here"]) (sc := (defScope s_L_moments)) (by decide +kernel)) (fun _ _ _ _ _ => (pg_name (i := 3) sc_L_moments.nd rfl (Or.inl rfl))) (fun _ _ _ _ _ => (pts_one (pt_val (pe_f (ok_L_same_for_ever (K := K) T) (hr.mono (by decide)) pass0 (pa_cons (pe_f (ok_L_later (K := K) T) (hr.mono (by decide)) pass0 (pa_cons (pv 1) (pa_cons (pv 3) pa_nil))) (pa_cons (pv 0) pa_nil)))))) (fun _ _ _ _ _ => (pv 3))) pa_nil))))), ?_⟩
  show (_ : TS) { nx := fun _ H' => Q .non H', rt := Q } [some x, some y, none, none] H
  obtain ⟨l1, l2, rfl, rfl, a1, a2, b1, b2, q⟩ := h
  walk_at "go"
  refine ⟨l2, rfl, b1, b2, fun r2 hr => ?_⟩
  have hlen := hr.len
  walk_at "go"
  refine c_rng1 r2.length (fun R k => by walk_at "go"; exact k) (by omega) (fun (k : Nat) => sf (later l2 (k : Int)) l1) (fun k => .int (k : Int)) (fun _ => rfl) (fun i H2 hi s2 QB k => ?_) (fun i H2 hi s2 _ QV k => ?_) (fun Dl H2 n2 s2 d2 => ?_)
  · show (_ : TT) [some (S l1), some (S l2), some (.int (r2.length : Int)), some (.int (i : Int))] H2 QB
    walk_at "go"
    refine ⟨l2, (i : Int), rfl, rfl, b1, b2, fun H3 s3 => ?_⟩
    walk_at "go"
    refine ⟨_, l1, rfl, rfl, by rw [later_len]; exact b1, by rw [later_len]; exact b2, a1, a2, ?_⟩
    walk_at "go"
    exact k H3 s3
  · show (_ : TE) [some (S l1), some (S l2), some (.int (r2.length : Int)), some (.int (i : Int))] H2 QV
    walk_at "go"
    exact k H2 (Same.refl H2)
  · walk_at "go"
    refine i_tuple_lst (.inl (.inl d2)) fun Dt n3 => ?_
    walk_at "go"
    exact q r2 Dt _ hr (s2.free n3) (s2.trans (same_upd n3)) upd_same
def p_L_rounds (K : PySem.W.Frag) : P1 := fun x H Q _ => ∃ (H0 : Hp) (d : Dd), x = .ref d.a ∧ Dr K d H0 H ∧ ∀ l1 l2 Dl H', H0 Dl = none → IsRound l1 → IsRound l2 → Dr K d (upd H0 Dl (.lst [S l1, S l2])) H' → Q (.ref Dl) H'
theorem many_ok {b n k : Int} (hb : 1 ≤ b) (hb2 : b ≤ 6) (hk : k = 24 / b) (h0 : 0 ≤ n) (h1 : n < k) : b * (1 + n) ≤ 24 := by
  have : 1 + n ≤ 24 / b := by omega
  calc b * (1 + n) ≤ b * (24 / b) := Int.mul_le_mul_of_nonneg_left this (by omega)
    _ ≤ 24 := Int.mul_ediv_self_le (by omega)
theorem ok_L_rounds (T : Txt K mg C_GlimError C_BadRound C_BadBeats) : OK P w K mg base CX0 5 "_law_rounds" ["_law_draw_here"] (sp1  (p_L_rounds K)) := by
  refine OK.mk (k := 4) T.d_L_rounds sc_L_rounds len1 fun f cdv A outer s H vs Q E hr h => ?_
  obtain ⟨x, rfl, h⟩ := h
  refine ⟨_, (pss_cons (ps_set (i := 1) sc_L_rounds.nd rfl (Or.inl rfl) (pe_f (ok_L_round (K := K) T) (hr.mono (by decide)) pass0 (pa_cons (pv 0) (pa_cons pe_int pa_nil)))) (pss_cons (ps_set (i := 2) sc_L_rounds.nd rfl (Or.inl rfl) (pe_op op_mulP (pv 1) (pe_op (opAdd K) pe_int (pe_f (ok_L_pick (K := K) T) (hr.mono (by decide)) pass0 (pa_cons (pv 0) (pa_cons (pe_op op_fdivP pe_int (pe_callB (cLen K) (by rfl) T.b_len (by decide +kernel) (pa_cons (pv 1) pa_nil))) pa_nil)))))) (pss_cons (ps_set (i := 3) sc_L_rounds.nd rfl (Or.inl rfl) (pe_f (ok_L_pick (K := K) T) (hr.mono (by decide)) pass0 (pa_cons (pv 0) (pa_cons pe_int pa_nil)))) (pss_cons (ps_set (i := 4) sc_L_rounds.nd rfl (Or.inl rfl) (pe_f (ok_L_later (K := K) T) (hr.mono (by decide)) pass0 (pa_cons (pv 1) (pa_cons (pe_f (ok_L_pick (K := K) T) (hr.mono (by decide)) pass0 (pa_cons (pv 0) (pa_cons (pe_callB (cLen K) (by rfl) T.b_len (by decide +kernel) (pa_cons (pv 1) pa_nil)) pa_nil))) pa_nil)))) (pss_cons (ps_set (i := 4) sc_L_rounds.nd rfl (Or.inl rfl) (pe_op op_mulP (pv 4) (pe_op (opAdd K) pe_int (pe_f (ok_L_pick (K := K) T) (hr.mono (by decide)) pass0 (pa_cons (pv 0) (pa_cons (pe_op op_fdivP pe_int (pe_callB (cLen K) (by rfl) T.b_len (by decide +kernel) (pa_cons (pv 1) pa_nil))) pa_nil)))))) (Evl.pss_cut (ps_if (pt_cmpR (opEq K hr.units) (pv 3) pe_int (nomark _)) (pss_one (ps_set (i := 4) sc_L_rounds.nd rfl (Or.inl rfl) (pe_slice (slK K) (pe_f (ok_L_bent (K := K) T) (hr.mono (by decide)) pass0 (pa_cons (pv 0) (pa_cons (pv 4) pa_nil))) po_none (po_some pe_int)))) pss_nil) (Evl.pss_cut (ps_if (pt_cmpR (opEq K hr.units) (pv 3) pe_int (nomark _)) (pss_one (ps_set (i := 4) sc_L_rounds.nd rfl (Or.inl rfl) (pe_f (ok_L_round (K := K) T) (hr.mono (by decide)) pass0 (pa_cons (pv 0) (pa_cons pe_int pa_nil))))) pss_nil) (pss_one (ps_ret (pe_lst (pa_cons (pv 2) (pa_cons (pv 4) pa_nil)))))))))))), ?_⟩
  show (_ : TS) { nx := fun _ H' => Q .non H', rt := Q } [some x, none, none, none, none] H
  obtain ⟨H0, d, rfl, dr, q⟩ := h
  walk_at "go"
  refine ⟨H0, d, 6, rfl, rfl, dr, by decide, by decide, fun bs H1 dr1 hb b1 b6 => ?_⟩
  walk_at "go"
  have div4 : 4 ≤ (24 : Int) / (bs.length : Int) := by
    rw [Int.le_ediv_iff_mul_le (by omega)]
    omega
  have div24 : (24 : Int) / (bs.length : Int) ≤ 24 := Int.ediv_le_self _ (by decide)
  have fits : ∀ n : Int, 0 ≤ n → n < 24 / (bs.length : Int) → bs.length * (1 + n).toNat ≤ 24 := fun n h0 h1 => by
    have := many_ok (b := bs.length) (n := n) (by omega) b6 rfl h0 h1
    have e : ((bs.length * (1 + n).toNat : Nat) : Int) = (bs.length : Int) * (1 + n) := by
      rw [Int.natCast_mul, Int.toNat_of_nonneg (by omega)]
    omega
  refine ⟨H0, d, _, rfl, rfl, dr1, by omega, fun n H2 dr2 b => ?_⟩
  have n0 := b.1
  have n1 := b.2.1 (by omega)
  have f1 := fits n n0 n1
  walk_at "go"
  refine i_mul_strI (by omega) ⟨by omega, by omega⟩ ?_
  walk_at "go"
  refine ⟨H0, d, 4, rfl, rfl, dr2, by decide, fun k H3 dr3 _ => ?_⟩
  walk_at "go"
  refine ⟨H0, d, bs.length, rfl, rfl, dr3, by omega, fun t H4 dr4 _ => ?_⟩
  walk_at "go"
  refine ⟨bs, t, rfl, rfl, by omega, by omega, fun H5 s5 => ?_⟩
  have dr5 := dr4.same s5
  walk_at "go"
  refine ⟨H0, d, _, rfl, rfl, dr5, by omega, fun n' H6 dr6 b' => ?_⟩
  have n0' := b'.1
  have n1' := b'.2.1 (by omega)
  have f2 := fits n' n0' n1'
  walk_at "go"
  refine i_mul_strI (by omega) ⟨by rw [later_len]; omega, by omega⟩ ?_
  walk_at "go"
  have r1 : IsRound (List.replicate (1 + n).toNat bs).flatten := ⟨by rw [rep_len]; have : 1 ≤ (1 + n).toNat * bs.length := Nat.mul_pos (by omega) (by omega); exact this, by rw [rep_len, Nat.mul_comm]; exact f1, hb.rep _⟩
  have r2 : IsRound (List.replicate (1 + n').toNat (later bs t)).flatten := ⟨by rw [rep_len, later_len]; have : 1 ≤ (1 + n').toNat * bs.length := Nat.mul_pos (by omega) (by omega); exact this, by rw [rep_len, later_len, Nat.mul_comm]; exact f2, (hb.later (by omega) _).rep _⟩
  generalize (List.replicate (1 + n).toNat bs).flatten = l1 at *
  generalize (List.replicate (1 + n').toNat (later bs t)).flatten = l2 at *
  refine i_cut (fun σ H' => ∃ l, σ = [some (.ref d.a), some (S bs), some (S l1), some (.int k), some (S l)] ∧ IsRound l ∧ Dr K d H0 H') ?_ ?_
  · walk_at "go"
    refine i_dec (fun e => ?_) (fun e => ⟨l2, rfl, r2, dr6⟩)
    walk_at "go"
    refine ⟨H0, d, l2, rfl, rfl, dr6, r2.2.2, r2.1, by have := r2.2.1; omega, fun l' H7 dr7 hr' h1' h2' => ?_⟩
    have := r2.2.1
    walk_at "go"
    exact ⟨_, rfl, ⟨by rw [List.length_take]; show 1 ≤ min 24 _; omega, by rw [List.length_take]; exact Nat.min_le_left _ _, hr'.take _⟩, dr7⟩
  · rintro σ H7 ⟨l, rfl, hl, dr7⟩
    refine i_cut (fun σ H' => ∃ l, σ = [some (.ref d.a), some (S bs), some (S l1), some (.int k), some (S l)] ∧ IsRound l ∧ Dr K d H0 H') ?_ ?_
    · walk_at "go"
      refine i_dec (fun e => ?_) (fun e => ⟨l, rfl, hl, dr7⟩)
      walk_at "go"
      refine ⟨H0, d, 24, rfl, rfl, dr7, by decide, by decide, fun l' H8 dr8 hr' h1' h2' => ?_⟩
      walk_at "go"
      exact ⟨l', rfl, ⟨h1', by omega, hr'⟩, dr8⟩
    · rintro σ H8 ⟨l', rfl, hl', dr8⟩
      walk_at "go"
      refine i_new (by show 2 ≤ 100000; omega) fun p np => ?_
      walk_at "go"
      exact q l1 l' p _ (dr8.free np) r1 hl' (dr8.new np)
end
end K07
namespace K07
open PySem PySem.Spec PyProof.Rows L2 Fg
local macro_rules | `(tactic| walk_at "sq") => `(tactic| first
  | assumption
  | exact .inl (.inl (by assumption))
  | exact .inl (.inl upd_same))
local macro_rules | `(tactic| walk_at "st") => `(tactic| first
  | assumption
  | exact .inl (.inl (by assumption))
  | exact .inl (.inl upd_same))
local macro_rules | `(tactic| walk_at "o") => `(tactic| first
  | omega
  | assumption
  | (simp only [List.length_append, List.length_take, List.length_drop, List.length_cons, List.length_nil, List.length_singleton, List.length_map, List.length_range, Int.toNat_natCast] ; omega))
local macro_rules | `(tactic| walk_at "s") => `(tactic| first
  | (with_reducible refine i_seq ?_)
  | (with_reducible refine i_asg ?_)
  | ((with_reducible refine' i_var ?h1 ?_); (case h1 => rfl))
  | (with_reducible refine i_c ?_)
  | ((with_reducible refine' i_gname' ?h1 ?_); (case h1 => (simp only [List.set_cons_zero, List.set_cons_succ]; rfl)))
  | (with_reducible refine i_op ?_)
  | (with_reducible refine i_ifS ?_)
  | (with_reducible refine i_for ?_)
  | (with_reducible refine i_test ?_)
  | (with_reducible refine i_B ?_)
  | (with_reducible refine i_exbl ?_)
  | (with_reducible refine i_exint ?_)
  | (with_reducible refine i_cb ?_)
  | (with_reducible refine i_nil ?_)
  | (with_reducible refine i_cons ?_)
  | (with_reducible refine i_ret ?_)
  | (with_reducible refine i_sl ?_)
  | (with_reducible refine i_nopart ?_)
  | (with_reducible refine i_part ?_)
  | (with_reducible refine i_add_int ?_)
  | (with_reducible refine i_sub ?_)
  | (with_reducible refine i_lt ?_)
  | ((with_reducible refine' i_mod ?h1 ?_); (case h1 => walk_at "o"))
  | ((with_reducible refine' i_fdiv ?h1 ?_); (case h1 => (refine cdiv_small ?_ ?_ <;> walk_at "o")))
  | ((with_reducible refine' i_sl_to ?h1 ?h2 ?_); (case h1 => walk_at "o"); (case h2 => walk_at "o"))
  | ((with_reducible refine' i_sl_from ?h1 ?h2 ?_); (case h1 => walk_at "o"); (case h2 => walk_at "o"))
  | ((with_reducible refine' i_add_str ?h1 ?_); (case h1 => walk_at "o"))
  | ((with_reducible refine' i_mul_int ?h1 ?_); (case h1 => first | (refine mul_small ?_ ?_ <;> walk_at "o") | (refine mul_smallR ?_ ?_ <;> walk_at "o")))
  | (with_reducible refine i_le ?_)
  | (with_reducible refine i_gt ?_)
  | (with_reducible refine i_ge ?_)
  | (with_reducible refine i_eq_int ?_)
  | (with_reducible refine i_eq_str ?_)
  | (with_reducible refine i_ne_int ?_)
  | (with_reducible refine i_ne_str ?_)
  | (with_reducible refine i_eq_bl ?_)
  | (with_reducible refine i_ne_bl ?_)
  | (with_reducible refine i_in_sg ?_)
  | (with_reducible refine i_notIn_sg ?_)
  | (with_reducible refine i_call ?_)
  | (with_reducible refine i_callS ?_)
  | (with_reducible refine i_sp1 ?_)
  | (with_reducible refine i_sp2 ?_)
  | (with_reducible refine i_sp3 ?_)
  | (with_reducible refine i_sp4 ?_)
  | (with_reducible refine i_sp1' ?_)
  | (with_reducible refine i_sp2' ?_)
  | (with_reducible refine i_sp3' ?_)
  | ((with_reducible refine' i_ix_lst ?h1 ?h2 ?_); (case h1 => walk_at "sq"); (case h2 => first | exact atI_nat rfl | rfl))
  | ((with_reducible refine' i_ix_tup ?h1 ?h2 ?_); (case h1 => walk_at "st"); (case h2 => first | exact atI_nat rfl | rfl))
  | (with_reducible refine i_gsub ?_)
  | (with_reducible refine i_raise ?_)
  | (with_reducible refine i_mkE ?_)
  | (with_reducible refine i_ex1 ?_)
  | (with_reducible refine i_and ?_)
  | (with_reducible refine i_or ?_)
  | (with_reducible refine i_not ?_)
  | (with_reducible refine i_tt ?_)
  | (with_reducible refine i_ff ?_)
  | (with_reducible refine i_nott ?_)
  | (with_reducible refine i_notf ?_)
  | (with_reducible refine i_andV ?_)
  | (with_reducible refine i_orV ?_)
  | (with_reducible refine i_notV ?_)
  | (with_reducible refine i_ifE ?_)
  | (with_reducible refine i_tup ?_)
  | (with_reducible refine i_lst ?_)
  | (with_reducible refine i_un ?_)
  | (with_reducible refine i_neg ?_)
  | (with_reducible refine i_chain ?_)
  | (with_reducible refine i_next ?_)
  | (with_reducible refine i_retN ?_)
  | (with_reducible refine i_drop ?_)
  | (with_reducible refine i_int_int ?_)
  | (with_reducible refine i_abs ?_)
  | (with_reducible refine i_m1c ?_)
  | (with_reducible refine i_is_non ?_)
  | (with_reducible refine i_is_int ?_)
  | (with_reducible refine i_is_str ?_)
  | (with_reducible refine i_is_ref ?_)
  | (with_reducible refine i_isn_non ?_)
  | (with_reducible refine i_isn_int ?_)
  | (with_reducible refine i_isn_str ?_)
  | (with_reducible refine i_isn_ref ?_)
  | (with_reducible refine i_len_str ?h1 ?_; (case h1 => walk_at "o"))
  | (with_reducible refine i_isi_int_int ?_) | (with_reducible refine i_isi_int_bool ?_) | (with_reducible refine i_isi_int_str ?_) | (with_reducible refine i_isi_int_tuple ?_) | (with_reducible refine i_isi_int_list ?_)
  | (with_reducible refine i_isi_bl_int ?_) | (with_reducible refine i_isi_bl_bool ?_) | (with_reducible refine i_isi_bl_str ?_) | (with_reducible refine i_isi_bl_tuple ?_) | (with_reducible refine i_isi_bl_list ?_)
  | (with_reducible refine i_isi_str_int ?_) | (with_reducible refine i_isi_str_bool ?_) | (with_reducible refine i_isi_str_str ?_) | (with_reducible refine i_isi_str_tuple ?_) | (with_reducible refine i_isi_str_list ?_)
  | (with_reducible refine i_isi_non_int ?_) | (with_reducible refine i_isi_non_bool ?_) | (with_reducible refine i_isi_non_str ?_) | (with_reducible refine i_isi_non_tuple ?_) | (with_reducible refine i_isi_non_list ?_))
local macro_rules | `(tactic| walk_at "go") => `(tactic| (repeat' (walk_at "s")))
/-! ### the promises ask no more of what follows than they tell -/
section
variable {C CB : Addr} {x y z : V} {H : Hp} {Q Q' : VK} {E E' : XK}
theorem Rz.imp {f : Str} {v : V} (h : Rz E H C f v) (e : ∀ c d H, E c d H → E' c d H) : Rz E' H C f v := fun d H' n s k => e _ _ _ (h d H' n s k)
theorem BadX.imp (h : BadX C H x E) (e : ∀ c d H, E c d H → E' c d H) : BadX C H x E' := by
  obtain ⟨k, h1, h2⟩ := h
  exact ⟨k, h1, Rz.imp h2 e⟩
theorem p_least_round.imp (h : p_least_round C x H Q E) (q : ∀ v H, Q v H → Q' v H) (e : ∀ c d H, E c d H → E' c d H) : p_least_round C x H Q' E' := by
  rcases h with ⟨l, a, b, k⟩ | h
  · exact .inl ⟨l, a, b, fun r H' h1 h2 => q _ _ (k r H' h1 h2)⟩
  · exact .inr (h.imp e)
theorem p_rhythm.imp (h : p_rhythm C x H Q E) (q : ∀ v H, Q v H → Q' v H) (e : ∀ c d H, E c d H → E' c d H) : p_rhythm C x H Q' E' := by
  rcases h with ⟨l, a, b, k⟩ | h
  · exact .inl ⟨l, a, b, fun r m H' h1 h2 h3 h4 => q _ _ (k r m H' h1 h2 h3 h4)⟩
  · exact .inr (h.imp e)
theorem p_turned.imp (h : p_turned C CB x y H Q E) (q : ∀ v H, Q v H → Q' v H) (e : ∀ c d H, E c d H → E' c d H) : p_turned C CB x y H Q' E' := by
  rcases h with ⟨l, a, b, ⟨n, c1, c2, k⟩ | ⟨c1, c2⟩⟩ | h
  · exact .inl ⟨l, a, b, .inl ⟨n, c1, c2, fun H' s => q _ _ (k H' s)⟩⟩
  · exact .inl ⟨l, a, b, .inr ⟨c1, Rz.imp c2 e⟩⟩
  · exact .inr (h.imp e)
theorem p_two.imp {R : List Nat → List Nat → Hp → VK → Prop} (hR : ∀ l1 l2, R l1 l2 H Q → R l1 l2 H Q') (h : p_two C R x y H Q E) (e : ∀ c d H, E c d H → E' c d H) : p_two C R x y H Q' E' := by
  rcases h with ⟨l, a, b, ⟨n, c1, c2, k⟩ | c1⟩ | h
  · exact .inl ⟨l, a, b, .inl ⟨n, c1, c2, hR _ _ k⟩⟩
  · exact .inl ⟨l, a, b, .inr (c1.imp e)⟩
  · exact .inr (h.imp e)
end
def p_L_call (C CB : Addr) : P3 := fun x y z H Q E => ∃ k : Int, x = .int k ∧ (k = 0 → p_least_round C y H Q E) ∧ (k = 1 → p_rhythm C y H Q E) ∧ (k = 2 → p_turned C CB y z H Q E) ∧ (k = 3 → p_two C r_alike y z H Q E) ∧
  (k ≠ 0 → k ≠ 1 → k ≠ 2 → k ≠ 3 → p_two C r_moments y z H Q E)
theorem p_L_call.imp {C CB : Addr} {x y z : V} {H : Hp} {Q Q' : VK} {E E' : XK} (h : p_L_call C CB x y z H Q E) (q : ∀ v H, Q v H → Q' v H) (e : ∀ c d H, E c d H → E' c d H) : p_L_call C CB x y z H Q' E' := by
  obtain ⟨k, rfl, h0, h1, h2, h3, h4⟩ := h
  refine ⟨k, rfl, fun a => (h0 a).imp q e, fun a => (h1 a).imp q e, fun a => (h2 a).imp q e, fun a => (h3 a).imp (fun l1 l2 k r1 r2 H' a b c => q _ _ (k r1 r2 H' a b c)) e, fun a b c d => (h4 a b c d).imp (fun l1 l2 k r1 r2 Dl H' a b c d e => q _ _ (k r1 r2 Dl H' a b c d e)) e⟩
abbrev TOLD : List Nat := [116, 111, 108, 100]
abbrev ROUND : List Nat := [114, 111, 117, 110, 100]
abbrev BEATS : List Nat := [98, 101, 97, 116, 115]
def toldQ (Q : VK) : VK := fun v H1 => ∀ p, H1 p = none → Q (.ref p) (upd H1 p (.tup [S TOLD, v]))
def toldE (C CB : Addr) (Q : VK) : XK := fun cls d H1 => (cls = .ref C ∧ ∃ dd v, d = some dd ∧ H1 dd = some (.xd [("number", v)]) ∧ ∀ H2 p, Same H1 H2 → H2 p = none → Q (.ref p) (upd H2 p (.tup [S ROUND, v]))) ∨
  (cls = .ref CB ∧ ∃ dd v, d = some dd ∧ H1 dd = some (.xd [("beats", v)]) ∧ ∀ H2 p, Same H1 H2 → H2 p = none → Q (.ref p) (upd H2 p (.tup [S BEATS, v])))
def p_L_told (C CB : Addr) : P3 := fun x y z H Q _ => p_L_call C CB x y z H (toldQ Q) (toldE C CB Q)
section
variable {P : Program} {w : World} {K : PySem.W.Frag} {mg : Str → Option Value} {base : Heap} {C_GlimError C_BadRound C_BadBeats : Addr}
theorem ok_L_call (T : Txt K mg C_GlimError C_BadRound C_BadBeats) : OK P w K mg base (L2.CX P w) 5 "_law_call" ["_law_kind", "_law_first", "_law_second"] (sp3  (p_L_call C_BadRound C_BadBeats)) := by
  refine OK.mkX (k := 4) T.d_L_call sc_L_call len3 fun f cdv A outer s H vs Q E hr h => ?_
  obtain ⟨x, y, z, rfl, h⟩ := h
  refine ⟨_, (pss_cons (ps_if (pt_cmpR (opEq K hr.units) (pv 0) pe_int (nomark _)) (pss_one (ps_ret (pe_f (ok_least_round (K := K) T) (hr.mono (by decide)) (passes_call (takes_of rfl rfl rfl rfl) (fun _ _ _ _ h => h)) (pa_cons (pv 1) pa_nil)))) pss_nil) (pss_cons (ps_if (pt_cmpR (opEq K hr.units) (pv 0) pe_int (nomark _)) (pss_one (ps_ret (pe_f (ok_rhythm (K := K) T) (hr.mono (by decide)) (passes_call (takes_of rfl rfl rfl rfl) (fun _ _ _ _ h => h)) (pa_cons (pv 1) pa_nil)))) pss_nil) (pss_cons (ps_if (pt_cmpR (opEq K hr.units) (pv 0) pe_int (nomark _)) (pss_one (ps_ret (pe_f (ok_turned (K := K) T) (hr.mono (by decide)) (passes_call (takes_of rfl rfl rfl rfl) (fun _ _ _ _ h => h)) (pa_cons (pv 1) (pa_cons (pv 2) pa_nil))))) pss_nil) (pss_cons (ps_if (pt_cmpR (opEq K hr.units) (pv 0) pe_int (nomark _)) (pss_one (ps_ret (pe_f (ok_alike (K := K) T) (hr.mono (by decide)) (passes_call (takes_of rfl rfl rfl rfl) (fun _ _ _ _ h => h)) (pa_cons (pv 1) (pa_cons (pv 2) pa_nil))))) pss_nil) (pss_one (ps_ret (pe_f (ok_moments (K := K) T) (hr.mono (by decide)) (passes_call (takes_of rfl rfl rfl rfl) (fun _ _ _ _ h => h)) (pa_cons (pv 1) (pa_cons (pv 2) pa_nil))))))))), ?_⟩
  show (_ : TS) { nx := fun _ H' => Q .non H', rt := Q } [some x, some y, some z] H
  obtain ⟨k, rfl, h0, h1, h2, h3, h4⟩ := h
  walk_at "go"
  refine i_dec (fun e => ?_) (fun e0 => ?_)
  · walk_at "go"
    exact h0 e
  walk_at "go"
  refine i_dec (fun e => ?_) (fun e1 => ?_)
  · walk_at "go"
    exact h1 e
  walk_at "go"
  refine i_dec (fun e => ?_) (fun e2 => ?_)
  · walk_at "go"
    exact h2 e
  walk_at "go"
  refine i_dec (fun e => ?_) (fun e3 => ?_)
  · walk_at "go"
    exact h3 e
  walk_at "go"
  exact h4 e0 e1 e2 e3
theorem ok_L_told (T : Txt K mg C_GlimError C_BadRound C_BadBeats) : OK P w K mg base CX0 6 "_law_told" ["_law_kind", "_law_first", "_law_second"] (sp3  (p_L_told C_BadRound C_BadBeats)) := by
  refine OK.mk (k := 5) T.d_L_told sc_L_told len3 fun f cdv A outer s H vs Q E hr h => ?_
  obtain ⟨x, y, z, rfl, h⟩ := h
  refine ⟨_, (pss_cons (ps_try_as (i := 3) rfl rfl sc_L_told.nd rfl rfl ⟨rfl, by decide, Or.inl T.c_GlimError⟩ takes0 (fun W pn xe tk _ => (pss_one (ps_ret (pe_tup (pa_cons (pe_S [116, 111, 108, 100]) (pa_cons (pe_fS (ok_L_call (K := K) T) (hr.mono (by decide)) (fun σ => passAt tk σ) (pa_cons (pv 0) (pa_cons (pv 1) (pa_cons (pv 2) pa_nil)))) pa_nil)))))) (fun a oe cls d pn hz hf => (pss_cons (ps_set (i := 4) sc_L_told.nd rfl (Or.inl rfl) (pe_lst (pa_cons (pe_callB (cIsX K hz hf) (by rfl) T.b_isinstance (by decide +kernel) (pa_cons (pv 3) (pa_cons (pe_gR _ T.c_BadRound) pa_nil))) (pa_cons (pe_callB (cIsX K hz hf) (by rfl) T.b_isinstance (by decide +kernel) (pa_cons (pv 3) (pa_cons (pe_gR _ T.c_BadBeats) pa_nil))) (pa_cons (pe_callB (cIsX K hz hf) (by rfl) T.b_isinstance (by decide +kernel) (pa_cons (pv 3) (pa_cons (pe_bltn (v := .ty "ValueError") (by rfl) T.b_ValueError (by decide +kernel) rfl) pa_nil))) pa_nil))))) (pss_cons (ps_if (pt_cmpR (opEq K hr.units) (pv 4) (pe_lst (pa_cons pe_bl (pa_cons pe_bl (pa_cons pe_bl pa_nil)))) (nomark _)) (pss_one (ps_ret (pe_tup (pa_cons (pe_S [114, 111, 117, 110, 100]) (pa_cons (pe_xf T.e_BadRound.xf T.nf_BadRound hz hf (pv 3)) pa_nil))))) pss_nil) (pss_one (ps_if (pt_cmpR (opEq K hr.units) (pv 4) (pe_lst (pa_cons pe_bl (pa_cons pe_bl (pa_cons pe_bl pa_nil)))) (nomark _)) (pss_one (ps_ret (pe_tup (pa_cons (pe_S [98, 101, 97, 116, 115]) (pa_cons (pe_xf T.e_BadBeats.xf T.nf_BadBeats hz hf (pv 3)) pa_nil))))) pss_nil)))))) (pss_one (ps_ret (pe_tup (pa_cons (pe_S [110, 111, 110, 101]) (pa_cons pe_non pa_nil)))))), ?_⟩
  show (_ : TS) { nx := fun _ H' => Q .non H', rt := Q } [some x, some y, some z, none, none] H
  walk_at "go"
  refine p_L_call.imp h (fun v H1 k => ?_) (fun c dd H1 k => ?_)
  · walk_at "go"
    refine i_new (by show 2 ≤ 100000; omega) fun p np => ?_
    walk_at "go"
    exact k p np
  · rcases k with ⟨rfl, d, v, rfl, hd, k⟩ | ⟨rfl, d, v, rfl, hd, k⟩
    · refine i_caught T.m_BadRound_GlimError fun a na => ?_
      show (_ : TS) _ [some x, some y, some z, some (.ref a), none] H1
      walk_at "go"
      refine i_isX hd T.e_BadRound (.own _) T.k_BadRound_BadRound ?_
      walk_at "go"
      refine i_isX hd T.e_BadRound (.own _) T.k_BadRound_BadBeats ?_
      walk_at "go"
      refine i_isX hd T.e_BadRound (.ty _) T.k_BadRound_ValueError ?_
      walk_at "go"
      refine i_new (by show 3 ≤ 100000; omega) fun p np => ?_
      walk_at "go"
      refine i_new (by show 3 ≤ 100000; omega) fun p2 np2 => ?_
      have npp : p ≠ p2 := fun e => by rw [e, upd_same] at np2; cases np2
      refine i_eq_data (.lst (.inl (.inl ((upd_ne npp).trans upd_same))) (dp_bls [true, false, true])) (.lst (.inl (.inl upd_same)) (dp_bls [true, false, true])) (by decide) (by decide) (r := true) (by decide) ?_
      walk_at "go"
      have np3 : H1 p2 = none := by rw [upd_ne (Ne.symm npp)] at np2; exact np2
      have s2 : Same H1 (upd (upd H1 p (.lst ([true, false, true].map V.bl))) p2 (.lst ([true, false, true].map V.bl))) := Same.upd (same_upd np) np3
      refine i_xf rfl (s2 _ _ hd) ?_
      walk_at "go"
      refine i_new (by show 2 ≤ 100000; omega) fun p3 np4 => ?_
      exact k _ p3 s2 np4
    · refine i_caught T.m_BadBeats_GlimError fun a na => ?_
      show (_ : TS) _ [some x, some y, some z, some (.ref a), none] H1
      walk_at "go"
      refine i_isX hd T.e_BadBeats (.own _) T.k_BadBeats_BadRound ?_
      walk_at "go"
      refine i_isX hd T.e_BadBeats (.own _) T.k_BadBeats_BadBeats ?_
      walk_at "go"
      refine i_isX hd T.e_BadBeats (.ty _) T.k_BadBeats_ValueError ?_
      walk_at "go"
      refine i_new (by show 3 ≤ 100000; omega) fun p np => ?_
      walk_at "go"
      refine i_new (by show 3 ≤ 100000; omega) fun p2 np2 => ?_
      have npp : p ≠ p2 := fun e => by rw [e, upd_same] at np2; cases np2
      refine i_eq_data (.lst (.inl (.inl ((upd_ne npp).trans upd_same))) (dp_bls [false, true, true])) (.lst (.inl (.inl upd_same)) (dp_bls [true, false, true])) (by decide) (by decide) (r := false) (by decide) ?_
      walk_at "go"
      have np3 : H1 p2 = none := by rw [upd_ne (Ne.symm npp)] at np2; exact np2
      have s2 : Same H1 (upd (upd H1 p (.lst ([false, true, true].map V.bl))) p2 (.lst ([true, false, true].map V.bl))) := Same.upd (same_upd np) np3
      refine i_new (by show 3 ≤ 100000; omega) fun p3 np4 => ?_
      have ne3 : p ≠ p3 := fun e => by rw [← e, upd_ne npp, upd_same] at np4; cases np4
      have np5 : H1 p3 = none := s2.free np4
      refine i_eq_data (.lst (.inl (.inl ((upd_ne ne3).trans ((upd_ne npp).trans upd_same)))) (dp_bls [false, true, true])) (.lst (.inl (.inl upd_same)) (dp_bls [false, true, true])) (by decide) (by decide) (r := true) (by decide) ?_
      walk_at "go"
      have s3 := s2.trans (same_upd (o := .lst ([false, true, true].map V.bl)) np4)
      refine i_xf rfl (s3 _ _ hd) ?_
      walk_at "go"
      refine i_new (by show 2 ≤ 100000; omega) fun p4 np6 => ?_
      exact k _ p4 s3 np6
end
end K07
namespace K07
open PySem PySem.Spec PyProof.Rows L2 Fg
/-! ### rounds for ever, in plain Lean -/
def sq (l : List Nat) (i : Nat) : Option Nat := l[i % l.length]?
def Per (f : Nat → Option Nat) (m : Nat) : Prop := ∀ i, f (i + m) = f i
theorem Per.mul {f : Nat → Option Nat} {m : Nat} (h : Per f m) : ∀ q i, f (i + m * q) = f i
  | 0, i => by rw [Nat.mul_zero, Nat.add_zero]
  | q + 1, i => by
    have e : i + m * (q + 1) = i + m * q + m := by rw [Nat.mul_succ]; omega
    rw [e, h, Per.mul h q i]
theorem Per.mod {f : Nat → Option Nat} {m n : Nat} (hm : Per f m) (hn : Per f n) : Per f (n % m) := fun i => by
  have e : i + n = i + n % m + m * (n / m) := by have := Nat.mod_add_div n m; omega
  have h1 := hn i
  rw [e, hm.mul] at h1
  exact h1
theorem Per.gcd {f : Nat → Option Nat} : ∀ (m n : Nat), Per f m → Per f n → Per f (Nat.gcd m n) := by
  intro m n
  induction m, n using Nat.gcd.induction with
  | H0 n => intro _ h; rw [Nat.gcd_zero_left]; exact h
  | H1 m n hm ih =>
    intro h1 h2
    rw [Nat.gcd_rec]
    exact ih (h1.mod h2) h1
theorem sq_per (l : List Nat) : Per (sq l) l.length := fun i => by
  unfold sq
  rw [Nat.add_mod_right]
theorem sq_lt {l : List Nat} {i : Nat} (h : i < l.length) : sq l i = l[i]? := by
  unfold sq
  rw [Nat.mod_eq_of_lt h]
theorem sf_iff {l m : List Nat} (hl : 1 ≤ l.length) (hm : 1 ≤ m.length) : sf l m = true ↔ ∀ i, sq l i = sq m i := by
  unfold sf
  rw [List.all_eq_true]
  constructor
  · intro h i
    have h0 : 0 < l.length * m.length := Nat.mul_pos hl hm
    have := h (i % (l.length * m.length)) (List.mem_range.mpr (by have := Nat.mod_lt i h0; omega))
    rw [beq_iff_eq, Nat.mod_mul_right_mod, Nat.mod_mul_left_mod] at this
    exact this
  · intro h i _
    rw [beq_iff_eq]
    exact h i
theorem take_sq {l : List Nat} {m : Nat} (h1 : 1 ≤ m) (h2 : m ≤ l.length) : (∀ i, sq (l.take m) i = sq l i) ↔ Per (sq l) m := by
  have lt : (l.take m).length = m := by rw [List.length_take]; omega
  constructor
  · intro h i
    rw [← h, ← h]
    unfold sq
    rw [lt, Nat.add_mod_right]
  · intro h i
    have e : i = i % m + m * (i / m) := (Nat.mod_add_div i m).symm
    have b : i % m < m := Nat.mod_lt _ h1
    have h3 : sq l i = sq l (i % m) := by
      conv => lhs; rw [e]
      exact h.mul _ _
    rw [h3, sq_lt (l := l) (i := i % m) (by omega)]
    unfold sq
    rw [lt, List.getElem?_take_of_lt b]
theorem rpt_get : ∀ (k : Nat) (t : List Nat) (j : Nat), j < k * t.length → (rpt k t)[j]? = t[j % t.length]?
  | 0, t, j, h => by rw [Nat.zero_mul] at h; omega
  | k + 1, t, j, h => by
    have e : rpt (k + 1) t = t ++ rpt k t := by unfold rpt; rw [List.replicate_succ, List.flatten_cons]
    rw [e]
    by_cases hj : j < t.length
    · rw [List.getElem?_append_left hj, Nat.mod_eq_of_lt hj]
    · rw [List.getElem?_append_right (by omega), rpt_get k t (j - t.length) (by rw [Nat.succ_mul] at h; omega)]
      rw [← Nat.mod_eq_sub_mod (by omega)]
theorem rpt_len (k : Nat) (t : List Nat) : (rpt k t).length = k * t.length := rep_len k t
theorem good_iff {l : List Nat} {m : Nat} (h1 : 1 ≤ m) (h2 : m ≤ l.length) : good l m ↔ m ∣ l.length ∧ Per (sq l) m := by
  have lt : (l.take m).length = m := by rw [List.length_take]; omega
  unfold good
  rw [← Nat.dvd_iff_mod_eq_zero]
  constructor
  · rintro ⟨d, e⟩
    refine ⟨d, (take_sq h1 h2).mp fun i => ?_⟩
    have hk : l.length / m * m = l.length := Nat.div_mul_cancel d
    have b : i % l.length < l.length := Nat.mod_lt _ (by omega)
    have h3 := rpt_get (l.length / m) (l.take m) (i % l.length) (by rw [lt, hk]; exact b)
    rw [e, lt, Nat.mod_mod_of_dvd _ d] at h3
    unfold sq
    rw [lt, h3]
  · rintro ⟨d, p⟩
    refine ⟨d, ?_⟩
    have hk : l.length / m * m = l.length := Nat.div_mul_cancel d
    have q := (take_sq h1 h2).mpr p
    refine List.ext_getElem? fun j => ?_
    by_cases hj : j < l.length
    · rw [rpt_get _ _ _ (by rw [lt, hk]; exact hj), ← sq_lt hj, ← q j]
      rfl
    · rw [List.getElem?_eq_none (by rw [rpt_len, lt, hk]; omega), List.getElem?_eq_none (by omega)]
/-- the least period of what a round shows -/
def LP (l : List Nat) (p : Nat) : Prop := 1 ≤ p ∧ p ≤ l.length ∧ Per (sq l) p ∧ ∀ k, 1 ≤ k → k < p → ¬ Per (sq l) k
theorem LP.dvd {l : List Nat} {p : Nat} (h : LP l p) : p ∣ l.length := by
  obtain ⟨h1, h2, h3, h4⟩ := h
  have g := Per.gcd p l.length h3 (sq_per l)
  have g1 : Nat.gcd p l.length ∣ p := Nat.gcd_dvd_left _ _
  have g2 : 1 ≤ Nat.gcd p l.length := Nat.gcd_pos_of_pos_left _ h1
  have g3 := Nat.le_of_dvd h1 g1
  by_cases e : Nat.gcd p l.length < p
  · exact absurd g (h4 _ g2 e)
  · have : Nat.gcd p l.length = p := by omega
    rw [← this]
    exact Nat.gcd_dvd_right _ _
theorem LP.le {l : List Nat} {p m : Nat} (h : LP l p) (hm : 1 ≤ m) (g : Per (sq l) m) : p ≤ m := by
  by_cases e : m < p
  · exact absurd g (h.2.2.2 m hm e)
  · omega
theorem short_lp {l r : List Nat} (h : IsShort l r) : ∃ p, LP l p ∧ r = l.take p := by
  obtain ⟨m, h1, h2, rfl, h3, h4⟩ := h
  have pm : Per (sq l) m := by
    rcases h3 with h3 | rfl
    · exact ((good_iff h1 h2).mp h3).2
    · exact sq_per l
  refine ⟨m, ⟨h1, h2, pm, fun k k1 k2 pk => ?_⟩, rfl⟩
  have g := Per.gcd k l.length pk (sq_per l)
  have g1 := Nat.gcd_dvd_left k l.length
  have g2 : 1 ≤ Nat.gcd k l.length := Nat.gcd_pos_of_pos_left _ k1
  have g3 := Nat.le_of_dvd k1 g1
  exact h4 _ g2 (by omega) ((good_iff g2 (by omega)).mpr ⟨Nat.gcd_dvd_right _ _, g⟩)
theorem least_lp {l r : List Nat} (hl : 1 ≤ l.length) (h : IsLeast l r) : ∃ p, LP l p ∧ r = l.take p := by
  obtain ⟨m, h1, h2, rfl, h3, h4⟩ := h
  have lt : ∀ k, 1 ≤ k → k ≤ l.length → 1 ≤ (l.take k).length := fun k a b => by rw [List.length_take]; omega
  refine ⟨m, ⟨h1, h2, (take_sq h1 h2).mp ((sf_iff (lt m h1 h2) hl).mp h3), fun k k1 k2 pk => ?_⟩, rfl⟩
  have := (sf_iff (lt k k1 (by omega)) hl).mpr ((take_sq k1 (by omega)).mpr pk)
  rw [h4 k k1 k2] at this
  cases this
theorem LP.one {l : List Nat} {p q : Nat} (h : LP l p) (g : LP l q) : p = q := Nat.le_antisymm (h.le g.1 g.2.2.1) (g.le h.1 h.2.2.1)
/-- the two shortest are one -/
theorem short_least {l r r' : List Nat} (h1 : 1 ≤ l.length) (h : IsShort l r) (h' : IsLeast l r') : r = r' := by
  obtain ⟨p, a, rfl⟩ := short_lp h
  obtain ⟨q, b, rfl⟩ := least_lp h1 h'
  rw [a.one b]
theorem lp_sq {l : List Nat} {p : Nat} (h : LP l p) : ∀ i, sq (l.take p) i = sq l i := (take_sq h.1 h.2.1).mpr h.2.2.1
theorem lp_eq {l m : List Nat} {p q : Nat} (h : LP l p) (g : LP m q) (hp : ∀ k, Per (sq l) k ↔ Per (sq m) k) : p = q :=
  Nat.le_antisymm (h.le g.1 ((hp q).mpr g.2.2.1)) (g.le h.1 ((hp p).mp h.2.2.1))
theorem eq_of_sq {l m : List Nat} (hl : l.length = m.length) (h : ∀ i, sq l i = sq m i) : l = m := by
  refine List.ext_getElem? fun j => ?_
  by_cases hj : j < l.length
  · rw [← sq_lt hj, ← sq_lt (by omega), h]
  · rw [List.getElem?_eq_none (by omega), List.getElem?_eq_none (by omega)]
/-- alike -/
theorem alike_eq {l m r1 r2 : List Nat} (hl : 1 ≤ l.length) (hm : 1 ≤ m.length) (h1 : IsShort l r1) (h2 : IsShort m r2) : decide (r1 = r2) = sf l m := by
  obtain ⟨p, a, rfl⟩ := short_lp h1
  obtain ⟨q, b, rfl⟩ := short_lp h2
  rw [Bool.eq_iff_iff, decide_eq_true_iff, sf_iff hl hm]
  constructor
  · intro e i
    rw [← lp_sq a, ← lp_sq b, e]
  · intro e
    have hf : sq l = sq m := funext e
    have : p = q := lp_eq a b fun k => by rw [hf]
    subst this
    exact eq_of_sq (by rw [List.length_take, List.length_take]; have := a.2.1; have := b.2.1; omega) fun i => by rw [lp_sq a, lp_sq b, e]
theorem turn_len (l : List Nat) (k : Nat) (h : k ≤ l.length) : (turn l k).length = l.length := by
  unfold turn
  rw [List.length_append, List.length_drop, List.length_take]
  omega
theorem turn_get {l : List Nat} {k i : Nat} (hk : k < l.length) (hi : i < l.length) : (turn l k)[i]? = l[(i + k) % l.length]? := by
  unfold turn
  by_cases h : i < l.length - k
  · rw [List.getElem?_append_left (by rw [List.length_drop]; exact h), List.getElem?_drop, Nat.mod_eq_of_lt (by omega), Nat.add_comm]
  · rw [List.getElem?_append_right (by rw [List.length_drop]; omega), List.length_drop, List.getElem?_take_of_lt (by omega)]
    have e : (i + k) % l.length = i + k - l.length := by
      rw [Nat.mod_eq_sub_mod (by omega), Nat.mod_eq_of_lt (by omega)]
    rw [e]
    congr 1
    omega
theorem turn_later {l : List Nat} (hl : 1 ≤ l.length) (n : Int) : turn l (n % (l.length : Int)).toNat = later l n := by
  have a := Int.emod_nonneg n (show (l.length : Int) ≠ 0 by omega)
  have b := Int.emod_lt_of_pos n (show (0 : Int) < l.length by omega)
  have hk : (n % (l.length : Int)).toNat < l.length := by omega
  refine List.ext_getElem? fun i => ?_
  by_cases hi : i < l.length
  · rw [turn_get hk hi]
    unfold later
    rw [List.getElem?_map, List.getElem?_range hi, Option.map_some]
    have e : (((i : Int) + n) % (l.length : Int)).toNat = (i + (n % (l.length : Int)).toNat) % l.length := by
      have h1 : ((i : Int) + n) % (l.length : Int) = ((i : Int) + n % (l.length : Int)) % (l.length : Int) := (Int.add_emod_emod _ _ _).symm
      have h2 : ((i : Int) + n % (l.length : Int)) = ((i + (n % (l.length : Int)).toNat : Nat) : Int) := by omega
      rw [h1, h2, ← Int.natCast_emod, Int.toNat_natCast]
    rw [e, List.getD_eq_getElem?_getD, List.getElem?_eq_getElem (Nat.mod_lt _ (by omega))]
    rfl
  · rw [List.getElem?_eq_none (by rw [turn_len _ _ (by omega)]; omega), List.getElem?_eq_none (by rw [later_len]; omega)]
theorem later_turn {l : List Nat} {k : Nat} (hk : k < l.length) : later l (k : Int) = turn l k := by
  rw [← turn_later (by omega), ← Int.natCast_emod, Int.toNat_natCast, Nat.mod_eq_of_lt hk]
theorem turns_laters (r : List Nat) : turns r = laters r := by
  unfold turns laters
  refine List.map_congr_left fun k hk => ?_
  rw [later_turn (List.mem_range.mp hk)]
theorem sq_turn {l : List Nat} {k : Nat} (hk : k < l.length) (i : Nat) : sq (turn l k) i = sq l (i + k) := by
  unfold sq
  rw [turn_len _ _ (by omega), turn_get hk (Nat.mod_lt _ (by omega)), Nat.mod_add_mod]
/-- moments -/
theorem moments_eq {l1 l2 r1 r2 : List Nat} (h1 : 1 ≤ l1.length) (h2 : 1 ≤ l2.length) (sa : IsShort l1 r1) (sb : IsShort l2 r2) {k : Nat} (hk : k < r2.length) : decide (turn r2 k = r1) = sf (later l2 (k : Int)) l1 := by
  obtain ⟨p, a, rfl⟩ := short_lp sa
  obtain ⟨q, b, rfl⟩ := short_lp sb
  have lq : (l2.take q).length = q := by rw [List.length_take]; have := b.2.1; omega
  have lp : (l1.take p).length = p := by rw [List.length_take]; have := a.2.1; omega
  have hk2 : k < l2.length := by have := b.2.1; omega
  have e1 : ∀ i, sq (turn (l2.take q) k) i = sq l2 (i + k) := fun i => by rw [sq_turn hk, lp_sq b]
  have e2 : ∀ i, sq (later l2 (k : Int)) i = sq l2 (i + k) := fun i => by rw [later_turn hk2, sq_turn hk2]
  rw [Bool.eq_iff_iff, decide_eq_true_iff, sf_iff (by rw [later_len]; exact h2) h1]
  constructor
  · intro e i
    rw [e2, ← e1, e, lp_sq a]
  · intro e
    have e3 : ∀ i, sq l1 i = sq l2 (i + k) := fun i => by rw [← e, e2]
    have hp : ∀ m, Per (sq l1) m ↔ Per (sq l2) m := fun m => by
      constructor
      · intro g i
        have big : i + l2.length * k = (i + l2.length * k - k) + k := by
          have : k ≤ l2.length * k := Nat.le_mul_of_pos_left _ (by omega)
          omega
        have s1 := (sq_per l2).mul k (i + m)
        have s2 := (sq_per l2).mul k i
        rw [← s1, ← s2]
        have e4 : i + m + l2.length * k = (i + l2.length * k - k) + m + k := by omega
        rw [e4, big, Nat.add_sub_cancel, ← e3, ← e3]
        have : i + l2.length * k - k + k - k = i + l2.length * k - k := by omega
        exact g _
      · intro g i
        rw [e3, e3, show i + m + k = i + k + m by omega, g]
    have : p = q := lp_eq a b hp
    subst this
    exact eq_of_sq (by rw [turn_len _ _ (by omega)]; omega) fun i => by rw [e1, lp_sq a, e3]
theorem filter_eq {n : Nat} {f g : Nat → Bool} (h : ∀ k < n, f k = g k) : (List.range n).filter f = (List.range n).filter g :=
  List.filter_congr fun k hk => h k (List.mem_range.mp hk)
theorem least_one {xs : List (List Nat)} {m m' : List Nat} (h : m ∈ xs) (h1 : ∀ y ∈ xs, ¬ y < m) (h' : m' ∈ xs) (h2 : ∀ y ∈ xs, ¬ y < m') : m = m' := by
  have a := h1 m' h'
  have b := h2 m h
  rw [List.not_lt] at a b
  exact List.le_antisymm a b
end K07
namespace K07
open PySem PySem.Spec PyProof.Rows L2 Fg
local macro_rules | `(tactic| walk_at "sq") => `(tactic| first
  | assumption
  | exact .inl (.inl (by assumption))
  | exact .inl (.inl upd_same))
local macro_rules | `(tactic| walk_at "st") => `(tactic| first
  | assumption
  | exact .inl (.inl (by assumption))
  | exact .inl (.inl upd_same))
local macro_rules | `(tactic| walk_at "o") => `(tactic| first
  | omega
  | assumption
  | (simp only [List.length_append, List.length_take, List.length_drop, List.length_cons, List.length_nil, List.length_singleton, List.length_map, List.length_range, Int.toNat_natCast] ; omega))
local macro_rules | `(tactic| walk_at "s") => `(tactic| first
  | (with_reducible refine i_seq ?_)
  | (with_reducible refine i_asg ?_)
  | ((with_reducible refine' i_var ?h1 ?_); (case h1 => rfl))
  | (with_reducible refine i_c ?_)
  | ((with_reducible refine' i_gname' ?h1 ?_); (case h1 => (simp only [List.set_cons_zero, List.set_cons_succ]; rfl)))
  | (with_reducible refine i_op ?_)
  | (with_reducible refine i_ifS ?_)
  | (with_reducible refine i_for ?_)
  | (with_reducible refine i_test ?_)
  | (with_reducible refine i_B ?_)
  | (with_reducible refine i_exbl ?_)
  | (with_reducible refine i_exint ?_)
  | (with_reducible refine i_cb ?_)
  | (with_reducible refine i_nil ?_)
  | (with_reducible refine i_cons ?_)
  | (with_reducible refine i_ret ?_)
  | (with_reducible refine i_sl ?_)
  | (with_reducible refine i_nopart ?_)
  | (with_reducible refine i_part ?_)
  | (with_reducible refine i_add_int ?_)
  | (with_reducible refine i_sub ?_)
  | (with_reducible refine i_lt ?_)
  | ((with_reducible refine' i_mod ?h1 ?_); (case h1 => walk_at "o"))
  | ((with_reducible refine' i_fdiv ?h1 ?_); (case h1 => (refine cdiv_small ?_ ?_ <;> walk_at "o")))
  | ((with_reducible refine' i_sl_to ?h1 ?h2 ?_); (case h1 => walk_at "o"); (case h2 => walk_at "o"))
  | ((with_reducible refine' i_sl_from ?h1 ?h2 ?_); (case h1 => walk_at "o"); (case h2 => walk_at "o"))
  | ((with_reducible refine' i_add_str ?h1 ?_); (case h1 => walk_at "o"))
  | ((with_reducible refine' i_mul_int ?h1 ?_); (case h1 => first | (refine mul_small ?_ ?_ <;> walk_at "o") | (refine mul_smallR ?_ ?_ <;> walk_at "o")))
  | (with_reducible refine i_le ?_)
  | (with_reducible refine i_gt ?_)
  | (with_reducible refine i_ge ?_)
  | (with_reducible refine i_eq_int ?_)
  | (with_reducible refine i_eq_str ?_)
  | (with_reducible refine i_ne_int ?_)
  | (with_reducible refine i_ne_str ?_)
  | (with_reducible refine i_eq_bl ?_)
  | (with_reducible refine i_ne_bl ?_)
  | (with_reducible refine i_in_sg ?_)
  | (with_reducible refine i_notIn_sg ?_)
  | (with_reducible refine i_call ?_)
  | (with_reducible refine i_callS ?_)
  | (with_reducible refine i_sp1 ?_)
  | (with_reducible refine i_sp2 ?_)
  | (with_reducible refine i_sp3 ?_)
  | (with_reducible refine i_sp4 ?_)
  | (with_reducible refine i_sp1' ?_)
  | (with_reducible refine i_sp2' ?_)
  | (with_reducible refine i_sp3' ?_)
  | ((with_reducible refine' i_ix_lst ?h1 ?h2 ?_); (case h1 => walk_at "sq"); (case h2 => first | exact atI_nat rfl | rfl))
  | ((with_reducible refine' i_ix_tup ?h1 ?h2 ?_); (case h1 => walk_at "st"); (case h2 => first | exact atI_nat rfl | rfl))
  | (with_reducible refine i_gsub ?_)
  | (with_reducible refine i_raise ?_)
  | (with_reducible refine i_mkE ?_)
  | (with_reducible refine i_ex1 ?_)
  | (with_reducible refine i_and ?_)
  | (with_reducible refine i_or ?_)
  | (with_reducible refine i_not ?_)
  | (with_reducible refine i_tt ?_)
  | (with_reducible refine i_ff ?_)
  | (with_reducible refine i_nott ?_)
  | (with_reducible refine i_notf ?_)
  | (with_reducible refine i_andV ?_)
  | (with_reducible refine i_orV ?_)
  | (with_reducible refine i_notV ?_)
  | (with_reducible refine i_ifE ?_)
  | (with_reducible refine i_tup ?_)
  | (with_reducible refine i_lst ?_)
  | (with_reducible refine i_un ?_)
  | (with_reducible refine i_neg ?_)
  | (with_reducible refine i_chain ?_)
  | (with_reducible refine i_next ?_)
  | (with_reducible refine i_retN ?_)
  | (with_reducible refine i_drop ?_)
  | (with_reducible refine i_int_int ?_)
  | (with_reducible refine i_abs ?_)
  | (with_reducible refine i_m1c ?_)
  | (with_reducible refine i_is_non ?_)
  | (with_reducible refine i_is_int ?_)
  | (with_reducible refine i_is_str ?_)
  | (with_reducible refine i_is_ref ?_)
  | (with_reducible refine i_isn_non ?_)
  | (with_reducible refine i_isn_int ?_)
  | (with_reducible refine i_isn_str ?_)
  | (with_reducible refine i_isn_ref ?_)
  | (with_reducible refine i_len_str ?h1 ?_; (case h1 => walk_at "o"))
  | (with_reducible refine i_isi_int_int ?_) | (with_reducible refine i_isi_int_bool ?_) | (with_reducible refine i_isi_int_str ?_) | (with_reducible refine i_isi_int_tuple ?_) | (with_reducible refine i_isi_int_list ?_)
  | (with_reducible refine i_isi_bl_int ?_) | (with_reducible refine i_isi_bl_bool ?_) | (with_reducible refine i_isi_bl_str ?_) | (with_reducible refine i_isi_bl_tuple ?_) | (with_reducible refine i_isi_bl_list ?_)
  | (with_reducible refine i_isi_str_int ?_) | (with_reducible refine i_isi_str_bool ?_) | (with_reducible refine i_isi_str_str ?_) | (with_reducible refine i_isi_str_tuple ?_) | (with_reducible refine i_isi_str_list ?_)
  | (with_reducible refine i_isi_non_int ?_) | (with_reducible refine i_isi_non_bool ?_) | (with_reducible refine i_isi_non_str ?_) | (with_reducible refine i_isi_non_tuple ?_) | (with_reducible refine i_isi_non_list ?_))
local macro_rules | `(tactic| walk_at "go") => `(tactic| (repeat' (walk_at "s")))
theorem depth_ints : ∀ ns : List Int, PyData.depthAll (ns.map PyData.int) ≤ 1
  | [] => by simp [PyData.depthAll]
  | n :: r => by
    have := depth_ints r
    simp only [List.map_cons, PyData.depthAll, PyData.depth]
    omega
theorem can_ints : ∀ ns : List Int, PyData.canLayAll0 (ns.map PyData.int) = true
  | [] => rfl
  | n :: r => by
    simp only [List.map_cons, PyData.canLayAll0, PyData.canLay0, can_ints r, Bool.and_self]
theorem shaped_ints (ns : List Int) : SeqAt.shaped (.tuple (ns.map PyData.int)) = true := by
  unfold SeqAt.shaped
  have h1 : (PyData.tuple (ns.map PyData.int)).canLay0 = true := can_ints ns
  have h2 := depth_ints ns
  have h3 : (PyData.tuple (ns.map PyData.int)).depth = PyData.depthAll (ns.map PyData.int) + 1 := by simp only [PyData.depth]
  rw [h1, h3, decide_eq_true (by omega)]
  rfl
theorem eqv_ints (ns : List Int) : PyData.eqv (.tuple (ns.map PyData.int)) (.tuple (ns.map PyData.int)) = true := SeqAt.eqv_refl _ (can_ints ns)
section
variable {C CB : Addr} {z : V} {H : Hp} {Q : VK} {E : XK} {l l1 l2 : List Nat}
theorem told0 (hl : IsRound l) (q : ∀ r H1 p, IsShort l r → Same H H1 → H1 p = none → Q (.ref p) (upd H1 p (.tup [S TOLD, S r]))) : p_L_told C CB (.int 0) (S l) z H Q E :=
  ⟨0, rfl, fun _ => .inl ⟨l, rfl, hl, fun r H' hr s p np => q r H' p hr s np⟩, fun e => absurd e (by decide), fun e => absurd e (by decide), fun e => absurd e (by decide), fun e => absurd rfl e⟩
theorem told1 (hl : IsRound l) (q : ∀ r m H1 p, IsShort l r → m ∈ turns r → (∀ y ∈ turns r, ¬ y < m) → Same H H1 → H1 p = none → Q (.ref p) (upd H1 p (.tup [S TOLD, S m]))) : p_L_told C CB (.int 1) (S l) z H Q E :=
  ⟨1, rfl, fun e => absurd e (by decide), fun _ => .inl ⟨l, rfl, hl, fun r m H' hr h1 h2 s p np => q r m H' p hr h1 h2 s np⟩, fun e => absurd e (by decide), fun e => absurd e (by decide), fun _ e => absurd rfl e⟩
theorem told2 {n : Int} (hl : IsRound l) (hn : 0 ≤ n) (q : ∀ H1 p, Same H H1 → H1 p = none → Q (.ref p) (upd H1 p (.tup [S TOLD, S (turn l (n % l.length).toNat)]))) : p_L_told C CB (.int 2) (S l) (.int n) H Q E :=
  ⟨2, rfl, fun e => absurd e (by decide), fun e => absurd e (by decide), fun _ => .inl ⟨l, rfl, hl, .inl ⟨n, rfl, hn, fun H' s p np => q H' p s np⟩⟩, fun e => absurd e (by decide), fun _ _ e => absurd rfl e⟩
theorem told3 (h1 : IsRound l1) (h2 : IsRound l2) (q : ∀ r1 r2 H1 p, IsShort l1 r1 → IsShort l2 r2 → Same H H1 → H1 p = none → Q (.ref p) (upd H1 p (.tup [S TOLD, .bl (decide (r1 = r2))]))) : p_L_told C CB (.int 3) (S l1) (S l2) H Q E :=
  ⟨3, rfl, fun e => absurd e (by decide), fun e => absurd e (by decide), fun e => absurd e (by decide), fun _ => .inl ⟨l1, rfl, h1, .inl ⟨l2, rfl, h2, fun r1 r2 H' a b s p np => q r1 r2 H' p a b s np⟩⟩, fun _ _ _ e => absurd rfl e⟩
theorem told4 (h1 : IsRound l1) (h2 : IsRound l2) (q : ∀ r1 r2 Dl H1 p, IsShort l1 r1 → IsShort l2 r2 → H Dl = none → Same H H1 → H1 Dl = some (.tup (((List.range r2.length).filter fun k => decide (turn r2 k = r1)).map fun (k : Nat) => V.int (k : Int))) → H1 p = none → Q (.ref p) (upd H1 p (.tup [S TOLD, .ref Dl]))) : p_L_told C CB (.int 4) (S l1) (S l2) H Q E :=
  ⟨4, rfl, fun e => absurd e (by decide), fun e => absurd e (by decide), fun e => absurd e (by decide), fun e => absurd e (by decide), fun _ _ _ _ => .inl ⟨l1, rfl, h1, .inl ⟨l2, rfl, h2, fun r1 r2 Dl H' a b n s e p np => q r1 r2 Dl H' p a b n s e np⟩⟩⟩
end
section
variable {P : Program} {w : World} {K : PySem.W.Frag} {mg : Str → Option Value} {base : Heap} {C_GlimError C_BadRound C_BadBeats : Addr}
def p_L_text_told : P2 := fun x y H Q _ => ∃ p l m, x = .ref p ∧ y = S m ∧ H p = some (.tup [S TOLD, S l]) ∧ Q (.bl (decide (l = m))) H
theorem ok_L_text_told (T : Txt K mg C_GlimError C_BadRound C_BadBeats) : OK P w K mg base CX0 1 "_law_text_told" ["_law_told_here", "_law_due"] (sp2  p_L_text_told) := by
  refine OK.mk (k := 0) T.d_L_text_told sc_L_text_told len2 fun f cdv A outer s H vs Q E hr h => ?_
  obtain ⟨x, y, rfl, h⟩ := h
  refine ⟨_, (pss_one (ps_ret (pe_and (pe_cmpR (opEq K hr.units) (pe_ix (ixK K) (pv 0) pe_int (fun _ _ => rfl)) (pe_S [116, 111, 108, 100]) (nomark _)) (pe_and (pe_callB (cIsi K) (by rfl) T.b_isinstance (by decide +kernel) (pa_cons (pe_ix (ixK K) (pv 0) pe_int (fun _ _ => rfl)) (pa_cons (pe_bltn (v := .ty "str") (by rfl) T.b_str (by decide +kernel) rfl) pa_nil))) (pe_one (pe_cmpR (opEq K hr.units) (pe_ix (ixK K) (pv 0) pe_int (fun _ _ => rfl)) (pv 1) (nomark _))))))), ?_⟩
  show (_ : TS) { nx := fun _ H' => Q .non H', rt := Q } [some x, some y] H
  obtain ⟨p, l, m, rfl, rfl, hp, q⟩ := h
  walk_at "go"
  refine i_dec (fun _ => ?_) (fun e => absurd rfl e)
  walk_at "go"
  exact q
def p_L_pair_right : P3 := fun x y z H Q _ => ∃ (l1 l2 : List Nat) (n : Int), x = S l1 ∧ y = S l2 ∧ z = .int n ∧ IsRound l1 ∧ IsRound l2 ∧ 0 ≤ n ∧ ∀ H', Same H H' → Q (.bl true) H'
theorem ok_L_pair_right (T : Txt K mg C_GlimError C_BadRound C_BadBeats) : OK P w K mg base CX0 7 "_law_pair_right" ["_law_first", "_law_second", "_law_many"] (sp3  p_L_pair_right) := by
  refine OK.mk (k := 6) T.d_L_pair_right sc_L_pair_right len3 fun f cdv A outer s H vs Q E hr h => ?_
  obtain ⟨x, y, z, rfl, h⟩ := h
  refine ⟨_, (pss_cons (ps_if (pt_not (pt_val (pe_f (ok_L_text_told (K := K) T) (hr.mono (by decide)) pass0 (pa_cons (pe_f (ok_L_told (K := K) T) (hr.mono (by decide)) pass0 (pa_cons pe_int (pa_cons (pv 0) (pa_cons (pe_S []) pa_nil)))) (pa_cons (pe_f (ok_L_least (K := K) T) (hr.mono (by decide)) pass0 (pa_cons (pv 0) pa_nil)) pa_nil))))) (pss_one (ps_ret pe_bl)) pss_nil) (pss_cons (ps_if (pt_not (pt_val (pe_f (ok_L_text_told (K := K) T) (hr.mono (by decide)) pass0 (pa_cons (pe_f (ok_L_told (K := K) T) (hr.mono (by decide)) pass0 (pa_cons pe_int (pa_cons (pv 0) (pa_cons (pe_S []) pa_nil)))) (pa_cons (pe_f (ok_L_rhythm (K := K) T) (hr.mono (by decide)) pass0 (pa_cons (pv 0) pa_nil)) pa_nil))))) (pss_one (ps_ret pe_bl)) pss_nil) (pss_cons (ps_if (pt_not (pt_val (pe_f (ok_L_text_told (K := K) T) (hr.mono (by decide)) pass0 (pa_cons (pe_f (ok_L_told (K := K) T) (hr.mono (by decide)) pass0 (pa_cons pe_int (pa_cons (pv 0) (pa_cons (pv 2) pa_nil)))) (pa_cons (pe_f (ok_L_later (K := K) T) (hr.mono (by decide)) pass0 (pa_cons (pv 0) (pa_cons (pv 2) pa_nil))) pa_nil))))) (pss_one (ps_ret pe_bl)) pss_nil) (pss_cons (ps_set (i := 3) sc_L_pair_right.nd rfl (Or.inl rfl) (pe_f (ok_L_told (K := K) T) (hr.mono (by decide)) pass0 (pa_cons pe_int (pa_cons (pv 0) (pa_cons (pv 1) pa_nil))))) (pss_cons (ps_if (pw_or (pt_cmpR (opNe K hr.units) (pe_ix (ixK K) (pv 3) pe_int (fun _ _ => rfl)) (pe_S [116, 111, 108, 100]) (nomark _)) (pw_or (pt_not (pt_val (pe_callB (cIsi K) (by rfl) T.b_isinstance (by decide +kernel) (pa_cons (pe_ix (ixK K) (pv 3) pe_int (fun _ _ => rfl)) (pa_cons (pe_bltn (v := .ty "bool") (by rfl) T.b_bool (by decide +kernel) rfl) pa_nil))))) (pw_or1 (pt_cmpR (opNe K hr.units) (pe_ix (ixK K) (pv 3) pe_int (fun _ _ => rfl)) (pe_f (ok_L_same_for_ever (K := K) T) (hr.mono (by decide)) pass0 (pa_cons (pv 0) (pa_cons (pv 1) pa_nil))) (nomark _))))).pt (pss_one (ps_ret pe_bl)) pss_nil) (pss_cons (ps_set (i := 3) sc_L_pair_right.nd rfl (Or.inl rfl) (pe_f (ok_L_told (K := K) T) (hr.mono (by decide)) pass0 (pa_cons pe_int (pa_cons (pv 0) (pa_cons (pv 1) pa_nil))))) (pss_cons (ps_set (i := 4) sc_L_pair_right.nd rfl (Or.inl rfl) (pe_f (ok_L_moments (K := K) T) (hr.mono (by decide)) pass0 (pa_cons (pv 0) (pa_cons (pv 1) pa_nil)))) (pss_cons (ps_if (pw_or (pt_cmpR (opNe K hr.units) (pe_ix (ixK K) (pv 3) pe_int (fun _ _ => rfl)) (pe_S [116, 111, 108, 100]) (nomark _)) (pw_or (pt_not (pt_val (pe_callB (cIsi K) (by rfl) T.b_isinstance (by decide +kernel) (pa_cons (pe_ix (ixK K) (pv 3) pe_int (fun _ _ => rfl)) (pa_cons (pe_bltn (v := .ty "tuple") (by rfl) T.b_tuple (by decide +kernel) rfl) pa_nil))))) (pw_or1 (pt_cmpR (opNe K hr.units) (pe_ix (ixK K) (pv 3) pe_int (fun _ _ => rfl)) (pv 4) (nomark _))))).pt (pss_one (ps_ret pe_bl)) pss_nil) (pss_one (ps_ret (pe_callB (cAll K rfl) (by rfl) T.b_all (by decide +kernel) (pa_cons (pe_lc (own := [("_law_number_here", 5)]) (g := gName 5) (tt := tYes) (by rfl) sc_L_pair_right.nd (piAny K (pe_ix (ixK K) (pv 3) pe_int (fun _ _ => rfl))) (blkOk_by (own := [("_law_number_here", 5)]) (N := ["_law_first", "_law_second", "_law_many", "_law_told_here", "_law_due", "_law_number_here"]) (sc := (defScope s_L_pair_right)) (by decide +kernel)) (fun _ _ _ _ _ => (pg_name (i := 5) sc_L_pair_right.nd rfl (Or.inl rfl))) (fun _ _ _ _ _ => pts_nil) (fun _ _ _ _ _ => (pe_f (ok_L_is_int (K := K) T) (hr.mono (by decide)) pass0 (pa_cons (pv 5) pa_nil)))) pa_nil)))))))))))), ?_⟩
  show (_ : TS) { nx := fun _ H' => Q .non H', rt := Q } [some x, some y, some z, none, none, none] H
  obtain ⟨l1, l2, n, rfl, rfl, rfl, hl1, hl2, hn, q⟩ := h
  have a1 := hl1.1
  have a2 := hl1.2.1
  have b1 := hl2.1
  have b2 := hl2.2.1
  walk_at "go"
  -- the least round
  refine told0 hl1 fun r H1 p hr s1 np => ?_
  walk_at "go"
  refine ⟨l1, rfl, a1, by omega, fun r' hr' => ?_⟩
  have e := short_least a1 hr hr'
  subst e
  walk_at "go"
  refine ⟨p, r, r, rfl, rfl, upd_same, ?_⟩
  rw [decide_eq_true rfl]
  walk_at "go"
  have s2 := s1.trans (same_upd (o := .tup [S TOLD, S r]) np)
  -- the rhythm
  refine told1 hl1 fun r2 m H2 p2 hr2 m1 m2 s3 np2 => ?_
  walk_at "go"
  refine ⟨l1, rfl, a1, by omega, fun r3 m' H3 hr3 m3 m4 s4 => ?_⟩
  have e := short_least a1 hr2 hr3
  subst e
  rw [← turns_laters] at m3 m4
  have e := least_one m1 m2 m3 m4
  subst e
  walk_at "go"
  refine ⟨p2, m, m, rfl, rfl, s4 _ _ upd_same, ?_⟩
  rw [decide_eq_true rfl]
  walk_at "go"
  have s5 := s2.trans (s3.trans ((same_upd (o := .tup [S TOLD, S m]) np2).trans s4))
  -- turned
  refine told2 hl1 hn fun H4 p3 s6 np3 => ?_
  walk_at "go"
  refine ⟨l1, n, rfl, rfl, a1, by omega, fun H5 s7 => ?_⟩
  walk_at "go"
  refine ⟨p3, later l1 n, later l1 n, rfl, rfl, s7 _ _ (by rw [← turn_later a1]; exact upd_same), ?_⟩
  rw [decide_eq_true rfl]
  walk_at "go"
  have s8 := s5.trans (s6.trans ((same_upd (o := .tup [S TOLD, S (turn l1 (n % l1.length).toNat)]) np3).trans s7))
  -- alike
  refine told3 hl1 hl2 fun r1 r2 H6 p4 h1 h2 s9 np4 => ?_
  rw [alike_eq a1 b1 h1 h2]
  walk_at "go"
  refine i_decN (fun e => absurd rfl e) (fun _ => ?_)
  walk_at "go"
  refine ⟨l1, l2, rfl, rfl, a1, by omega, b1, by omega, ?_⟩
  walk_at "go"
  refine i_decN (fun e => absurd rfl e) (fun _ => ?_)
  walk_at "go"
  have s10 := s8.trans (s9.trans (same_upd (o := .tup [S TOLD, .bl (sf l1 l2)]) np4))
  -- moments
  refine told4 hl1 hl2 fun r1' r2' Dl H7 p5 h1' h2' nDl s11 eDl np5 => ?_
  walk_at "go"
  refine ⟨l1, l2, rfl, rfl, a1, by omega, b1, by omega, fun r3 Dm H8 h3 nDm s12 eDm => ?_⟩
  have e := short_least b1 h2' h3
  subst e
  have ef : (List.range r2'.length).filter (fun k => decide (turn r2' k = r1')) = (List.range r2'.length).filter (fun (k : Nat) => sf (later l2 (k : Int)) l1) := filter_eq fun k hk => moments_eq a1 b1 h1' h2' hk
  rw [ef] at eDl
  have ep : H8 p5 = some (.tup [S TOLD, .ref Dl]) := s12 _ _ upd_same
  have nDlp : Dl ≠ p5 := ne_of_none eDl np5
  have eDl' := s12 Dl _ ((upd_ne nDlp).trans eDl)
  have hlen := h3.len
  have tl : ((List.range r2'.length).filter (fun (k : Nat) => sf (later l2 (k : Int)) l1)).length ≤ 24 := by
    have := List.length_filter_le (fun (k : Nat) => sf (later l2 (k : Int)) l1) (List.range r2'.length)
    rw [List.length_range] at this
    omega
  generalize (List.range r2'.length).filter (fun (k : Nat) => sf (later l2 (k : Int)) l1) = ks at *
  have em : ks.map (fun (k : Nat) => V.int (k : Int)) = (ks.map fun (k : Nat) => (k : Int)).map V.int := by rw [List.map_map]; rfl
  rw [em] at eDl' eDm
  walk_at "go"
  refine i_decN (fun e => absurd rfl e) (fun _ => ?_)
  walk_at "go"
  refine i_isi_tup_tuple eDl' ?_
  walk_at "go"
  refine i_ne_data (.tup (.inl (.inl eDl')) (dp_ints _)) (.tup (.inl (.inl eDm)) (dp_ints _)) (shaped_ints _) (shaped_ints _) (eqv_ints _) ?_
  walk_at "go"
  refine c_tup (K := K) (a := Dl) (xs := (ks.map fun (k : Nat) => (k : Int)).map V.int) (fun R k => ?_) (.inl (.inl eDl')) (by rw [List.length_map, List.length_map]; omega) (fun _ => true) (fun _ => .bl true) (fun _ => rfl) (fun i x H9 hi s13 QB k => k H9 (Same.refl H9)) (fun i x H9 hi s13 _ QV k => ?_) (fun Da H9 n9 s13 d9 => ?_)
  · walk_at "go"
    exact k
  · show (_ : TE) [some (S l1), some (S l2), some (.int n), some (.ref p5), some (.ref Dm), some x] H9 QV
    rw [List.getElem?_map] at hi
    obtain ⟨j, hj, rfl⟩ := Option.map_eq_some_iff.mp hi
    walk_at "go"
    refine ⟨.inr (.inr (.inr (.inl ⟨j, rfl⟩))), k H9 (Same.refl H9)⟩
  · rw [kept_all] at d9
    have ed : (List.range ((ks.map fun (k : Nat) => (k : Int)).map V.int).length).map (fun _ => V.bl true) = (List.replicate ks.length true).map V.bl := by
      simp [List.map_const', List.map_replicate]
    rw [ed] at d9
    walk_at "go"
    refine i_all (bs := List.replicate ks.length true) (.inl (.inl d9)) ?_
    have : (List.replicate ks.length true).all id = true := by simp
    rw [this]
    exact q H9 (s10.trans (s11.trans ((same_upd (o := .tup [S TOLD, .ref Dl]) np5).trans (s12.trans s13))))
end
end K07
namespace K07
open PySem PySem.Spec PyProof.Rows L2 Fg
local macro_rules | `(tactic| walk_at "sq") => `(tactic| first
  | assumption
  | exact .inl (.inl (by assumption))
  | exact .inl (.inl upd_same))
local macro_rules | `(tactic| walk_at "st") => `(tactic| first
  | assumption
  | exact .inl (.inl (by assumption))
  | exact .inl (.inl upd_same))
local macro_rules | `(tactic| walk_at "o") => `(tactic| first
  | omega
  | assumption
  | (simp only [List.length_append, List.length_take, List.length_drop, List.length_cons, List.length_nil, List.length_singleton, List.length_map, List.length_range, Int.toNat_natCast] ; omega))
local macro_rules | `(tactic| walk_at "s") => `(tactic| first
  | (with_reducible refine i_seq ?_)
  | (with_reducible refine i_asg ?_)
  | ((with_reducible refine' i_var ?h1 ?_); (case h1 => rfl))
  | (with_reducible refine i_c ?_)
  | ((with_reducible refine' i_gname' ?h1 ?_); (case h1 => (simp only [List.set_cons_zero, List.set_cons_succ]; rfl)))
  | (with_reducible refine i_op ?_)
  | (with_reducible refine i_ifS ?_)
  | (with_reducible refine i_for ?_)
  | (with_reducible refine i_test ?_)
  | (with_reducible refine i_B ?_)
  | (with_reducible refine i_exbl ?_)
  | (with_reducible refine i_exint ?_)
  | (with_reducible refine i_cb ?_)
  | (with_reducible refine i_nil ?_)
  | (with_reducible refine i_cons ?_)
  | (with_reducible refine i_ret ?_)
  | (with_reducible refine i_sl ?_)
  | (with_reducible refine i_nopart ?_)
  | (with_reducible refine i_part ?_)
  | (with_reducible refine i_add_int ?_)
  | (with_reducible refine i_sub ?_)
  | (with_reducible refine i_lt ?_)
  | ((with_reducible refine' i_mod ?h1 ?_); (case h1 => walk_at "o"))
  | ((with_reducible refine' i_fdiv ?h1 ?_); (case h1 => (refine cdiv_small ?_ ?_ <;> walk_at "o")))
  | ((with_reducible refine' i_sl_to ?h1 ?h2 ?_); (case h1 => walk_at "o"); (case h2 => walk_at "o"))
  | ((with_reducible refine' i_sl_from ?h1 ?h2 ?_); (case h1 => walk_at "o"); (case h2 => walk_at "o"))
  | ((with_reducible refine' i_add_str ?h1 ?_); (case h1 => walk_at "o"))
  | ((with_reducible refine' i_mul_int ?h1 ?_); (case h1 => first | (refine mul_small ?_ ?_ <;> walk_at "o") | (refine mul_smallR ?_ ?_ <;> walk_at "o")))
  | (with_reducible refine i_le ?_)
  | (with_reducible refine i_gt ?_)
  | (with_reducible refine i_ge ?_)
  | (with_reducible refine i_eq_int ?_)
  | (with_reducible refine i_eq_str ?_)
  | (with_reducible refine i_ne_int ?_)
  | (with_reducible refine i_ne_str ?_)
  | (with_reducible refine i_eq_bl ?_)
  | (with_reducible refine i_ne_bl ?_)
  | (with_reducible refine i_in_sg ?_)
  | (with_reducible refine i_notIn_sg ?_)
  | (with_reducible refine i_call ?_)
  | (with_reducible refine i_callS ?_)
  | (with_reducible refine i_sp1 ?_)
  | (with_reducible refine i_sp2 ?_)
  | (with_reducible refine i_sp3 ?_)
  | (with_reducible refine i_sp4 ?_)
  | (with_reducible refine i_sp1' ?_)
  | (with_reducible refine i_sp2' ?_)
  | (with_reducible refine i_sp3' ?_)
  | ((with_reducible refine' i_ix_lst ?h1 ?h2 ?_); (case h1 => walk_at "sq"); (case h2 => first | exact atI_nat rfl | rfl))
  | ((with_reducible refine' i_ix_tup ?h1 ?h2 ?_); (case h1 => walk_at "st"); (case h2 => first | exact atI_nat rfl | rfl))
  | (with_reducible refine i_gsub ?_)
  | (with_reducible refine i_raise ?_)
  | (with_reducible refine i_mkE ?_)
  | (with_reducible refine i_ex1 ?_)
  | (with_reducible refine i_and ?_)
  | (with_reducible refine i_or ?_)
  | (with_reducible refine i_not ?_)
  | (with_reducible refine i_tt ?_)
  | (with_reducible refine i_ff ?_)
  | (with_reducible refine i_nott ?_)
  | (with_reducible refine i_notf ?_)
  | (with_reducible refine i_andV ?_)
  | (with_reducible refine i_orV ?_)
  | (with_reducible refine i_notV ?_)
  | (with_reducible refine i_ifE ?_)
  | (with_reducible refine i_tup ?_)
  | (with_reducible refine i_lst ?_)
  | (with_reducible refine i_un ?_)
  | (with_reducible refine i_neg ?_)
  | (with_reducible refine i_chain ?_)
  | (with_reducible refine i_next ?_)
  | (with_reducible refine i_retN ?_)
  | (with_reducible refine i_drop ?_)
  | (with_reducible refine i_int_int ?_)
  | (with_reducible refine i_abs ?_)
  | (with_reducible refine i_m1c ?_)
  | (with_reducible refine i_is_non ?_)
  | (with_reducible refine i_is_int ?_)
  | (with_reducible refine i_is_str ?_)
  | (with_reducible refine i_is_ref ?_)
  | (with_reducible refine i_isn_non ?_)
  | (with_reducible refine i_isn_int ?_)
  | (with_reducible refine i_isn_str ?_)
  | (with_reducible refine i_isn_ref ?_)
  | (with_reducible refine i_len_str ?h1 ?_; (case h1 => walk_at "o"))
  | (with_reducible refine i_isi_int_int ?_) | (with_reducible refine i_isi_int_bool ?_) | (with_reducible refine i_isi_int_str ?_) | (with_reducible refine i_isi_int_tuple ?_) | (with_reducible refine i_isi_int_list ?_)
  | (with_reducible refine i_isi_bl_int ?_) | (with_reducible refine i_isi_bl_bool ?_) | (with_reducible refine i_isi_bl_str ?_) | (with_reducible refine i_isi_bl_tuple ?_) | (with_reducible refine i_isi_bl_list ?_)
  | (with_reducible refine i_isi_str_int ?_) | (with_reducible refine i_isi_str_bool ?_) | (with_reducible refine i_isi_str_str ?_) | (with_reducible refine i_isi_str_tuple ?_) | (with_reducible refine i_isi_str_list ?_)
  | (with_reducible refine i_isi_non_int ?_) | (with_reducible refine i_isi_non_bool ?_) | (with_reducible refine i_isi_non_str ?_) | (with_reducible refine i_isi_non_tuple ?_) | (with_reducible refine i_isi_non_list ?_))
local macro_rules | `(tactic| walk_at "go") => `(tactic| (repeat' (walk_at "s")))
/-- a new object, known or not -/
theorem Dr.skip {K : PySem.W.Frag} {d : Dd} {H0 H : Hp} {q : Addr} {o : HO} (h : Dr K d H0 H) (n : H q = none) : Dr K d H0 (upd H q o) := h.same (same_upd n)
theorem firstBad_at {l : List Nat} {p : Nat} {c : Nat} (h : l[p]? = some c) (hc : c ∉ SG) (hb : ∀ j < p, ∀ x, l[j]? = some x → x ∈ SG) : firstBad l = some p := by
  unfold firstBad
  obtain ⟨hp, rfl⟩ := List.getElem?_eq_some_iff.mp h
  rw [List.findIdx?_eq_some_iff_getElem]
  refine ⟨hp, by simp [hc], fun j hj => ?_⟩
  have := hb j hj l[j] (List.getElem?_eq_getElem (by omega))
  simp [this]
section
variable {P : Program} {w : World} {K : PySem.W.Frag} {mg : Str → Option Value} {base : Heap} {C_GlimError C_BadRound C_BadBeats : Addr}
def p_L_bad_round (K : PySem.W.Frag) : P2 := fun x y H Q _ => ∃ (H0 : Hp) (d : Dd) (l : List Nat), x = .ref d.a ∧ y = S l ∧ Dr K d H0 H ∧ IsRound l ∧
  ∀ v k p Hk H', Same H0 Hk → Hk p = some (.tup [v, .int k]) → Dr K d Hk H' → BadR Hk v k → Q (.ref p) H'
theorem ok_L_bad_round (T : Txt K mg C_GlimError C_BadRound C_BadBeats) : OK P w K mg base CX0 3 "_law_bad_round" ["_law_draw_here", "_law_row"] (sp2  (p_L_bad_round K)) := by
  refine OK.mk (k := 2) T.d_L_bad_round sc_L_bad_round len2 fun f cdv A outer s H vs Q E hr h => ?_
  obtain ⟨x, y, rfl, h⟩ := h
  refine ⟨_, (pss_cons (ps_if (pt_cmpR (opEq K hr.units) (pe_f (ok_L_pick (K := K) T) (hr.mono (by decide)) pass0 (pa_cons (pv 0) (pa_cons pe_int pa_nil))) pe_int (nomark _)) (pss_cons (ps_set (i := 2) sc_L_bad_round.nd rfl (Or.inl rfl) (pe_lst (pa_cons (pe_S []) (pa_cons (pe_slice (slK K) (pe_op op_mulP (pv 1) pe_int) po_none (po_some pe_int)) (pa_cons (pe_op op_mulP (pe_S [120]) pe_int) (pa_cons pe_non (pa_cons pe_int (pa_cons pe_bl (pa_cons (pe_tup (pa_cons (pe_S [119]) pa_nil)) (pa_cons (pe_lst (pa_cons (pe_S [119]) pa_nil)) pa_nil)))))))))) (pss_one (ps_ret (pe_tup (pa_cons (pe_ix (ixK K) (pv 2) (pe_f (ok_L_pick (K := K) T) (hr.mono (by decide)) pass0 (pa_cons (pv 0) (pa_cons pe_int pa_nil))) (fun _ _ => rfl)) (pa_cons (pe_un un_neg pe_int) pa_nil)))))) pss_nil) (pss_cons (ps_set (i := 3) sc_L_bad_round.nd rfl (Or.inl rfl) (pe_f (ok_L_pick (K := K) T) (hr.mono (by decide)) pass0 (pa_cons (pv 0) (pa_cons (pe_callB (cLen K) (by rfl) T.b_len (by decide +kernel) (pa_cons (pv 1) pa_nil)) pa_nil)))) (pss_cons (ps_set (i := 4) sc_L_bad_round.nd rfl (Or.inl rfl) (pe_op (opAdd K) (pv 3) (pe_f (ok_L_pick (K := K) T) (hr.mono (by decide)) pass0 (pa_cons (pv 0) (pa_cons (pe_op op_subP (pe_callB (cLen K) (by rfl) T.b_len (by decide +kernel) (pa_cons (pv 1) pa_nil)) (pv 3)) pa_nil))))) (pss_cons (ps_set (i := 5) sc_L_bad_round.nd rfl (Or.inl rfl) (pe_op (opAdd K) (pe_op (opAdd K) (pe_slice (slK K) (pv 1) po_none (po_some (pv 4))) (pe_ix (ixK K) (pe_S [120, 87, 71, 48, 45, 44, 32, 50]) (pe_f (ok_L_pick (K := K) T) (hr.mono (by decide)) pass0 (pa_cons (pv 0) (pa_cons pe_int pa_nil))) (fun _ _ => rfl))) (pe_slice (slK K) (pv 1) (po_some (pe_op (opAdd K) (pv 4) pe_int)) po_none))) (pss_one (ps_ret (pe_tup (pa_cons (pe_op (opAdd K) (pe_op (opAdd K) (pe_slice (slK K) (pv 5) po_none (po_some (pv 3))) (pe_ix (ixK K) (pe_S [120, 87, 71, 48, 45, 44, 32, 50]) (pe_f (ok_L_pick (K := K) T) (hr.mono (by decide)) pass0 (pa_cons (pv 0) (pa_cons pe_int pa_nil))) (fun _ _ => rfl))) (pe_slice (slK K) (pv 5) (po_some (pe_op (opAdd K) (pv 3) pe_int)) po_none)) (pa_cons (pv 3) pa_nil))))))))), ?_⟩
  show (_ : TS) { nx := fun _ H' => Q .non H', rt := Q } [some x, some y, none, none, none, none] H
  obtain ⟨H0, d, l, rfl, rfl, dr, hl, q⟩ := h
  have l1 := hl.1
  have l2 := hl.2.1
  walk_at "go"
  refine ⟨H0, d, 3, rfl, rfl, dr, by decide, fun n H1 dr1 b => ?_⟩
  walk_at "go"
  refine i_dec (fun e => ?_) (fun e => ?_)
  · walk_at "go"
    refine i_mul_strI (by decide) ⟨by show l.length * 25 ≤ _; omega, by decide⟩ ?_
    have hm : (List.replicate (Int.toNat 25) l).flatten.length = 25 * l.length := rep_len _ _
    generalize (List.replicate (Int.toNat 25) l).flatten = m at *
    walk_at "go"
    refine i_mul_strI (by decide) ⟨by decide, by decide⟩ ?_
    walk_at "go"
    refine i_new (by show 1 ≤ 100000; omega) fun p1 n1 => ?_
    walk_at "go"
    refine i_new (by show 1 ≤ 100000; omega) fun p2 n2 => ?_
    walk_at "go"
    refine i_new (by show 8 ≤ 100000; omega) fun p3 n3 => ?_
    walk_at "go"
    have ne12 : p1 ≠ p2 := fun z => by rw [z, upd_same] at n2; cases n2
    have ne13 : p1 ≠ p3 := fun z => by rw [z, upd_ne (z ▸ ne12), ← z, upd_same] at n3; cases n3
    have ne23 : p2 ≠ p3 := fun z => by rw [z, upd_same] at n3; cases n3
    have dr2 := dr1.new (o := .tup [S [119]]) n1
    have dr3 := dr2.new (o := .lst [S [119]]) n2
    have m1 := dr1.free n1
    have m2 := dr2.free n2
    have m3 := dr3.free n3
    refine ⟨_, d, 8, rfl, rfl, dr3.new n3, by decide, fun n' H2 dr4 b' => ?_⟩
    have b0 := b'.1
    have b1 := b'.2.1 (by decide)
    have s0 : Same H0 _ := ((same_upd (o := .tup [S [119]]) m1).trans (same_upd (o := .lst [S [119]]) m2)).trans (same_upd (o := .lst [S [], S (List.take (Int.toNat 25) m), S (List.replicate (Int.toNat 25) [120]).flatten, V.non, V.int 7, V.bl true, V.ref p1, V.ref p2]) m3)
    have key : ∃ v, [S [], S (List.take (Int.toNat 25) m), S (List.replicate (Int.toNat 25) [120]).flatten, V.non, V.int 7, V.bl true, V.ref p1, V.ref p2][n'.toNat]? = some v ∧ BadR (upd (upd (upd H0 p1 (.tup [S [119]])) p2 (.lst [S [119]])) p3 (.lst [S [], S (List.take (Int.toNat 25) m), S (List.replicate (Int.toNat 25) [120]).flatten, V.non, V.int 7, V.bl true, V.ref p1, V.ref p2])) v (-1) := by
      have hn : n'.toNat = 0 ∨ n'.toNat = 1 ∨ n'.toNat = 2 ∨ n'.toNat = 3 ∨ n'.toNat = 4 ∨ n'.toNat = 5 ∨ n'.toNat = 6 ∨ n'.toNat = 7 := by omega
      rcases hn with h | h | h | h | h | h | h | h <;> rw [h]
      · exact ⟨_, rfl, .inr ⟨_, rfl, by decide, .inl ⟨by decide, rfl⟩⟩⟩
      · refine ⟨_, rfl, .inr ⟨_, rfl, ?_, .inl ⟨?_, rfl⟩⟩⟩
        · rw [List.length_take, hm]; show min 25 _ ≤ _; omega
        · rw [List.length_take, hm]; show ¬ (1 ≤ min 25 _ ∧ min 25 _ ≤ 24); omega
      · exact ⟨_, rfl, .inr ⟨_, rfl, by decide, .inl ⟨by decide, rfl⟩⟩⟩
      · exact ⟨_, rfl, .inl ⟨.inl rfl, rfl⟩⟩
      · exact ⟨_, rfl, .inl ⟨.inr (.inr (.inl ⟨_, rfl⟩)), rfl⟩⟩
      · exact ⟨_, rfl, .inl ⟨.inr (.inl ⟨_, rfl⟩), rfl⟩⟩
      · exact ⟨_, rfl, .inl ⟨.inr (.inr (.inr ⟨p1, _, rfl, .inl (by rw [upd_ne ne13, upd_ne ne12, upd_same])⟩)), rfl⟩⟩
      · exact ⟨_, rfl, .inl ⟨.inr (.inr (.inr ⟨p2, _, rfl, .inr (by rw [upd_ne ne23, upd_same])⟩)), rfl⟩⟩
    obtain ⟨v, hv, bv⟩ := key
    refine i_ix_lst (v := v) (.inl (.inl (dr4.old upd_same))) (atI_int b0 hv) ?_
    walk_at "go"
    refine i_new (by show 2 ≤ 100000; omega) fun p4 n4 => ?_
    have m4 := dr4.free n4
    exact q v (-1) p4 _ _ (s0.trans (same_upd m4)) upd_same (dr4.new n4) (bv.mono (same_upd m4))
  · walk_at "go"
    have sg : ∀ i < 8, ∃ c, ([120, 87, 71, 48, 45, 44, 32, 50] : List Nat)[i]? = some c ∧ c ∉ SG := by decide
    refine ⟨H0, d, l.length, rfl, rfl, dr1, by omega, fun pl H2 dr2 b2 => ?_⟩
    have c0 := b2.1
    have c1 := b2.2.1
    have c2 := b2.2.2
    have hp : pl < l.length := by omega
    walk_at "go"
    refine ⟨H0, d, _, rfl, rfl, dr2, by omega, fun x H3 dr3 b3 => ?_⟩
    have d0 := b3.1
    have d1 := b3.2.1
    have d2 := b3.2.2
    have hx : pl + x < l.length := by omega
    walk_at "go"
    refine ⟨H0, d, _, rfl, rfl, dr3, by decide, fun i1 H4 dr4 b4 => ?_⟩
    obtain ⟨e1, hc1, hs1⟩ := sg i1.toNat (by have := b4.1; have := b4.2.1 (by decide); omega)
    refine i_ix_str (by decide) b4.1 hc1 ?_
    walk_at "go"
    have la : (l.take (pl + x).toNat ++ [e1] ++ l.drop (pl + x + 1).toNat).length = l.length := by
      simp only [List.length_append, List.length_take, List.length_drop, List.length_singleton]; omega
    have ga : ∀ j < pl.toNat, (l.take (pl + x).toNat ++ [e1] ++ l.drop (pl + x + 1).toNat)[j]? = l[j]? := fun j hj => by
      rw [List.append_assoc, List.getElem?_append_left (by rw [List.length_take]; omega), List.getElem?_take_of_lt (by omega)]
    generalize l.take (pl + x).toNat ++ [e1] ++ l.drop (pl + x + 1).toNat = m at *
    walk_at "go"
    refine ⟨H0, d, _, rfl, rfl, dr4, by decide, fun i2 H5 dr5 b5 => ?_⟩
    obtain ⟨e2, hc2, hs2⟩ := sg i2.toNat (by have := b5.1; have := b5.2.1 (by decide); omega)
    refine i_ix_str (by decide) b5.1 hc2 ?_
    walk_at "go"
    refine i_new (by show 2 ≤ 100000; omega) fun p4 n4 => ?_
    have m4 := dr5.free n4
    refine q _ pl p4 _ _ (same_upd m4) upd_same (dr5.new n4) (.inr ⟨_, rfl, ?_, .inr ⟨?_, pl.toNat, ?_, by omega⟩⟩)
    · simp only [List.length_append, List.length_take, List.length_drop, List.length_singleton]; omega
    · simp only [List.length_append, List.length_take, List.length_drop, List.length_singleton]; omega
    · refine firstBad_at (c := e2) ?_ hs2 fun j hj y hy => ?_
      · rw [List.append_assoc, List.getElem?_append_right (by rw [List.length_take]; omega), List.length_take, show pl.toNat - min pl.toNat m.length = 0 by omega]
        rfl
      · rw [List.append_assoc, List.getElem?_append_left (by rw [List.length_take]; omega), List.getElem?_take_of_lt (by omega), ga j hj] at hy
        exact hl.2.2 _ (List.mem_of_getElem? hy)
/-- what is told of, beside rounds -/
def Dv (H : Hp) (v : V) : Prop := v = .non ∨ (∃ b, v = .bl b) ∨ (∃ i, v = .int i) ∨ (∃ l, v = S l) ∨ ∃ a i, v = .ref a ∧ (H a = some (.tup [.int i]) ∨ H a = some (.lst [.int i]))
theorem Dv.mono {H H' : Hp} {v : V} (h : Dv H v) (s : Same H H') : Dv H' v := by
  rcases h with h | h | h | h | ⟨a, i, h, h2⟩
  · exact .inl h
  · exact .inr (.inl h)
  · exact .inr (.inr (.inl h))
  · exact .inr (.inr (.inr (.inl h)))
  · exact .inr (.inr (.inr (.inr ⟨a, i, h, h2.imp (s _ _) (s _ _)⟩)))
def p_L_refused : P3 := fun x y z H Q _ => ∃ p w, x = .ref p ∧ y = S w ∧ H p = some (.tup [S w, z]) ∧ Dv H z ∧ Q (.bl true) H
theorem ok_L_refused (T : Txt K mg C_GlimError C_BadRound C_BadBeats) : OK P w K mg base CX0 2 "_law_refused" ["_law_told_here", "_law_word", "_law_due"] (sp3  p_L_refused) := by
  refine OK.mk (k := 1) T.d_L_refused sc_L_refused len3 fun f cdv A outer s H vs Q E hr h => ?_
  obtain ⟨x, y, z, rfl, h⟩ := h
  refine ⟨_, (pss_cons (ps_if (pt_cmpR (opNe K hr.units) (pe_ix (ixK K) (pv 0) pe_int (fun _ _ => rfl)) (pv 1) (nomark _)) (pss_one (ps_ret pe_bl)) pss_nil) (pss_cons (ps_if (pw_and (pt_val (pe_callB (cIsi K) (by rfl) T.b_isinstance (by decide +kernel) (pa_cons (pv 2) (pa_cons (pe_bltn (v := .ty "int") (by rfl) T.b_int (by decide +kernel) rfl) pa_nil)))) (pw_and1 (pt_not (pt_val (pe_callB (cIsi K) (by rfl) T.b_isinstance (by decide +kernel) (pa_cons (pv 2) (pa_cons (pe_bltn (v := .ty "bool") (by rfl) T.b_bool (by decide +kernel) rfl) pa_nil))))))).pt (pss_one (ps_ret (pe_and (pe_f (ok_L_is_int (K := K) T) (hr.mono (by decide)) pass0 (pa_cons (pe_ix (ixK K) (pv 0) pe_int (fun _ _ => rfl)) pa_nil)) (pe_one (pe_cmpR (opEq K hr.units) (pe_ix (ixK K) (pv 0) pe_int (fun _ _ => rfl)) (pv 2) (nomark _)))))) pss_nil) (pss_cons (ps_if (pt_val (pe_callB (cIsi K) (by rfl) T.b_isinstance (by decide +kernel) (pa_cons (pv 2) (pa_cons (pe_bltn (v := .ty "bool") (by rfl) T.b_bool (by decide +kernel) rfl) pa_nil)))) (pss_one (ps_ret (pe_and (pe_callB (cIsi K) (by rfl) T.b_isinstance (by decide +kernel) (pa_cons (pe_ix (ixK K) (pv 0) pe_int (fun _ _ => rfl)) (pa_cons (pe_bltn (v := .ty "bool") (by rfl) T.b_bool (by decide +kernel) rfl) pa_nil))) (pe_one (pe_cmpR (opEq K hr.units) (pe_ix (ixK K) (pv 0) pe_int (fun _ _ => rfl)) (pv 2) (nomark _)))))) pss_nil) (pss_one (ps_ret (pe_and (pe_not (pe_callB (cIsi K) (by rfl) T.b_isinstance (by decide +kernel) (pa_cons (pe_ix (ixK K) (pv 0) pe_int (fun _ _ => rfl)) (pa_cons (pe_bltn (v := .ty "int") (by rfl) T.b_int (by decide +kernel) rfl) pa_nil)))) (pe_one (pe_cmpR (opEq K hr.units) (pe_ix (ixK K) (pv 0) pe_int (fun _ _ => rfl)) (pv 2) (nomark _))))))))), ?_⟩
  show (_ : TS) { nx := fun _ H' => Q .non H', rt := Q } [some x, some y, some z] H
  obtain ⟨p, w', rfl, rfl, hp, dv, q⟩ := h
  walk_at "go"
  refine i_decN (fun e => absurd rfl e) (fun _ => ?_)
  rcases dv with rfl | ⟨b, rfl⟩ | ⟨i, rfl⟩ | ⟨l, rfl⟩ | ⟨a, i, rfl, ha | ha⟩
  · walk_at "go"
    refine i_eq_data .non .non (by decide) (by decide) (r := true) (by decide) ?_
    exact q
  · walk_at "go"
    rw [decide_eq_true rfl]
    exact q
  · walk_at "go"
    refine ⟨.inr (.inr (.inr (.inl ⟨_, rfl⟩))), ?_⟩
    rw [show isI (.int i) = true from rfl]
    walk_at "go"
    rw [decide_eq_true rfl]
    exact q
  · walk_at "go"
    rw [decide_eq_true rfl]
    exact q
  · walk_at "go"
    refine i_isi_tup_int ha ?_
    walk_at "go"
    refine i_isi_tup_bool ha ?_
    walk_at "go"
    refine i_isi_tup_int ha ?_
    walk_at "go"
    refine i_eq_data (.tup (.inl (.inl ha)) (.cons (.int i) .nil)) (.tup (.inl (.inl ha)) (.cons (.int i) .nil)) (by rfl) (by rfl) (r := true) (SeqAt.eqv_refl _ rfl) ?_
    exact q
  · walk_at "go"
    refine i_isi_lst_int ha ?_
    walk_at "go"
    refine i_isi_lst_bool ha ?_
    walk_at "go"
    refine i_isi_lst_int ha ?_
    walk_at "go"
    refine i_eq_data (.lst (.inl (.inl ha)) (.cons (.int i) .nil)) (.lst (.inl (.inl ha)) (.cons (.int i) .nil)) (by rfl) (by rfl) (r := true) (SeqAt.eqv_refl _ rfl) ?_
    exact q
end
end K07
namespace K07
open PySem PySem.Spec PyProof.Rows L2 Fg
local macro_rules | `(tactic| walk_at "sq") => `(tactic| first
  | assumption
  | exact .inl (.inl (by assumption))
  | exact .inl (.inl upd_same))
local macro_rules | `(tactic| walk_at "st") => `(tactic| first
  | assumption
  | exact .inl (.inl (by assumption))
  | exact .inl (.inl upd_same))
local macro_rules | `(tactic| walk_at "o") => `(tactic| first
  | omega
  | assumption
  | (simp only [List.length_append, List.length_take, List.length_drop, List.length_cons, List.length_nil, List.length_singleton, List.length_map, List.length_range, Int.toNat_natCast] ; omega))
local macro_rules | `(tactic| walk_at "s") => `(tactic| first
  | (with_reducible refine i_seq ?_)
  | (with_reducible refine i_asg ?_)
  | ((with_reducible refine' i_var ?h1 ?_); (case h1 => rfl))
  | (with_reducible refine i_c ?_)
  | ((with_reducible refine' i_gname' ?h1 ?_); (case h1 => (simp only [List.set_cons_zero, List.set_cons_succ]; rfl)))
  | (with_reducible refine i_op ?_)
  | (with_reducible refine i_ifS ?_)
  | (with_reducible refine i_for ?_)
  | (with_reducible refine i_test ?_)
  | (with_reducible refine i_B ?_)
  | (with_reducible refine i_exbl ?_)
  | (with_reducible refine i_exint ?_)
  | (with_reducible refine i_cb ?_)
  | (with_reducible refine i_nil ?_)
  | (with_reducible refine i_cons ?_)
  | (with_reducible refine i_ret ?_)
  | (with_reducible refine i_sl ?_)
  | (with_reducible refine i_nopart ?_)
  | (with_reducible refine i_part ?_)
  | (with_reducible refine i_add_int ?_)
  | (with_reducible refine i_sub ?_)
  | (with_reducible refine i_lt ?_)
  | ((with_reducible refine' i_mod ?h1 ?_); (case h1 => walk_at "o"))
  | ((with_reducible refine' i_fdiv ?h1 ?_); (case h1 => (refine cdiv_small ?_ ?_ <;> walk_at "o")))
  | ((with_reducible refine' i_sl_to ?h1 ?h2 ?_); (case h1 => walk_at "o"); (case h2 => walk_at "o"))
  | ((with_reducible refine' i_sl_from ?h1 ?h2 ?_); (case h1 => walk_at "o"); (case h2 => walk_at "o"))
  | ((with_reducible refine' i_add_str ?h1 ?_); (case h1 => walk_at "o"))
  | ((with_reducible refine' i_mul_int ?h1 ?_); (case h1 => first | (refine mul_small ?_ ?_ <;> walk_at "o") | (refine mul_smallR ?_ ?_ <;> walk_at "o")))
  | (with_reducible refine i_le ?_)
  | (with_reducible refine i_gt ?_)
  | (with_reducible refine i_ge ?_)
  | (with_reducible refine i_eq_int ?_)
  | (with_reducible refine i_eq_str ?_)
  | (with_reducible refine i_ne_int ?_)
  | (with_reducible refine i_ne_str ?_)
  | (with_reducible refine i_eq_bl ?_)
  | (with_reducible refine i_ne_bl ?_)
  | (with_reducible refine i_in_sg ?_)
  | (with_reducible refine i_notIn_sg ?_)
  | (with_reducible refine i_call ?_)
  | (with_reducible refine i_callS ?_)
  | (with_reducible refine i_sp1 ?_)
  | (with_reducible refine i_sp2 ?_)
  | (with_reducible refine i_sp3 ?_)
  | (with_reducible refine i_sp4 ?_)
  | (with_reducible refine i_sp1' ?_)
  | (with_reducible refine i_sp2' ?_)
  | (with_reducible refine i_sp3' ?_)
  | ((with_reducible refine' i_ix_lst ?h1 ?h2 ?_); (case h1 => walk_at "sq"); (case h2 => first | exact atI_nat rfl | rfl))
  | ((with_reducible refine' i_ix_tup ?h1 ?h2 ?_); (case h1 => walk_at "st"); (case h2 => first | exact atI_nat rfl | rfl))
  | (with_reducible refine i_gsub ?_)
  | (with_reducible refine i_raise ?_)
  | (with_reducible refine i_mkE ?_)
  | (with_reducible refine i_ex1 ?_)
  | (with_reducible refine i_and ?_)
  | (with_reducible refine i_or ?_)
  | (with_reducible refine i_not ?_)
  | (with_reducible refine i_tt ?_)
  | (with_reducible refine i_ff ?_)
  | (with_reducible refine i_nott ?_)
  | (with_reducible refine i_notf ?_)
  | (with_reducible refine i_andV ?_)
  | (with_reducible refine i_orV ?_)
  | (with_reducible refine i_notV ?_)
  | (with_reducible refine i_ifE ?_)
  | (with_reducible refine i_tup ?_)
  | (with_reducible refine i_lst ?_)
  | (with_reducible refine i_un ?_)
  | (with_reducible refine i_neg ?_)
  | (with_reducible refine i_chain ?_)
  | (with_reducible refine i_next ?_)
  | (with_reducible refine i_retN ?_)
  | (with_reducible refine i_drop ?_)
  | (with_reducible refine i_int_int ?_)
  | (with_reducible refine i_abs ?_)
  | (with_reducible refine i_m1c ?_)
  | (with_reducible refine i_is_non ?_)
  | (with_reducible refine i_is_int ?_)
  | (with_reducible refine i_is_str ?_)
  | (with_reducible refine i_is_ref ?_)
  | (with_reducible refine i_isn_non ?_)
  | (with_reducible refine i_isn_int ?_)
  | (with_reducible refine i_isn_str ?_)
  | (with_reducible refine i_isn_ref ?_)
  | (with_reducible refine i_len_str ?h1 ?_; (case h1 => walk_at "o"))
  | (with_reducible refine i_isi_int_int ?_) | (with_reducible refine i_isi_int_bool ?_) | (with_reducible refine i_isi_int_str ?_) | (with_reducible refine i_isi_int_tuple ?_) | (with_reducible refine i_isi_int_list ?_)
  | (with_reducible refine i_isi_bl_int ?_) | (with_reducible refine i_isi_bl_bool ?_) | (with_reducible refine i_isi_bl_str ?_) | (with_reducible refine i_isi_bl_tuple ?_) | (with_reducible refine i_isi_bl_list ?_)
  | (with_reducible refine i_isi_str_int ?_) | (with_reducible refine i_isi_str_bool ?_) | (with_reducible refine i_isi_str_str ?_) | (with_reducible refine i_isi_str_tuple ?_) | (with_reducible refine i_isi_str_list ?_)
  | (with_reducible refine i_isi_non_int ?_) | (with_reducible refine i_isi_non_bool ?_) | (with_reducible refine i_isi_non_str ?_) | (with_reducible refine i_isi_non_tuple ?_) | (with_reducible refine i_isi_non_list ?_))
local macro_rules | `(tactic| walk_at "go") => `(tactic| (repeat' (walk_at "s")))
section
variable {C CB : Addr} {x y : V} {H : Hp} {Q : VK} {E : XK} {l : List Nat} {k : Int}
theorem rz_told {v : V} (q : ∀ H' p, Same H H' → H' p = none → Q (.ref p) (upd H' p (.tup [S ROUND, v]))) : Rz (toldE C CB Q) H C "number" v :=
  fun dd H' n s e => .inl ⟨rfl, dd, v, rfl, e, fun H2 p s2 np => q H2 p (s.trans s2) np⟩
theorem rz_toldB {v : V} (q : ∀ H' p, Same H H' → H' p = none → Q (.ref p) (upd H' p (.tup [S BEATS, v]))) : Rz (toldE C CB Q) H CB "beats" v :=
  fun dd H' n s e => .inr ⟨rfl, dd, v, rfl, e, fun H2 p s2 np => q H2 p (s.trans s2) np⟩
theorem told_bad (kind : Int) (b : BadR H x k) (q : ∀ H' p, Same H H' → H' p = none → Q (.ref p) (upd H' p (.tup [S ROUND, .int k]))) : p_L_told C CB (.int kind) x y H Q E :=
  have z : BadX C H x (toldE C CB Q) := ⟨k, b, rz_told q⟩
  ⟨kind, rfl, fun _ => .inr z, fun _ => .inr z, fun _ => .inr z, fun _ => .inr z, fun _ _ _ _ => .inr z⟩
theorem told_bad2 (kind : Int) (h3 : 3 ≤ kind) (hl : IsRound l) (b : BadR H y k) (q : ∀ H' p, Same H H' → H' p = none → Q (.ref p) (upd H' p (.tup [S ROUND, .int k]))) : p_L_told C CB (.int kind) (S l) y H Q E :=
  have z : BadX C H y (toldE C CB Q) := ⟨k, b, rz_told q⟩
  ⟨kind, rfl, fun e => absurd e (by omega), fun e => absurd e (by omega), fun e => absurd e (by omega), fun _ => .inl ⟨l, rfl, hl, .inr z⟩, fun _ _ _ _ => .inl ⟨l, rfl, hl, .inr z⟩⟩
theorem told_beats (hl : IsRound l) (b : NoBeats H y) (q : ∀ H' p, Same H H' → H' p = none → Q (.ref p) (upd H' p (.tup [S BEATS, y]))) : p_L_told C CB (.int 2) (S l) y H Q E :=
  ⟨2, rfl, fun e => absurd e (by decide), fun e => absurd e (by decide), fun _ => .inl ⟨l, rfl, hl, .inr ⟨b, rz_toldB q⟩⟩, fun e => absurd e (by decide), fun _ _ e => absurd rfl e⟩
end
section
variable {P : Program} {w : World} {K : PySem.W.Frag} {mg : Str → Option Value} {base : Heap} {C_GlimError C_BadRound C_BadBeats : Addr}
def p_L_refusals_right (K : PySem.W.Frag) : P3 := fun x y z H Q _ => ∃ (H0 : Hp) (d : Dd) (l1 l2 : List Nat), x = .ref d.a ∧ y = S l1 ∧ z = S l2 ∧ Dr K d H0 H ∧ IsRound l1 ∧ IsRound l2 ∧ ∀ H', Q (.bl true) H'
theorem ok_L_refusals_right (T : Txt K mg C_GlimError C_BadRound C_BadBeats) : OK P w K mg base CX0 7 "_law_refusals_right" ["_law_draw_here", "_law_first", "_law_second"] (sp3  (p_L_refusals_right K)) := by
  refine OK.mk (k := 6) T.d_L_refusals_right sc_L_refusals_right len3 fun f cdv A outer s H vs Q E hr h => ?_
  obtain ⟨x, y, z, rfl, h⟩ := h
  refine ⟨_, (pss_cons (ps_set (i := 3) sc_L_refusals_right.nd rfl (Or.inl rfl) (pe_f (ok_L_bad_round (K := K) T) (hr.mono (by decide)) pass0 (pa_cons (pv 0) (pa_cons (pv 1) pa_nil)))) (pss_cons (ps_set (i := 4) sc_L_refusals_right.nd rfl (Or.inl rfl) (pe_f (ok_L_bad_round (K := K) T) (hr.mono (by decide)) pass0 (pa_cons (pv 0) (pa_cons (pv 2) pa_nil)))) (pss_cons (ps_for PassesOwn.never rfl (pi_range1 rfl T.b_range (pa_cons pe_int pa_nil)) (pg_name (i := 5) sc_L_refusals_right.nd rfl (Or.inl rfl)) (pss_one (ps_if (pt_not (pt_val (pe_f (ok_L_refused (K := K) T) (hr.mono (by decide)) pass0 (pa_cons (pe_f (ok_L_told (K := K) T) (hr.mono (by decide)) pass0 (pa_cons (pv 5) (pa_cons (pe_ix (ixK K) (pv 3) pe_int (fun _ _ => rfl)) (pa_cons (pe_ix (ixK K) (pe_lst (pa_cons (pv 2) (pa_cons (pe_ix (ixK K) (pv 4) pe_int (fun _ _ => rfl)) (pa_cons (pe_un un_neg pe_int) pa_nil)))) (pe_f (ok_L_pick (K := K) T) (hr.mono (by decide)) pass0 (pa_cons (pv 0) (pa_cons pe_int pa_nil))) (fun _ _ => rfl)) pa_nil)))) (pa_cons (pe_S [114, 111, 117, 110, 100]) (pa_cons (pe_ix (ixK K) (pv 3) pe_int (fun _ _ => rfl)) pa_nil)))))) (pss_one (ps_ret pe_bl)) pss_nil))) (pss_cons (ps_for PassesOwn.never rfl (piAny K (pe_lst (pa_cons pe_int (pa_cons pe_int pa_nil)))) (pg_name (i := 5) sc_L_refusals_right.nd rfl (Or.inl rfl)) (pss_one (ps_if (pt_not (pt_val (pe_f (ok_L_refused (K := K) T) (hr.mono (by decide)) pass0 (pa_cons (pe_f (ok_L_told (K := K) T) (hr.mono (by decide)) pass0 (pa_cons (pv 5) (pa_cons (pv 1) (pa_cons (pe_ix (ixK K) (pv 4) pe_int (fun _ _ => rfl)) pa_nil)))) (pa_cons (pe_S [114, 111, 117, 110, 100]) (pa_cons (pe_ix (ixK K) (pv 4) pe_int (fun _ _ => rfl)) pa_nil)))))) (pss_one (ps_ret pe_bl)) pss_nil))) (pss_cons (ps_set (i := 6) sc_L_refusals_right.nd rfl (Or.inl rfl) (pe_ix (ixK K) (pe_lst (pa_cons (pe_un un_neg pe_int) (pa_cons (pe_un un_neg (pe_op op_powP pe_int pe_int)) (pa_cons pe_bl (pa_cons pe_bl (pa_cons pe_non (pa_cons (pe_S [48]) (pa_cons (pe_tup (pa_cons pe_int pa_nil)) (pa_cons (pe_lst (pa_cons pe_int pa_nil)) (pa_cons (pe_S [119]) pa_nil)))))))))) (pe_f (ok_L_pick (K := K) T) (hr.mono (by decide)) pass0 (pa_cons (pv 0) (pa_cons pe_int pa_nil))) (fun _ _ => rfl))) (pss_one (ps_ret (pe_f (ok_L_refused (K := K) T) (hr.mono (by decide)) pass0 (pa_cons (pe_f (ok_L_told (K := K) T) (hr.mono (by decide)) pass0 (pa_cons pe_int (pa_cons (pv 1) (pa_cons (pv 6) pa_nil)))) (pa_cons (pe_S [98, 101, 97, 116, 115]) (pa_cons (pv 6) pa_nil))))))))))), ?_⟩
  show (_ : TS) { nx := fun _ H' => Q .non H', rt := Q } [some x, some y, some z, none, none, none, none] H
  obtain ⟨H0, d, l1, l2, rfl, rfl, rfl, dr, hl1, hl2, q⟩ := h
  walk_at "go"
  refine ⟨H0, d, l1, rfl, rfl, dr, hl1, fun v k p1 Hk H1 s1 e1 dr1 b1 => ?_⟩
  walk_at "go"
  refine ⟨Hk, d, l2, rfl, rfl, dr1, hl2, fun v2 k2 p2 Hm H2 s2 e2 dr2 b2 => ?_⟩
  walk_at "go"
  have e1m := s2 _ _ e1
  have b1m := b1.mono s2
  refine f_rng1 5 (fun R k => by walk_at "go"; exact k) (by decide) (fun i σ' H' => ∃ a b, σ' = [some (.ref d.a), some (S l1), some (S l2), some (.ref p1), some (.ref p2), a, b] ∧ Dr K d Hm H') ⟨_, _, rfl, dr2⟩ ?_ ?_
  · rintro i σ' H3 hi ⟨a, b, rfl, dr3⟩
    walk_at "go"
    refine i_ix_tup (v := v) (.inl (.inl (dr3.old e1m))) rfl ?_
    walk_at "go"
    refine i_ix_tup (v := v2) (.inl (.inl (dr3.old e2))) rfl ?_
    walk_at "go"
    refine i_new (by show 3 ≤ 100000; omega) fun p3 n3 => ?_
    walk_at "go"
    have m3 := dr3.free n3
    refine ⟨_, d, 3, rfl, rfl, dr3.new n3, by decide, fun n H4 dr4 b4 => ?_⟩
    have key : ∃ w, [S l2, v2, V.int (-1)][n.toNat]? = some w := by
      have := b4.1
      have := b4.2.1 (by decide)
      have hn : n.toNat = 0 ∨ n.toNat = 1 ∨ n.toNat = 2 := by omega
      rcases hn with h | h | h <;> rw [h] <;> exact ⟨_, rfl⟩
    obtain ⟨w', hw⟩ := key
    refine i_ix_lst (v := w') (.inl (.inl (dr4.old upd_same))) (atI_int b4.1 hw) ?_
    have dr5 := dr4.less dr3.cells m3
    walk_at "go"
    refine told_bad (k := k) _ (b1m.mono dr5.1) fun H5 p4 s5 n5 => ?_
    have dr6 := dr5.same s5
    walk_at "go"
    refine i_ix_tup (v := .int k) (.inl (.inl ((dr6.skip n5).old e1m))) rfl ?_
    walk_at "go"
    refine ⟨p4, _, rfl, rfl, upd_same, .inr (.inr (.inl ⟨k, rfl⟩)), ?_⟩
    walk_at "go"
    exact ⟨_, _, rfl, dr6.skip n5⟩
  · rintro σ' H3 ⟨a, b, rfl, dr3⟩
    walk_at "go"
    refine i_new (by show 2 ≤ 100000; omega) fun pl nl => ?_
    have ml := dr3.free nl
    refine i_forL (.inl (.inl upd_same)) (fun i σ' H' => ∃ a b, σ' = [some (.ref d.a), some (S l1), some (S l2), some (.ref p1), some (.ref p2), a, b] ∧ Dr K d (upd Hm pl (.lst [.int 3, .int 4])) H') ⟨_, _, rfl, dr3.new nl⟩ ?_ ?_ ?_
    · rintro i σ' H' _ ⟨a, b, rfl, dr4⟩
      exact .inl (.inl (dr4.old upd_same))
    · rintro i x σ' H4 hi ⟨a, b, rfl, dr4⟩
      have e2m := same_upd (o := .lst [.int 3, .int 4]) ml _ _ e2
      have hx : ∃ z : Int, x = .int z ∧ 3 ≤ z := by
        match i, hi with
        | 0, h => exact ⟨3, (Option.some.inj h).symm, by decide⟩
        | 1, h => exact ⟨4, (Option.some.inj h).symm, by decide⟩
      obtain ⟨z, rfl, hz⟩ := hx
      walk_at "go"
      refine i_ix_tup (v := v2) (.inl (.inl (dr4.old e2m))) rfl ?_
      walk_at "go"
      refine told_bad2 (k := k2) _ hz hl1 (b2.mono ((same_upd ml).trans dr4.1)) fun H5 p4 s5 n5 => ?_
      have dr6 := dr4.same s5
      walk_at "go"
      refine i_ix_tup (v := .int k2) (.inl (.inl ((dr6.skip n5).old e2m))) rfl ?_
      walk_at "go"
      refine ⟨p4, _, rfl, rfl, upd_same, .inr (.inr (.inl ⟨k2, rfl⟩)), ?_⟩
      walk_at "go"
      exact ⟨_, _, rfl, dr6.skip n5⟩
    · rintro σ' H4 ⟨a, b, rfl, dr4⟩
      walk_at "go"
      refine i_pow (by decide +kernel) ?_
      walk_at "go"
      refine i_new (by show 1 ≤ 100000; omega) fun q1 n1 => ?_
      walk_at "go"
      refine i_new (by show 1 ≤ 100000; omega) fun q2 n2 => ?_
      walk_at "go"
      refine i_new (by show 9 ≤ 100000; omega) fun q3 n3 => ?_
      walk_at "go"
      have ne12 : q1 ≠ q2 := fun z => by rw [z, upd_same] at n2; cases n2
      have ne13 : q1 ≠ q3 := fun z => by rw [z, upd_ne (z ▸ ne12), ← z, upd_same] at n3; cases n3
      have ne23 : q2 ≠ q3 := fun z => by rw [z, upd_same] at n3; cases n3
      have dr5 := ((dr4.new (o := .tup [.int 1]) n1).new (o := .lst [.int 0]) n2).new (o := .lst [.int (-1), .int (-(10 ^ (30 : Int).toNat)), .bl true, .bl false, .non, S [48], .ref q1, .ref q2, S [119]]) n3
      refine ⟨_, d, 9, rfl, rfl, dr5, by decide, fun n H5 dr6 b6 => ?_⟩
      have f1 := b6.1
      have f2 := b6.2.1 (by decide)
      have hn : n.toNat = 0 ∨ n.toNat = 1 ∨ n.toNat = 2 ∨ n.toNat = 3 ∨ n.toNat = 4 ∨ n.toNat = 5 ∨ n.toNat = 6 ∨ n.toNat = 7 ∨ n.toNat = 8 := by omega
      have t1 : H5 q1 = some (.tup [.int 1]) := dr6.old (by rw [upd_ne ne13, upd_ne ne12, upd_same])
      have t2 : H5 q2 = some (.lst [.int 0]) := dr6.old (by rw [upd_ne ne23, upd_same])
      have key : ∃ w, [V.int (-1), .int (-(10 ^ (30 : Int).toNat)), .bl true, .bl false, .non, S [48], .ref q1, .ref q2, S [119]][n.toNat]? = some w ∧ NoBeats H5 w ∧ Dv H5 w := by
        rcases hn with h | h | h | h | h | h | h | h | h <;> rw [h]
        · exact ⟨_, rfl, .inr (.inl ⟨_, rfl, by decide⟩), .inr (.inr (.inl ⟨_, rfl⟩))⟩
        · exact ⟨_, rfl, .inr (.inl ⟨_, rfl, by decide +kernel⟩), .inr (.inr (.inl ⟨_, rfl⟩))⟩
        · exact ⟨_, rfl, .inl ⟨_, rfl⟩, .inr (.inl ⟨_, rfl⟩)⟩
        · exact ⟨_, rfl, .inl ⟨_, rfl⟩, .inr (.inl ⟨_, rfl⟩)⟩
        · exact ⟨_, rfl, .inr (.inr (.inl rfl)), .inl rfl⟩
        · exact ⟨_, rfl, .inr (.inr (.inr (.inl ⟨_, rfl⟩))), .inr (.inr (.inr (.inl ⟨_, rfl⟩)))⟩
        · exact ⟨_, rfl, .inr (.inr (.inr (.inr ⟨_, _, rfl, .inl t1⟩))), .inr (.inr (.inr (.inr ⟨_, _, rfl, .inl t1⟩)))⟩
        · exact ⟨_, rfl, .inr (.inr (.inr (.inr ⟨_, _, rfl, .inr t2⟩))), .inr (.inr (.inr (.inr ⟨_, _, rfl, .inr t2⟩)))⟩
        · exact ⟨_, rfl, .inr (.inr (.inr (.inl ⟨_, rfl⟩))), .inr (.inr (.inr (.inl ⟨_, rfl⟩)))⟩
      obtain ⟨w', hw, nb, dv⟩ := key
      refine i_ix_lst (v := w') (.inl (.inl (dr6.old upd_same))) (atI_int f1 hw) ?_
      walk_at "go"
      refine told_beats hl1 nb fun H6 p4 s6 n6 => ?_
      walk_at "go"
      exact ⟨p4, _, rfl, rfl, upd_same, dv.mono (s6.trans (same_upd n6)), q _⟩
theorem Dr.step {d : Dd} {Hk H : Hp} {p : Addr} (o : HO) (h : Dr K d Hk H) (n : H p = none) : ∃ Hk', Same Hk Hk' ∧ Hk' p = some o ∧ Dr K d Hk' (upd H p o) := ⟨upd Hk p o, same_upd (h.free n), upd_same, h.new n⟩
/-- a tuple of two rounds -/
def Pr (H : Hp) (p : Addr) : Prop := ∃ la lb, H p = some (.tup [S la, S lb]) ∧ IsRound la ∧ IsRound lb
theorem Pr.mono {H H' : Hp} {p : Addr} (h : Pr H p) (s : Same H H') : Pr H' p := by
  obtain ⟨la, lb, h1, h2⟩ := h
  exact ⟨la, lb, s _ _ h1, h2⟩
/-- what the law asks -/
def p_law (K : PySem.W.Frag) : P1 := fun x H Q _ => ∃ (a : Addr) (ns : List Int), x = .ref a ∧ SqL K H a (ns.map V.int) ∧ ns.length ≤ 63 ∧ ∀ H', Q (.bl true) H'
theorem ok_law_at {f : Addr} {fd : FuncData} (F : Fun K "law" "law" s_law f fd) (T : Txt K mg C_GlimError C_BadRound C_BadBeats) : FnOk P w K mg base CX0 8 f fd ["_law_script"] (sp1 (p_law K)) := by
  refine FnOK.mk (k := 7) F sc_law len1 fun cdv A outer s H vs Q E hr h => ?_
  obtain ⟨x, rfl, h⟩ := h
  refine ⟨_, (pss_cons (ps_set (i := 1) sc_law.nd rfl (Or.inl rfl) (pe_f (ok_L_draw (K := K) T) (hr.mono (by decide)) pass0 (pa_cons (pv 0) pa_nil))) (pss_cons (ps_set (i := 2) sc_law.nd rfl (Or.inl rfl) (pe_f (ok_L_rounds (K := K) T) (hr.mono (by decide)) pass0 (pa_cons (pv 1) pa_nil))) (pss_cons (ps_set (i := 3) sc_law.nd rfl (Or.inl rfl) (pe_f (ok_L_round (K := K) T) (hr.mono (by decide)) pass0 (pa_cons (pv 1) (pa_cons pe_int pa_nil)))) (pss_cons (ps_for PassesOwn.never rfl (piAny K (pe_lst (pa_cons (pe_tup (pa_cons (pe_ix (ixK K) (pv 2) pe_int (fun _ _ => rfl)) (pa_cons (pe_ix (ixK K) (pv 2) pe_int (fun _ _ => rfl)) pa_nil))) (pa_cons (pe_tup (pa_cons (pe_ix (ixK K) (pv 2) pe_int (fun _ _ => rfl)) (pa_cons (pe_ix (ixK K) (pv 2) pe_int (fun _ _ => rfl)) pa_nil))) (pa_cons (pe_tup (pa_cons (pv 3) (pa_cons (pe_ix (ixK K) (pv 2) pe_int (fun _ _ => rfl)) pa_nil))) (pa_cons (pe_tup (pa_cons (pe_ix (ixK K) (pv 2) pe_int (fun _ _ => rfl)) (pa_cons (pe_ix (ixK K) (pv 2) pe_int (fun _ _ => rfl)) pa_nil))) (pa_cons (pe_tup (pa_cons (pe_ix (ixK K) (pv 2) pe_int (fun _ _ => rfl)) (pa_cons (pv 3) pa_nil))) pa_nil))))))) (pg_name (i := 4) sc_law.nd rfl (Or.inl rfl)) (pss_one (ps_if (pt_not (pt_val (pe_f (ok_L_pair_right (K := K) T) (hr.mono (by decide)) pass0 (pa_cons (pe_ix (ixK K) (pv 4) pe_int (fun _ _ => rfl)) (pa_cons (pe_ix (ixK K) (pv 4) pe_int (fun _ _ => rfl)) (pa_cons (pe_f (ok_L_number (K := K) T) (hr.mono (by decide)) pass0 (pa_cons (pv 1) pa_nil)) pa_nil)))))) (pss_one (ps_ret pe_bl)) pss_nil))) (pss_one (ps_ret (pe_f (ok_L_refusals_right (K := K) T) (hr.mono (by decide)) pass0 (pa_cons (pv 1) (pa_cons (pe_ix (ixK K) (pv 2) pe_int (fun _ _ => rfl)) (pa_cons (pe_ix (ixK K) (pv 2) pe_int (fun _ _ => rfl)) pa_nil)))))))))), ?_⟩
  show (_ : TS) { nx := fun _ H' => Q .non H', rt := Q } [some x, none, none, none, none] H
  obtain ⟨a, ns, rfl, hS, hl, q⟩ := h
  walk_at "go"
  refine ⟨a, ns, rfl, hS, by omega, fun H0 d H1 s0 dr => ?_⟩
  walk_at "go"
  refine ⟨H0, d, rfl, dr, fun l1 l2 Dl H2 n2 hl1 hl2 dr2 => ?_⟩
  walk_at "go"
  refine ⟨_, d, 24, rfl, rfl, dr2, by decide, by decide, fun l3 H3 dr3 hr3 h31 h32 => ?_⟩
  have hl3 : IsRound l3 := ⟨h31, by omega, hr3⟩
  walk_at "go"
  have eD : (upd H0 Dl (.lst [S l1, S l2])) Dl = some (.lst [S l1, S l2]) := upd_same
  generalize upd H0 Dl (.lst [S l1, S l2]) = HA at *
  have ix0 : ∀ {H : Hp} {Q : VK}, H Dl = some (.lst [S l1, S l2]) → Q (S l1) H → ixP K (.ref Dl) (.int 0) H Q := fun e q => i_ix_lst (v := S l1) (.inl (.inl e)) rfl q
  have ix1 : ∀ {H : Hp} {Q : VK}, H Dl = some (.lst [S l1, S l2]) → Q (S l2) H → ixP K (.ref Dl) (.int 1) H Q := fun e q => i_ix_lst (v := S l2) (.inl (.inl e)) rfl q
  refine ix0 (dr3.old eD) ?_
  walk_at "go"
  refine ix1 (dr3.old eD) ?_
  walk_at "go"
  refine i_new (by show 2 ≤ 100000; omega) fun p1 n1 => ?_
  obtain ⟨HB, sB, eB, drB⟩ := dr3.step (.tup [S l1, S l2]) n1
  have eDB := sB _ _ eD
  have q1 : Pr HB p1 := ⟨_, _, eB, hl1, hl2⟩
  walk_at "go"
  refine ix1 (drB.old eDB) ?_
  walk_at "go"
  refine ix0 (drB.old eDB) ?_
  walk_at "go"
  refine i_new (by show 2 ≤ 100000; omega) fun p2 n2 => ?_
  obtain ⟨HC, sC, eC, drC⟩ := drB.step (.tup [S l2, S l1]) n2
  have eDC := sC _ _ eDB
  have q1 := q1.mono sC
  have q2 : Pr HC p2 := ⟨_, _, eC, hl2, hl1⟩
  walk_at "go"
  refine ix0 (drC.old eDC) ?_
  walk_at "go"
  refine i_new (by show 2 ≤ 100000; omega) fun p3 n3 => ?_
  obtain ⟨HD, sD, eD', drD⟩ := drC.step (.tup [S l3, S l1]) n3
  have eDD := sD _ _ eDC
  have q1 := q1.mono sD
  have q2 := q2.mono sD
  have q3 : Pr HD p3 := ⟨_, _, eD', hl3, hl1⟩
  walk_at "go"
  refine ix0 (drD.old eDD) ?_
  walk_at "go"
  refine ix0 (drD.old eDD) ?_
  walk_at "go"
  refine i_new (by show 2 ≤ 100000; omega) fun p4 n4 => ?_
  obtain ⟨HE, sE, eE, drE⟩ := drD.step (.tup [S l1, S l1]) n4
  have eDE := sE _ _ eDD
  have q1 := q1.mono sE
  have q2 := q2.mono sE
  have q3 := q3.mono sE
  have q4 : Pr HE p4 := ⟨_, _, eE, hl1, hl1⟩
  walk_at "go"
  refine ix1 (drE.old eDE) ?_
  walk_at "go"
  refine i_new (by show 2 ≤ 100000; omega) fun p5 n5 => ?_
  obtain ⟨HF, sF, eF, drF⟩ := drE.step (.tup [S l2, S l3]) n5
  have eDF := sF _ _ eDE
  have q1 := q1.mono sF
  have q2 := q2.mono sF
  have q3 := q3.mono sF
  have q4 := q4.mono sF
  have q5 : Pr HF p5 := ⟨_, _, eF, hl2, hl3⟩
  walk_at "go"
  refine i_new (by show 5 ≤ 100000; omega) fun pl nl => ?_
  obtain ⟨HG, sG, eG, drG⟩ := drF.step (.lst [.ref p1, .ref p2, .ref p3, .ref p4, .ref p5]) nl
  have eDG := sG _ _ eDF
  refine i_forL (.inl (.inl upd_same)) (fun i σ' H' => ∃ b, σ' = [some (.ref a), some (.ref d.a), some (.ref Dl), some (S l3), b] ∧ Dr K d HG H') ⟨_, rfl, drG⟩ ?_ ?_ ?_
  · rintro i σ' H' _ ⟨b, rfl, dr4⟩
    exact .inl (.inl (dr4.old eG))
  · rintro i x σ' H4 hi ⟨b, rfl, dr4⟩
    have hx : ∃ p, x = .ref p ∧ Pr HG p := by
      match i, hi with
      | 0, h => exact ⟨p1, (Option.some.inj h).symm, q1.mono sG⟩
      | 1, h => exact ⟨p2, (Option.some.inj h).symm, q2.mono sG⟩
      | 2, h => exact ⟨p3, (Option.some.inj h).symm, q3.mono sG⟩
      | 3, h => exact ⟨p4, (Option.some.inj h).symm, q4.mono sG⟩
      | 4, h => exact ⟨p5, (Option.some.inj h).symm, q5.mono sG⟩
    obtain ⟨p, rfl, la, lb, ep, ha, hb⟩ := hx
    walk_at "go"
    refine i_ix_tup (v := S la) (.inl (.inl (dr4.old ep))) rfl ?_
    walk_at "go"
    refine i_ix_tup (v := S lb) (.inl (.inl (dr4.old ep))) rfl ?_
    walk_at "go"
    refine ⟨HG, d, rfl, dr4, fun n H5 dr5 hn => ?_⟩
    walk_at "go"
    refine ⟨la, lb, n, rfl, rfl, rfl, ha, hb, hn, fun H6 s6 => ?_⟩
    walk_at "go"
    exact ⟨_, rfl, dr5.same s6⟩
  · rintro σ' H4 ⟨b, rfl, dr4⟩
    walk_at "go"
    refine ix0 (dr4.old eDG) ?_
    walk_at "go"
    refine ix1 (dr4.old eDG) ?_
    walk_at "go"
    exact ⟨HG, d, l1, l2, rfl, rfl, rfl, dr4, hl1, hl2, q⟩
end
end K07
namespace K07
open PySem PySem.Spec PyProof.Rows L2 Fg
theorem all_mk {l : PySem.W.OpenLaw} {w : World} {K : PySem.W.Frag} {h : Heap} {mg : Str → Option Value} {fa C_GlimError C_BadRound C_BadBeats f1 f2 f3 f4 f5 f6 f7 f8 f9 f10 f11 f12 f13 f14 f15 f16 f17 f18 f19 f20 f21 f22 f23 f24 f25 f26 f27 f28 f29 f30 f31 f32 f33 : Addr} (X : K.In h) (G : h.Ns mainGlobals mg) (hfa : mg "law" = some (.ref fa))
    {od1 an1 od2 an2 od3 an3 od4 an4 od5 an5 od6 an6 od7 an7 od8 an8 od9 an9 od10 an10 od11 an11 od12 an12 od13 an13 od14 an14 od15 an15 od16 an16 od17 an17 od18 an18 od19 an19 od20 an20 od21 an21 od22 an22 od23 an23 od24 an24 od25 an25 od26 an26 od27 an27 od28 an28 od29 an29 od30 an30 od31 an31 od32 an32 od33 an33 : Option Addr} {sl1 sl2 sl3 sl4 sl5 sl6 sl7 sl8 sl9 sl10 sl11 sl12 sl13 sl14 sl15 sl16 sl17 sl18 sl19 sl20 sl21 sl22 sl23 sl24 sl25 sl26 sl27 sl28 sl29 sl30 sl31 sl32 sl33 : Array (Option Value)} {oc1 kV1 dc1 pm1 cd1 ct1 oc2 kV2 dc2 pm2 cd2 ct2 oc3 kV3 dc3 pm3 cd3 ct3 oc4 kV4 dc4 pm4 cd4 ct4 oc5 kV5 dc5 pm5 cd5 ct5 oc6 kV6 dc6 pm6 cd6 ct6 oc7 kV7 dc7 pm7 cd7 ct7 oc8 kV8 dc8 pm8 cd8 ct8 oc9 kV9 dc9 pm9 cd9 ct9 oc10 kV10 dc10 pm10 cd10 ct10 oc11 kV11 dc11 pm11 cd11 ct11 oc12 kV12 dc12 pm12 cd12 ct12 oc13 kV13 dc13 pm13 cd13 ct13 oc14 kV14 dc14 pm14 cd14 ct14 oc15 kV15 dc15 pm15 cd15 ct15 oc16 kV16 dc16 pm16 cd16 ct16 oc17 kV17 dc17 pm17 cd17 ct17 oc18 kV18 dc18 pm18 cd18 ct18 oc19 kV19 dc19 pm19 cd19 ct19 oc20 kV20 dc20 pm20 cd20 ct20 oc21 kV21 dc21 pm21 cd21 ct21 oc22 kV22 dc22 pm22 cd22 ct22 oc23 kV23 dc23 pm23 cd23 ct23 oc24 kV24 dc24 pm24 cd24 ct24 oc25 kV25 dc25 pm25 cd25 ct25 oc26 kV26 dc26 pm26 cd26 ct26 oc27 kV27 dc27 pm27 cd27 ct27 oc28 kV28 dc28 pm28 cd28 ct28 oc29 kV29 dc29 pm29 cd29 ct29 oc30 kV30 dc30 pm30 cd30 ct30 oc31 kV31 dc31 pm31 cd31 ct31 oc32 kV32 dc32 pm32 cd32 ct32 oc33 kV33 dc33 pm33 cd33 ct33 : Value}
    {nm_BadBeats q_BadBeats : Str} {N_BadBeats : Addr} {bs_BadBeats bm_BadBeats : List Value} {sn_BadBeats : List Str} {sub_BadBeats : List Value} {ab_BadBeats : Bool} {col_BadBeats : Option Bool} {dd_BadBeats : Option Addr} {m0_BadBeats m1_BadBeats m2_BadBeats m3_BadBeats m5_BadBeats : Option Value}
    {nm_BadRound q_BadRound : Str} {N_BadRound : Addr} {bs_BadRound bm_BadRound : List Value} {sn_BadRound : List Str} {sub_BadRound : List Value} {ab_BadRound : Bool} {col_BadRound : Option Bool} {dd_BadRound : Option Addr} {m0_BadRound m1_BadRound m2_BadRound m3_BadRound m5_BadRound : Option Value}
    {t_SIGNS t_MOST_ROUND : Tok}
    (a1 : PySem.W.nsIn K mainGlobals "wrong_sign" = some (some (.ref f1)))
    (l1 : K.lookup f1 = some ⟨oc1, od1, .func (PySem.W.fnOf "wrong_sign" "wrong_sign" (defArgs s_wrong_sign) (defBody s_wrong_sign) (defScope s_wrong_sign) .none kV1 dc1 pm1 an1 cd1 ct1), sl1⟩)
    (c1 : PySem.W.codeIn K cd1 "wrong_sign" = true)
    (k1 : PySem.W.keepIn K (.ref f1) = true)
    (a2 : PySem.W.nsIn K mainGlobals "check_round" = some (some (.ref f2)))
    (l2 : K.lookup f2 = some ⟨oc2, od2, .func (PySem.W.fnOf "check_round" "check_round" (defArgs s_check_round) (defBody s_check_round) (defScope s_check_round) .none kV2 dc2 pm2 an2 cd2 ct2), sl2⟩)
    (c2 : PySem.W.codeIn K cd2 "check_round" = true)
    (k2 : PySem.W.keepIn K (.ref f2) = true)
    (a3 : PySem.W.nsIn K mainGlobals "shortest" = some (some (.ref f3)))
    (l3 : K.lookup f3 = some ⟨oc3, od3, .func (PySem.W.fnOf "shortest" "shortest" (defArgs s_shortest) (defBody s_shortest) (defScope s_shortest) .none kV3 dc3 pm3 an3 cd3 ct3), sl3⟩)
    (c3 : PySem.W.codeIn K cd3 "shortest" = true)
    (k3 : PySem.W.keepIn K (.ref f3) = true)
    (a4 : PySem.W.nsIn K mainGlobals "turns_of" = some (some (.ref f4)))
    (l4 : K.lookup f4 = some ⟨oc4, od4, .func (PySem.W.fnOf "turns_of" "turns_of" (defArgs s_turns_of) (defBody s_turns_of) (defScope s_turns_of) .none kV4 dc4 pm4 an4 cd4 ct4), sl4⟩)
    (c4 : PySem.W.codeIn K cd4 "turns_of" = true)
    (k4 : PySem.W.keepIn K (.ref f4) = true)
    (a5 : PySem.W.nsIn K mainGlobals "least_round" = some (some (.ref f5)))
    (l5 : K.lookup f5 = some ⟨oc5, od5, .func (PySem.W.fnOf "least_round" "least_round" (defArgs s_least_round) (defBody s_least_round) (defScope s_least_round) .none kV5 dc5 pm5 an5 cd5 ct5), sl5⟩)
    (c5 : PySem.W.codeIn K cd5 "least_round" = true)
    (k5 : PySem.W.keepIn K (.ref f5) = true)
    (a6 : PySem.W.nsIn K mainGlobals "rhythm" = some (some (.ref f6)))
    (l6 : K.lookup f6 = some ⟨oc6, od6, .func (PySem.W.fnOf "rhythm" "rhythm" (defArgs s_rhythm) (defBody s_rhythm) (defScope s_rhythm) .none kV6 dc6 pm6 an6 cd6 ct6), sl6⟩)
    (c6 : PySem.W.codeIn K cd6 "rhythm" = true)
    (k6 : PySem.W.keepIn K (.ref f6) = true)
    (a7 : PySem.W.nsIn K mainGlobals "turned" = some (some (.ref f7)))
    (l7 : K.lookup f7 = some ⟨oc7, od7, .func (PySem.W.fnOf "turned" "turned" (defArgs s_turned) (defBody s_turned) (defScope s_turned) .none kV7 dc7 pm7 an7 cd7 ct7), sl7⟩)
    (c7 : PySem.W.codeIn K cd7 "turned" = true)
    (k7 : PySem.W.keepIn K (.ref f7) = true)
    (a8 : PySem.W.nsIn K mainGlobals "alike" = some (some (.ref f8)))
    (l8 : K.lookup f8 = some ⟨oc8, od8, .func (PySem.W.fnOf "alike" "alike" (defArgs s_alike) (defBody s_alike) (defScope s_alike) .none kV8 dc8 pm8 an8 cd8 ct8), sl8⟩)
    (c8 : PySem.W.codeIn K cd8 "alike" = true)
    (k8 : PySem.W.keepIn K (.ref f8) = true)
    (a9 : PySem.W.nsIn K mainGlobals "moments" = some (some (.ref f9)))
    (l9 : K.lookup f9 = some ⟨oc9, od9, .func (PySem.W.fnOf "moments" "moments" (defArgs s_moments) (defBody s_moments) (defScope s_moments) .none kV9 dc9 pm9 an9 cd9 ct9), sl9⟩)
    (c9 : PySem.W.codeIn K cd9 "moments" = true)
    (k9 : PySem.W.keepIn K (.ref f9) = true)
    (a10 : PySem.W.nsIn K mainGlobals "_law_draw" = some (some (.ref f10)))
    (l10 : K.lookup f10 = some ⟨oc10, od10, .func (PySem.W.fnOf "_law_draw" "_law_draw" (defArgs s_L_draw) (defBody s_L_draw) (defScope s_L_draw) .none kV10 dc10 pm10 an10 cd10 ct10), sl10⟩)
    (c10 : PySem.W.codeIn K cd10 "_law_draw" = true)
    (k10 : PySem.W.keepIn K (.ref f10) = true)
    (a11 : PySem.W.nsIn K mainGlobals "_law_mix" = some (some (.ref f11)))
    (l11 : K.lookup f11 = some ⟨oc11, od11, .func (PySem.W.fnOf "_law_mix" "_law_mix" (defArgs s_L_mix) (defBody s_L_mix) (defScope s_L_mix) .none kV11 dc11 pm11 an11 cd11 ct11), sl11⟩)
    (c11 : PySem.W.codeIn K cd11 "_law_mix" = true)
    (k11 : PySem.W.keepIn K (.ref f11) = true)
    (a12 : PySem.W.nsIn K mainGlobals "_law_pick" = some (some (.ref f12)))
    (l12 : K.lookup f12 = some ⟨oc12, od12, .func (PySem.W.fnOf "_law_pick" "_law_pick" (defArgs s_L_pick) (defBody s_L_pick) (defScope s_L_pick) .none kV12 dc12 pm12 an12 cd12 ct12), sl12⟩)
    (c12 : PySem.W.codeIn K cd12 "_law_pick" = true)
    (k12 : PySem.W.keepIn K (.ref f12) = true)
    (a13 : PySem.W.nsIn K mainGlobals "_law_is_int" = some (some (.ref f13)))
    (l13 : K.lookup f13 = some ⟨oc13, od13, .func (PySem.W.fnOf "_law_is_int" "_law_is_int" (defArgs s_L_is_int) (defBody s_L_is_int) (defScope s_L_is_int) .none kV13 dc13 pm13 an13 cd13 ct13), sl13⟩)
    (c13 : PySem.W.codeIn K cd13 "_law_is_int" = true)
    (k13 : PySem.W.keepIn K (.ref f13) = true)
    (a14 : PySem.W.nsIn K mainGlobals "_law_sign" = some (some (.ref f14)))
    (l14 : K.lookup f14 = some ⟨oc14, od14, .func (PySem.W.fnOf "_law_sign" "_law_sign" (defArgs s_L_sign) (defBody s_L_sign) (defScope s_L_sign) .none kV14 dc14 pm14 an14 cd14 ct14), sl14⟩)
    (c14 : PySem.W.codeIn K cd14 "_law_sign" = true)
    (k14 : PySem.W.keepIn K (.ref f14) = true)
    (a15 : PySem.W.nsIn K mainGlobals "_law_round" = some (some (.ref f15)))
    (l15 : K.lookup f15 = some ⟨oc15, od15, .func (PySem.W.fnOf "_law_round" "_law_round" (defArgs s_L_round) (defBody s_L_round) (defScope s_L_round) .none kV15 dc15 pm15 an15 cd15 ct15), sl15⟩)
    (c15 : PySem.W.codeIn K cd15 "_law_round" = true)
    (k15 : PySem.W.keepIn K (.ref f15) = true)
    (a16 : PySem.W.nsIn K mainGlobals "_law_bent" = some (some (.ref f16)))
    (l16 : K.lookup f16 = some ⟨oc16, od16, .func (PySem.W.fnOf "_law_bent" "_law_bent" (defArgs s_L_bent) (defBody s_L_bent) (defScope s_L_bent) .none kV16 dc16 pm16 an16 cd16 ct16), sl16⟩)
    (c16 : PySem.W.codeIn K cd16 "_law_bent" = true)
    (k16 : PySem.W.keepIn K (.ref f16) = true)
    (a17 : PySem.W.nsIn K mainGlobals "_law_same_for_ever" = some (some (.ref f17)))
    (l17 : K.lookup f17 = some ⟨oc17, od17, .func (PySem.W.fnOf "_law_same_for_ever" "_law_same_for_ever" (defArgs s_L_same_for_ever) (defBody s_L_same_for_ever) (defScope s_L_same_for_ever) .none kV17 dc17 pm17 an17 cd17 ct17), sl17⟩)
    (c17 : PySem.W.codeIn K cd17 "_law_same_for_ever" = true)
    (k17 : PySem.W.keepIn K (.ref f17) = true)
    (a18 : PySem.W.nsIn K mainGlobals "_law_least" = some (some (.ref f18)))
    (l18 : K.lookup f18 = some ⟨oc18, od18, .func (PySem.W.fnOf "_law_least" "_law_least" (defArgs s_L_least) (defBody s_L_least) (defScope s_L_least) .none kV18 dc18 pm18 an18 cd18 ct18), sl18⟩)
    (c18 : PySem.W.codeIn K cd18 "_law_least" = true)
    (k18 : PySem.W.keepIn K (.ref f18) = true)
    (a19 : PySem.W.nsIn K mainGlobals "_law_later" = some (some (.ref f19)))
    (l19 : K.lookup f19 = some ⟨oc19, od19, .func (PySem.W.fnOf "_law_later" "_law_later" (defArgs s_L_later) (defBody s_L_later) (defScope s_L_later) .none kV19 dc19 pm19 an19 cd19 ct19), sl19⟩)
    (c19 : PySem.W.codeIn K cd19 "_law_later" = true)
    (k19 : PySem.W.keepIn K (.ref f19) = true)
    (a20 : PySem.W.nsIn K mainGlobals "_law_rhythm" = some (some (.ref f20)))
    (l20 : K.lookup f20 = some ⟨oc20, od20, .func (PySem.W.fnOf "_law_rhythm" "_law_rhythm" (defArgs s_L_rhythm) (defBody s_L_rhythm) (defScope s_L_rhythm) .none kV20 dc20 pm20 an20 cd20 ct20), sl20⟩)
    (c20 : PySem.W.codeIn K cd20 "_law_rhythm" = true)
    (k20 : PySem.W.keepIn K (.ref f20) = true)
    (a21 : PySem.W.nsIn K mainGlobals "_law_moments" = some (some (.ref f21)))
    (l21 : K.lookup f21 = some ⟨oc21, od21, .func (PySem.W.fnOf "_law_moments" "_law_moments" (defArgs s_L_moments) (defBody s_L_moments) (defScope s_L_moments) .none kV21 dc21 pm21 an21 cd21 ct21), sl21⟩)
    (c21 : PySem.W.codeIn K cd21 "_law_moments" = true)
    (k21 : PySem.W.keepIn K (.ref f21) = true)
    (a22 : PySem.W.nsIn K mainGlobals "_law_rounds" = some (some (.ref f22)))
    (l22 : K.lookup f22 = some ⟨oc22, od22, .func (PySem.W.fnOf "_law_rounds" "_law_rounds" (defArgs s_L_rounds) (defBody s_L_rounds) (defScope s_L_rounds) .none kV22 dc22 pm22 an22 cd22 ct22), sl22⟩)
    (c22 : PySem.W.codeIn K cd22 "_law_rounds" = true)
    (k22 : PySem.W.keepIn K (.ref f22) = true)
    (a23 : PySem.W.nsIn K mainGlobals "_law_number" = some (some (.ref f23)))
    (l23 : K.lookup f23 = some ⟨oc23, od23, .func (PySem.W.fnOf "_law_number" "_law_number" (defArgs s_L_number) (defBody s_L_number) (defScope s_L_number) .none kV23 dc23 pm23 an23 cd23 ct23), sl23⟩)
    (c23 : PySem.W.codeIn K cd23 "_law_number" = true)
    (k23 : PySem.W.keepIn K (.ref f23) = true)
    (a24 : PySem.W.nsIn K mainGlobals "_law_call" = some (some (.ref f24)))
    (l24 : K.lookup f24 = some ⟨oc24, od24, .func (PySem.W.fnOf "_law_call" "_law_call" (defArgs s_L_call) (defBody s_L_call) (defScope s_L_call) .none kV24 dc24 pm24 an24 cd24 ct24), sl24⟩)
    (c24 : PySem.W.codeIn K cd24 "_law_call" = true)
    (k24 : PySem.W.keepIn K (.ref f24) = true)
    (a25 : PySem.W.nsIn K mainGlobals "_law_told" = some (some (.ref f25)))
    (l25 : K.lookup f25 = some ⟨oc25, od25, .func (PySem.W.fnOf "_law_told" "_law_told" (defArgs s_L_told) (defBody s_L_told) (defScope s_L_told) .none kV25 dc25 pm25 an25 cd25 ct25), sl25⟩)
    (c25 : PySem.W.codeIn K cd25 "_law_told" = true)
    (k25 : PySem.W.keepIn K (.ref f25) = true)
    (a26 : PySem.W.nsIn K mainGlobals "_law_text_told" = some (some (.ref f26)))
    (l26 : K.lookup f26 = some ⟨oc26, od26, .func (PySem.W.fnOf "_law_text_told" "_law_text_told" (defArgs s_L_text_told) (defBody s_L_text_told) (defScope s_L_text_told) .none kV26 dc26 pm26 an26 cd26 ct26), sl26⟩)
    (c26 : PySem.W.codeIn K cd26 "_law_text_told" = true)
    (k26 : PySem.W.keepIn K (.ref f26) = true)
    (a27 : PySem.W.nsIn K mainGlobals "_law_pair_right" = some (some (.ref f27)))
    (l27 : K.lookup f27 = some ⟨oc27, od27, .func (PySem.W.fnOf "_law_pair_right" "_law_pair_right" (defArgs s_L_pair_right) (defBody s_L_pair_right) (defScope s_L_pair_right) .none kV27 dc27 pm27 an27 cd27 ct27), sl27⟩)
    (c27 : PySem.W.codeIn K cd27 "_law_pair_right" = true)
    (k27 : PySem.W.keepIn K (.ref f27) = true)
    (a28 : PySem.W.nsIn K mainGlobals "_law_bad_round" = some (some (.ref f28)))
    (l28 : K.lookup f28 = some ⟨oc28, od28, .func (PySem.W.fnOf "_law_bad_round" "_law_bad_round" (defArgs s_L_bad_round) (defBody s_L_bad_round) (defScope s_L_bad_round) .none kV28 dc28 pm28 an28 cd28 ct28), sl28⟩)
    (c28 : PySem.W.codeIn K cd28 "_law_bad_round" = true)
    (k28 : PySem.W.keepIn K (.ref f28) = true)
    (a29 : PySem.W.nsIn K mainGlobals "_law_refused" = some (some (.ref f29)))
    (l29 : K.lookup f29 = some ⟨oc29, od29, .func (PySem.W.fnOf "_law_refused" "_law_refused" (defArgs s_L_refused) (defBody s_L_refused) (defScope s_L_refused) .none kV29 dc29 pm29 an29 cd29 ct29), sl29⟩)
    (c29 : PySem.W.codeIn K cd29 "_law_refused" = true)
    (k29 : PySem.W.keepIn K (.ref f29) = true)
    (a30 : PySem.W.nsIn K mainGlobals "_law_refusals_right" = some (some (.ref f30)))
    (l30 : K.lookup f30 = some ⟨oc30, od30, .func (PySem.W.fnOf "_law_refusals_right" "_law_refusals_right" (defArgs s_L_refusals_right) (defBody s_L_refusals_right) (defScope s_L_refusals_right) .none kV30 dc30 pm30 an30 cd30 ct30), sl30⟩)
    (c30 : PySem.W.codeIn K cd30 "_law_refusals_right" = true)
    (k30 : PySem.W.keepIn K (.ref f30) = true)
    (a31 : PySem.W.nsIn K mainGlobals "law" = some (some (.ref f31)))
    (l31 : K.lookup f31 = some ⟨oc31, od31, .func (PySem.W.fnOf "law" "law" (defArgs s_law) (defBody s_law) (defScope s_law) .none kV31 dc31 pm31 an31 cd31 ct31), sl31⟩)
    (c31 : PySem.W.codeIn K cd31 "law" = true)
    (k31 : PySem.W.keepIn K (.ref f31) = true)
    (z_ValueError : PySem.W.nsIn K mainGlobals "ValueError" = some none)
    (z_abs : PySem.W.nsIn K mainGlobals "abs" = some none)
    (z_all : PySem.W.nsIn K mainGlobals "all" = some none)
    (z_bool : PySem.W.nsIn K mainGlobals "bool" = some none)
    (z_enumerate : PySem.W.nsIn K mainGlobals "enumerate" = some none)
    (z_int : PySem.W.nsIn K mainGlobals "int" = some none)
    (z_isinstance : PySem.W.nsIn K mainGlobals "isinstance" = some none)
    (z_len : PySem.W.nsIn K mainGlobals "len" = some none)
    (z_min : PySem.W.nsIn K mainGlobals "min" = some none)
    (z_range : PySem.W.nsIn K mainGlobals "range" = some none)
    (z_sorted : PySem.W.nsIn K mainGlobals "sorted" = some none)
    (z_str : PySem.W.nsIn K mainGlobals "str" = some none)
    (z_sum : PySem.W.nsIn K mainGlobals "sum" = some none)
    (z_tuple : PySem.W.nsIn K mainGlobals "tuple" = some none)
    (v_SIGNS : PySem.W.nsIn K mainGlobals "SIGNS" = some (some (.str ".grw" t_SIGNS)))
    (v_MOST_ROUND : PySem.W.nsIn K mainGlobals "MOST_ROUND" = some (some (.int 24 t_MOST_ROUND)))
    (g_GlimError : PySem.W.nsIn K mainGlobals "GlimError" = some (some (.ref C_GlimError)))
    (g_BadRound : PySem.W.nsIn K mainGlobals "BadRound" = some (some (.ref C_BadRound)))
    (g_BadBeats : PySem.W.nsIn K mainGlobals "BadBeats" = some (some (.ref C_BadBeats)))
    (xl_BadRound : K.lookup C_BadRound = some (excClassObj nm_BadRound q_BadRound C_BadRound N_BadRound bs_BadRound bm_BadRound true sn_BadRound sub_BadRound ab_BadRound col_BadRound dd_BadRound m0_BadRound m1_BadRound m2_BadRound m3_BadRound m5_BadRound "ValueError.__new__"))
    (xr_BadRound : PySem.HandSPX.refsVE bm_BadRound = true)
    (xsa_BadRound : PySem.W.findIn K (.ref C_BadRound) "__setattr__" = some (some (.builtin "object.__setattr__")))
    (xga_BadRound : PySem.W.findIn K (.ref C_BadRound) "__getattribute__" = some (some (.builtin "BaseException.__getattribute__")))
    (xgg_BadRound : PySem.W.findIn K (.ref C_BadRound) "__getattr__" = some none)
    (xnf_BadRound : PySem.W.findIn K (.ref C_BadRound) "number" = some none)
    (xi_BadRound : PySem.W.findIn K (.ref C_BadRound) "__init__" = some (some (.ref f32)))
    (xt_BadRound : PySem.W.typeIn K (.ref f32) = some (.type "function"))
    (xf_BadRound : K.lookup f32 = some ⟨oc32, od32, .func (PySem.W.fnOf "__init__" "BadRound.__init__" (defArgs s_BadRound) (defBody s_BadRound) (defScope s_BadRound) .none kV32 dc32 pm32 an32 cd32 ct32), sl32⟩)
    (xc_BadRound : PySem.W.codeIn K cd32 "BadRound.__init__" = true)
    (xkf_BadRound : PySem.W.keepIn K (.ref f32) = true)
    (xk_BadRound : PySem.W.keepIn K (.ref C_BadRound) = true)
    (xe_BadRound : PySem.W.subIn K (.ref C_BadRound) (.type "BaseException") = some true)
    (xty_BadRound : PySem.W.typeIn K (.ref C_BadRound) = some (.type "type"))
    (xhd_BadRound : PySem.W.hasDictIn K C_BadRound = true)
    (xis_BadRound : PySem.W.isClsIn K C_BadRound = true)
    (xca_BadRound : PySem.W.findIn K (.ref C_BadRound) "__class__" = some (some (.builtin "object.__class__")))
    (xm_BadRound : PySem.W.mroIn K C_BadRound (.type "object") = some true)
    (xl_BadBeats : K.lookup C_BadBeats = some (excClassObj nm_BadBeats q_BadBeats C_BadBeats N_BadBeats bs_BadBeats bm_BadBeats true sn_BadBeats sub_BadBeats ab_BadBeats col_BadBeats dd_BadBeats m0_BadBeats m1_BadBeats m2_BadBeats m3_BadBeats m5_BadBeats "ValueError.__new__"))
    (xr_BadBeats : PySem.HandSPX.refsVE bm_BadBeats = true)
    (xsa_BadBeats : PySem.W.findIn K (.ref C_BadBeats) "__setattr__" = some (some (.builtin "object.__setattr__")))
    (xga_BadBeats : PySem.W.findIn K (.ref C_BadBeats) "__getattribute__" = some (some (.builtin "BaseException.__getattribute__")))
    (xgg_BadBeats : PySem.W.findIn K (.ref C_BadBeats) "__getattr__" = some none)
    (xnf_BadBeats : PySem.W.findIn K (.ref C_BadBeats) "beats" = some none)
    (xi_BadBeats : PySem.W.findIn K (.ref C_BadBeats) "__init__" = some (some (.ref f33)))
    (xt_BadBeats : PySem.W.typeIn K (.ref f33) = some (.type "function"))
    (xf_BadBeats : K.lookup f33 = some ⟨oc33, od33, .func (PySem.W.fnOf "__init__" "BadBeats.__init__" (defArgs s_BadBeats) (defBody s_BadBeats) (defScope s_BadBeats) .none kV33 dc33 pm33 an33 cd33 ct33), sl33⟩)
    (xc_BadBeats : PySem.W.codeIn K cd33 "BadBeats.__init__" = true)
    (xkf_BadBeats : PySem.W.keepIn K (.ref f33) = true)
    (xk_BadBeats : PySem.W.keepIn K (.ref C_BadBeats) = true)
    (xe_BadBeats : PySem.W.subIn K (.ref C_BadBeats) (.type "BaseException") = some true)
    (xty_BadBeats : PySem.W.typeIn K (.ref C_BadBeats) = some (.type "type"))
    (xhd_BadBeats : PySem.W.hasDictIn K C_BadBeats = true)
    (xis_BadBeats : PySem.W.isClsIn K C_BadBeats = true)
    (xca_BadBeats : PySem.W.findIn K (.ref C_BadBeats) "__class__" = some (some (.builtin "object.__class__")))
    (xm_BadBeats : PySem.W.mroIn K C_BadBeats (.type "object") = some true)
    (xsp : PySem.W.specialIn K (.builtin "object.__class__") "__get__" = some (some (.builtin "getset_descriptor.__get__")))
    (xtk : PySem.W.takesIn K (.builtin "object.__class__") = some true)
    (qi_BadBeats : PySem.W.isClsIn K C_BadBeats = true)
    (qt_BadBeats : PySem.W.typeIn K (.ref C_BadBeats) = some (.type "type"))
    (qs_BadBeats : PySem.W.subIn K (.ref C_BadBeats) (.ref C_BadBeats) = some true)
    (qb_BadBeats : PySem.W.subIn K (.ref C_BadBeats) (.type "BaseException") = some true)
    (qi_BadRound : PySem.W.isClsIn K C_BadRound = true)
    (qt_BadRound : PySem.W.typeIn K (.ref C_BadRound) = some (.type "type"))
    (qs_BadRound : PySem.W.subIn K (.ref C_BadRound) (.ref C_BadRound) = some true)
    (qb_BadRound : PySem.W.subIn K (.ref C_BadRound) (.type "BaseException") = some true)
    (qi_GlimError : PySem.W.isClsIn K C_GlimError = true)
    (qt_GlimError : PySem.W.typeIn K (.ref C_GlimError) = some (.type "type"))
    (qs_GlimError : PySem.W.subIn K (.ref C_GlimError) (.ref C_GlimError) = some true)
    (qb_GlimError : PySem.W.subIn K (.ref C_GlimError) (.type "BaseException") = some true)
    (y_BadRound_BadRound : PySem.W.subIn K (.ref C_BadRound) (.ref C_BadRound) = some true)
    (y_BadRound_BadBeats : PySem.W.subIn K (.ref C_BadRound) (.ref C_BadBeats) = some false)
    (y_BadRound_ValueError : PySem.W.subIn K (.ref C_BadRound) (.type "ValueError") = some true)
    (y_BadBeats_BadRound : PySem.W.subIn K (.ref C_BadBeats) (.ref C_BadRound) = some false)
    (y_BadBeats_BadBeats : PySem.W.subIn K (.ref C_BadBeats) (.ref C_BadBeats) = some true)
    (y_BadBeats_ValueError : PySem.W.subIn K (.ref C_BadBeats) (.type "ValueError") = some true)
    (x_BadRound_GlimError : PySem.W.subIn K (.ref C_BadRound) (.ref C_GlimError) = some true)
    (x_BadBeats_GlimError : PySem.W.subIn K (.ref C_BadBeats) (.ref C_GlimError) = some true)
    : ∃ fd : FuncData, (∀ (s : Shared) (v : Value), BindsTo s fd ⟨[v], []⟩ [("_law_script", v)]) ∧ ∀ base : Heap, K.In base → base.Ns mainGlobals mg → FnOk l.prog w K mg base CX0 8 fa fd ["_law_script"] (sp1 (p_law K)) := by
  have e := hfa.symm.trans (PySem.W.mg_of X G a31)
  cases e
  have F1 := fun_mk (st := s_wrong_sign) l1 c1 k1
  have F2 := fun_mk (st := s_check_round) l2 c2 k2
  have F3 := fun_mk (st := s_shortest) l3 c3 k3
  have F4 := fun_mk (st := s_turns_of) l4 c4 k4
  have F5 := fun_mk (st := s_least_round) l5 c5 k5
  have F6 := fun_mk (st := s_rhythm) l6 c6 k6
  have F7 := fun_mk (st := s_turned) l7 c7 k7
  have F8 := fun_mk (st := s_alike) l8 c8 k8
  have F9 := fun_mk (st := s_moments) l9 c9 k9
  have F10 := fun_mk (st := s_L_draw) l10 c10 k10
  have F11 := fun_mk (st := s_L_mix) l11 c11 k11
  have F12 := fun_mk (st := s_L_pick) l12 c12 k12
  have F13 := fun_mk (st := s_L_is_int) l13 c13 k13
  have F14 := fun_mk (st := s_L_sign) l14 c14 k14
  have F15 := fun_mk (st := s_L_round) l15 c15 k15
  have F16 := fun_mk (st := s_L_bent) l16 c16 k16
  have F17 := fun_mk (st := s_L_same_for_ever) l17 c17 k17
  have F18 := fun_mk (st := s_L_least) l18 c18 k18
  have F19 := fun_mk (st := s_L_later) l19 c19 k19
  have F20 := fun_mk (st := s_L_rhythm) l20 c20 k20
  have F21 := fun_mk (st := s_L_moments) l21 c21 k21
  have F22 := fun_mk (st := s_L_rounds) l22 c22 k22
  have F23 := fun_mk (st := s_L_number) l23 c23 k23
  have F24 := fun_mk (st := s_L_call) l24 c24 k24
  have F25 := fun_mk (st := s_L_told) l25 c25 k25
  have F26 := fun_mk (st := s_L_text_told) l26 c26 k26
  have F27 := fun_mk (st := s_L_pair_right) l27 c27 k27
  have F28 := fun_mk (st := s_L_bad_round) l28 c28 k28
  have F29 := fun_mk (st := s_L_refused) l29 c29 k29
  have F30 := fun_mk (st := s_L_refusals_right) l30 c30 k30
  have F31 := fun_mk (st := s_law) l31 c31 k31
  have F32 := fun_mk (st := s_BadRound) xf_BadRound xc_BadRound xkf_BadRound
  have F33 := fun_mk (st := s_BadBeats) xf_BadBeats xc_BadBeats xkf_BadBeats
  have T : Txt K mg C_GlimError C_BadRound C_BadBeats := {
    d_wrong_sign := ⟨_, _, F1, PySem.W.mg_of X G a1, (F1.binds (ps := ["row"]) fun _ _ _ _ _ _ us hl => match us, hl with | [_], _ => rfl)⟩
    d_check_round := ⟨_, _, F2, PySem.W.mg_of X G a2, (F2.binds (ps := ["thing"]) fun _ _ _ _ _ _ us hl => match us, hl with | [_], _ => rfl)⟩
    d_shortest := ⟨_, _, F3, PySem.W.mg_of X G a3, (F3.binds (ps := ["row"]) fun _ _ _ _ _ _ us hl => match us, hl with | [_], _ => rfl)⟩
    d_turns_of := ⟨_, _, F4, PySem.W.mg_of X G a4, (F4.binds (ps := ["row"]) fun _ _ _ _ _ _ us hl => match us, hl with | [_], _ => rfl)⟩
    d_least_round := ⟨_, _, F5, PySem.W.mg_of X G a5, (F5.binds (ps := ["row"]) fun _ _ _ _ _ _ us hl => match us, hl with | [_], _ => rfl)⟩
    d_rhythm := ⟨_, _, F6, PySem.W.mg_of X G a6, (F6.binds (ps := ["row"]) fun _ _ _ _ _ _ us hl => match us, hl with | [_], _ => rfl)⟩
    d_turned := ⟨_, _, F7, PySem.W.mg_of X G a7, (F7.binds (ps := ["row", "beats"]) fun _ _ _ _ _ _ us hl => match us, hl with | [_, _], _ => rfl)⟩
    d_alike := ⟨_, _, F8, PySem.W.mg_of X G a8, (F8.binds (ps := ["first", "second"]) fun _ _ _ _ _ _ us hl => match us, hl with | [_, _], _ => rfl)⟩
    d_moments := ⟨_, _, F9, PySem.W.mg_of X G a9, (F9.binds (ps := ["first", "second"]) fun _ _ _ _ _ _ us hl => match us, hl with | [_, _], _ => rfl)⟩
    d_L_draw := ⟨_, _, F10, PySem.W.mg_of X G a10, (F10.binds (ps := ["_law_script"]) fun _ _ _ _ _ _ us hl => match us, hl with | [_], _ => rfl)⟩
    d_L_mix := ⟨_, _, F11, PySem.W.mg_of X G a11, (F11.binds (ps := ["_law_cell", "_law_turn"]) fun _ _ _ _ _ _ us hl => match us, hl with | [_, _], _ => rfl)⟩
    d_L_pick := ⟨_, _, F12, PySem.W.mg_of X G a12, (F12.binds (ps := ["_law_draw_here", "_law_many"]) fun _ _ _ _ _ _ us hl => match us, hl with | [_, _], _ => rfl)⟩
    d_L_is_int := ⟨_, _, F13, PySem.W.mg_of X G a13, (F13.binds (ps := ["_law_thing"]) fun _ _ _ _ _ _ us hl => match us, hl with | [_], _ => rfl)⟩
    d_L_sign := ⟨_, _, F14, PySem.W.mg_of X G a14, (F14.binds (ps := ["_law_draw_here"]) fun _ _ _ _ _ _ us hl => match us, hl with | [_], _ => rfl)⟩
    d_L_round := ⟨_, _, F15, PySem.W.mg_of X G a15, (F15.binds (ps := ["_law_draw_here", "_law_most"]) fun _ _ _ _ _ _ us hl => match us, hl with | [_, _], _ => rfl)⟩
    d_L_bent := ⟨_, _, F16, PySem.W.mg_of X G a16, (F16.binds (ps := ["_law_draw_here", "_law_row"]) fun _ _ _ _ _ _ us hl => match us, hl with | [_, _], _ => rfl)⟩
    d_L_same_for_ever := ⟨_, _, F17, PySem.W.mg_of X G a17, (F17.binds (ps := ["_law_first", "_law_second"]) fun _ _ _ _ _ _ us hl => match us, hl with | [_, _], _ => rfl)⟩
    d_L_least := ⟨_, _, F18, PySem.W.mg_of X G a18, (F18.binds (ps := ["_law_row"]) fun _ _ _ _ _ _ us hl => match us, hl with | [_], _ => rfl)⟩
    d_L_later := ⟨_, _, F19, PySem.W.mg_of X G a19, (F19.binds (ps := ["_law_row", "_law_many"]) fun _ _ _ _ _ _ us hl => match us, hl with | [_, _], _ => rfl)⟩
    d_L_rhythm := ⟨_, _, F20, PySem.W.mg_of X G a20, (F20.binds (ps := ["_law_row"]) fun _ _ _ _ _ _ us hl => match us, hl with | [_], _ => rfl)⟩
    d_L_moments := ⟨_, _, F21, PySem.W.mg_of X G a21, (F21.binds (ps := ["_law_first", "_law_second"]) fun _ _ _ _ _ _ us hl => match us, hl with | [_, _], _ => rfl)⟩
    d_L_rounds := ⟨_, _, F22, PySem.W.mg_of X G a22, (F22.binds (ps := ["_law_draw_here"]) fun _ _ _ _ _ _ us hl => match us, hl with | [_], _ => rfl)⟩
    d_L_number := ⟨_, _, F23, PySem.W.mg_of X G a23, (F23.binds (ps := ["_law_draw_here"]) fun _ _ _ _ _ _ us hl => match us, hl with | [_], _ => rfl)⟩
    d_L_call := ⟨_, _, F24, PySem.W.mg_of X G a24, (F24.binds (ps := ["_law_kind", "_law_first", "_law_second"]) fun _ _ _ _ _ _ us hl => match us, hl with | [_, _, _], _ => rfl)⟩
    d_L_told := ⟨_, _, F25, PySem.W.mg_of X G a25, (F25.binds (ps := ["_law_kind", "_law_first", "_law_second"]) fun _ _ _ _ _ _ us hl => match us, hl with | [_, _, _], _ => rfl)⟩
    d_L_text_told := ⟨_, _, F26, PySem.W.mg_of X G a26, (F26.binds (ps := ["_law_told_here", "_law_due"]) fun _ _ _ _ _ _ us hl => match us, hl with | [_, _], _ => rfl)⟩
    d_L_pair_right := ⟨_, _, F27, PySem.W.mg_of X G a27, (F27.binds (ps := ["_law_first", "_law_second", "_law_many"]) fun _ _ _ _ _ _ us hl => match us, hl with | [_, _, _], _ => rfl)⟩
    d_L_bad_round := ⟨_, _, F28, PySem.W.mg_of X G a28, (F28.binds (ps := ["_law_draw_here", "_law_row"]) fun _ _ _ _ _ _ us hl => match us, hl with | [_, _], _ => rfl)⟩
    d_L_refused := ⟨_, _, F29, PySem.W.mg_of X G a29, (F29.binds (ps := ["_law_told_here", "_law_word", "_law_due"]) fun _ _ _ _ _ _ us hl => match us, hl with | [_, _, _], _ => rfl)⟩
    d_L_refusals_right := ⟨_, _, F30, PySem.W.mg_of X G a30, (F30.binds (ps := ["_law_draw_here", "_law_first", "_law_second"]) fun _ _ _ _ _ _ us hl => match us, hl with | [_, _, _], _ => rfl)⟩
    d_law := ⟨_, _, F31, PySem.W.mg_of X G a31, (F31.binds (ps := ["_law_script"]) fun _ _ _ _ _ _ us hl => match us, hl with | [_], _ => rfl)⟩
    b_ValueError := PySem.W.mg_none_of X G z_ValueError
    b_abs := PySem.W.mg_none_of X G z_abs
    b_all := PySem.W.mg_none_of X G z_all
    b_bool := PySem.W.mg_none_of X G z_bool
    b_enumerate := PySem.W.mg_none_of X G z_enumerate
    b_int := PySem.W.mg_none_of X G z_int
    b_isinstance := PySem.W.mg_none_of X G z_isinstance
    b_len := PySem.W.mg_none_of X G z_len
    b_min := PySem.W.mg_none_of X G z_min
    b_range := PySem.W.mg_none_of X G z_range
    b_sorted := PySem.W.mg_none_of X G z_sorted
    b_str := PySem.W.mg_none_of X G z_str
    b_sum := PySem.W.mg_none_of X G z_sum
    b_tuple := PySem.W.mg_none_of X G z_tuple
    g_SIGNS := ⟨t_SIGNS, (PySem.W.mg_of X G v_SIGNS).trans (congrArg some (congrArg (fun z => Value.str z t_SIGNS) (by decide +kernel : (".grw" : Str) = ⟨([46, 103, 114, 119] : List Nat).toArray⟩)))⟩
    g_MOST_ROUND := ⟨t_MOST_ROUND, PySem.W.mg_of X G v_MOST_ROUND⟩
    c_GlimError := PySem.W.mg_of X G g_GlimError
    c_BadRound := PySem.W.mg_of X G g_BadRound
    c_BadBeats := PySem.W.mg_of X G g_BadBeats
    o_BadRound := ⟨⟨nm_BadRound, q_BadRound, N_BadRound, bs_BadRound, bm_BadRound, sn_BadRound, sub_BadRound, ab_BadRound, col_BadRound, dd_BadRound, m0_BadRound, m1_BadRound, m2_BadRound, m3_BadRound, m5_BadRound, xl_BadRound, xr_BadRound⟩, xsa_BadRound, xe_BadRound, xty_BadRound, xk_BadRound⟩
    nf_BadRound := xnf_BadRound
    i_BadRound := ⟨f32, _, xi_BadRound, xt_BadRound, F32, (F32.binds (ps := ["self", "number"]) fun _ _ _ _ _ _ us hl => match us, hl with | [_, _], _ => rfl)⟩
    e_BadRound := ⟨xis_BadRound, xga_BadRound, xgg_BadRound, xe_BadRound, xhd_BadRound, xca_BadRound, xsp, xtk, xm_BadRound⟩
    o_BadBeats := ⟨⟨nm_BadBeats, q_BadBeats, N_BadBeats, bs_BadBeats, bm_BadBeats, sn_BadBeats, sub_BadBeats, ab_BadBeats, col_BadBeats, dd_BadBeats, m0_BadBeats, m1_BadBeats, m2_BadBeats, m3_BadBeats, m5_BadBeats, xl_BadBeats, xr_BadBeats⟩, xsa_BadBeats, xe_BadBeats, xty_BadBeats, xk_BadBeats⟩
    nf_BadBeats := xnf_BadBeats
    i_BadBeats := ⟨f33, _, xi_BadBeats, xt_BadBeats, F33, (F33.binds (ps := ["self", "beats"]) fun _ _ _ _ _ _ us hl => match us, hl with | [_, _], _ => rfl)⟩
    e_BadBeats := ⟨xis_BadBeats, xga_BadBeats, xgg_BadBeats, xe_BadBeats, xhd_BadBeats, xca_BadBeats, xsp, xtk, xm_BadBeats⟩
    k_BadRound_BadRound := Fg.kit_ref qi_BadRound qt_BadRound qs_BadRound y_BadRound_BadRound
    k_BadRound_BadBeats := Fg.kit_ref qi_BadBeats qt_BadBeats qs_BadBeats y_BadRound_BadBeats
    k_BadRound_ValueError := Fg.kit_base (by decide +kernel) y_BadRound_ValueError
    k_BadBeats_BadRound := Fg.kit_ref qi_BadRound qt_BadRound qs_BadRound y_BadBeats_BadRound
    k_BadBeats_BadBeats := Fg.kit_ref qi_BadBeats qt_BadBeats qs_BadBeats y_BadBeats_BadBeats
    k_BadBeats_ValueError := Fg.kit_base (by decide +kernel) y_BadBeats_ValueError
    m_BadRound_GlimError := Fg.exm_ref qi_GlimError qt_GlimError qb_GlimError x_BadRound_GlimError
    m_BadBeats_GlimError := Fg.exm_ref qi_GlimError qt_GlimError qb_GlimError x_BadBeats_GlimError }
  refine ⟨PySem.W.fnOf "law" "law" (defArgs s_law) (defBody s_law) (defScope s_law) .none kV31 dc31 pm31 an31 cd31 ct31, fun s v => .of_eq rfl, fun base _ _ => ?_⟩
  exact ok_law_at F31 T
end K07
open PySem PySem.W PyProof.Rows
set_option maxRecDepth 100000 in
set_option maxHeartbeats 0 in
theorem PySem.Challenge.cw_falseglim_k07_rounds_for_ever_holds : PySem.Challenge.rw_falseglim_k07_rounds_for_ever.Holds := by
  w_on; o_law; k_head; (case hw => w_witness2)
  k_fill
  refine L2.walk_of (l := PySem.Challenge.rw_falseglim_k07_rounds_for_ever) (n := 63) (k := 8) (x := "_law_script") (CX := fun _ => L2.CX0) (sp := fun w => Fg.sp1 (K07.p_law _)) rfl (by decide) rfl ⟨rfl, by decide, by decide⟩ (fun w h Y => PySem.W.kIn_of Y) ?F (fun _ _ a ns hl _ hS => ⟨.ref a, rfl, a, ns, rfl, hS, hl, fun _ => rfl⟩) (fun _ _ _ _ _ h => h)
  case F =>
    intro w mg fa h KX G hmg
    refine' K07.all_mk KX G hmg ?a1 ?l1 ?c1 ?k1 ?a2 ?l2 ?c2 ?k2 ?a3 ?l3 ?c3 ?k3 ?a4 ?l4 ?c4 ?k4 ?a5 ?l5 ?c5 ?k5 ?a6 ?l6 ?c6 ?k6 ?a7 ?l7 ?c7 ?k7 ?a8 ?l8 ?c8 ?k8 ?a9 ?l9 ?c9 ?k9 ?a10 ?l10 ?c10 ?k10 ?a11 ?l11 ?c11 ?k11 ?a12 ?l12 ?c12 ?k12 ?a13 ?l13 ?c13 ?k13 ?a14 ?l14 ?c14 ?k14 ?a15 ?l15 ?c15 ?k15 ?a16 ?l16 ?c16 ?k16 ?a17 ?l17 ?c17 ?k17 ?a18 ?l18 ?c18 ?k18 ?a19 ?l19 ?c19 ?k19 ?a20 ?l20 ?c20 ?k20 ?a21 ?l21 ?c21 ?k21 ?a22 ?l22 ?c22 ?k22 ?a23 ?l23 ?c23 ?k23 ?a24 ?l24 ?c24 ?k24 ?a25 ?l25 ?c25 ?k25 ?a26 ?l26 ?c26 ?k26 ?a27 ?l27 ?c27 ?k27 ?a28 ?l28 ?c28 ?k28 ?a29 ?l29 ?c29 ?k29 ?a30 ?l30 ?c30 ?k30 ?a31 ?l31 ?c31 ?k31 ?z_ValueError ?z_abs ?z_all ?z_bool ?z_enumerate ?z_int ?z_isinstance ?z_len ?z_min ?z_range ?z_sorted ?z_str ?z_sum ?z_tuple ?v_SIGNS ?v_MOST_ROUND ?g_GlimError ?g_BadRound ?g_BadBeats ?xl_BadRound ?xr_BadRound ?xsa_BadRound ?xga_BadRound ?xgg_BadRound ?xnf_BadRound ?xi_BadRound ?xt_BadRound ?xf_BadRound ?xc_BadRound ?xkf_BadRound ?xk_BadRound ?xe_BadRound ?xty_BadRound ?xhd_BadRound ?xis_BadRound ?xca_BadRound ?xm_BadRound ?xl_BadBeats ?xr_BadBeats ?xsa_BadBeats ?xga_BadBeats ?xgg_BadBeats ?xnf_BadBeats ?xi_BadBeats ?xt_BadBeats ?xf_BadBeats ?xc_BadBeats ?xkf_BadBeats ?xk_BadBeats ?xe_BadBeats ?xty_BadBeats ?xhd_BadBeats ?xis_BadBeats ?xca_BadBeats ?xm_BadBeats ?xsp ?xtk ?qi_BadBeats ?qt_BadBeats ?qs_BadBeats ?qb_BadBeats ?qi_BadRound ?qt_BadRound ?qs_BadRound ?qb_BadRound ?qi_GlimError ?qt_GlimError ?qs_GlimError ?qb_GlimError ?y_BadRound_BadRound ?y_BadRound_BadBeats ?y_BadRound_ValueError ?y_BadBeats_BadRound ?y_BadBeats_BadBeats ?y_BadBeats_ValueError ?x_BadRound_GlimError ?x_BadBeats_GlimError
    (case a1 => k_is)
    (case l1 => k_is)
    (case c1 => k_is)
    (case k1 => k_is)
    (case a2 => k_is)
    (case l2 => k_is)
    (case c2 => k_is)
    (case k2 => k_is)
    (case a3 => k_is)
    (case l3 => k_is)
    (case c3 => k_is)
    (case k3 => k_is)
    (case a4 => k_is)
    (case l4 => k_is)
    (case c4 => k_is)
    (case k4 => k_is)
    (case a5 => k_is)
    (case l5 => k_is)
    (case c5 => k_is)
    (case k5 => k_is)
    (case a6 => k_is)
    (case l6 => k_is)
    (case c6 => k_is)
    (case k6 => k_is)
    (case a7 => k_is)
    (case l7 => k_is)
    (case c7 => k_is)
    (case k7 => k_is)
    (case a8 => k_is)
    (case l8 => k_is)
    (case c8 => k_is)
    (case k8 => k_is)
    (case a9 => k_is)
    (case l9 => k_is)
    (case c9 => k_is)
    (case k9 => k_is)
    (case a10 => k_is)
    (case l10 => k_is)
    (case c10 => k_is)
    (case k10 => k_is)
    (case a11 => k_is)
    (case l11 => k_is)
    (case c11 => k_is)
    (case k11 => k_is)
    (case a12 => k_is)
    (case l12 => k_is)
    (case c12 => k_is)
    (case k12 => k_is)
    (case a13 => k_is)
    (case l13 => k_is)
    (case c13 => k_is)
    (case k13 => k_is)
    (case a14 => k_is)
    (case l14 => k_is)
    (case c14 => k_is)
    (case k14 => k_is)
    (case a15 => k_is)
    (case l15 => k_is)
    (case c15 => k_is)
    (case k15 => k_is)
    (case a16 => k_is)
    (case l16 => k_is)
    (case c16 => k_is)
    (case k16 => k_is)
    (case a17 => k_is)
    (case l17 => k_is)
    (case c17 => k_is)
    (case k17 => k_is)
    (case a18 => k_is)
    (case l18 => k_is)
    (case c18 => k_is)
    (case k18 => k_is)
    (case a19 => k_is)
    (case l19 => k_is)
    (case c19 => k_is)
    (case k19 => k_is)
    (case a20 => k_is)
    (case l20 => k_is)
    (case c20 => k_is)
    (case k20 => k_is)
    (case a21 => k_is)
    (case l21 => k_is)
    (case c21 => k_is)
    (case k21 => k_is)
    (case a22 => k_is)
    (case l22 => k_is)
    (case c22 => k_is)
    (case k22 => k_is)
    (case a23 => k_is)
    (case l23 => k_is)
    (case c23 => k_is)
    (case k23 => k_is)
    (case a24 => k_is)
    (case l24 => k_is)
    (case c24 => k_is)
    (case k24 => k_is)
    (case a25 => k_is)
    (case l25 => k_is)
    (case c25 => k_is)
    (case k25 => k_is)
    (case a26 => k_is)
    (case l26 => k_is)
    (case c26 => k_is)
    (case k26 => k_is)
    (case a27 => k_is)
    (case l27 => k_is)
    (case c27 => k_is)
    (case k27 => k_is)
    (case a28 => k_is)
    (case l28 => k_is)
    (case c28 => k_is)
    (case k28 => k_is)
    (case a29 => k_is)
    (case l29 => k_is)
    (case c29 => k_is)
    (case k29 => k_is)
    (case a30 => k_is)
    (case l30 => k_is)
    (case c30 => k_is)
    (case k30 => k_is)
    (case a31 => k_is)
    (case l31 => k_is)
    (case c31 => k_is)
    (case k31 => k_is)
    (case z_ValueError => k_is)
    (case z_abs => k_is)
    (case z_all => k_is)
    (case z_bool => k_is)
    (case z_enumerate => k_is)
    (case z_int => k_is)
    (case z_isinstance => k_is)
    (case z_len => k_is)
    (case z_min => k_is)
    (case z_range => k_is)
    (case z_sorted => k_is)
    (case z_str => k_is)
    (case z_sum => k_is)
    (case z_tuple => k_is)
    (case v_SIGNS => k_is)
    (case v_MOST_ROUND => k_is)
    (case g_GlimError => k_is)
    (case g_BadRound => k_is)
    (case g_BadBeats => k_is)
    (case xl_BadRound => k_is)
    (case xr_BadRound => first | rfl | k_is | decide +kernel)
    (case xsa_BadRound => k_is)
    (case xga_BadRound => k_is)
    (case xgg_BadRound => k_is)
    (case xnf_BadRound => k_is)
    (case xi_BadRound => k_is)
    (case xt_BadRound => k_is)
    (case xf_BadRound => k_is)
    (case xc_BadRound => k_is)
    (case xkf_BadRound => k_is)
    (case xk_BadRound => k_is)
    (case xe_BadRound => k_is)
    (case xty_BadRound => k_is)
    (case xhd_BadRound => k_is)
    (case xis_BadRound => k_is)
    (case xca_BadRound => k_is)
    (case xm_BadRound => k_is)
    (case xl_BadBeats => k_is)
    (case xr_BadBeats => first | rfl | k_is | decide +kernel)
    (case xsa_BadBeats => k_is)
    (case xga_BadBeats => k_is)
    (case xgg_BadBeats => k_is)
    (case xnf_BadBeats => k_is)
    (case xi_BadBeats => k_is)
    (case xt_BadBeats => k_is)
    (case xf_BadBeats => k_is)
    (case xc_BadBeats => k_is)
    (case xkf_BadBeats => k_is)
    (case xk_BadBeats => k_is)
    (case xe_BadBeats => k_is)
    (case xty_BadBeats => k_is)
    (case xhd_BadBeats => k_is)
    (case xis_BadBeats => k_is)
    (case xca_BadBeats => k_is)
    (case xm_BadBeats => k_is)
    (case xsp => k_is)
    (case xtk => k_is)
    (case qi_BadBeats => k_is)
    (case qt_BadBeats => k_is)
    (case qs_BadBeats => k_is)
    (case qb_BadBeats => k_is)
    (case qi_BadRound => k_is)
    (case qt_BadRound => k_is)
    (case qs_BadRound => k_is)
    (case qb_BadRound => k_is)
    (case qi_GlimError => k_is)
    (case qt_GlimError => k_is)
    (case qs_GlimError => k_is)
    (case qb_GlimError => k_is)
    (case y_BadRound_BadRound => k_is)
    (case y_BadRound_BadBeats => k_is)
    (case y_BadRound_ValueError => k_is)
    (case y_BadBeats_BadRound => k_is)
    (case y_BadBeats_BadBeats => k_is)
    (case y_BadBeats_ValueError => k_is)
    (case x_BadRound_GlimError => k_is)
    (case x_BadBeats_GlimError => k_is)
