import PyProof.Rows.All
import Wide.All
import OpenK.AllK
import Wide.FinOn
import HandS.ForMost
import HandS.Exc
import HandS.ExcOwn
import HandS.WordsExc
import HandS.TryOnly
import HandS.ExcInit
import HandS.ExcField
import HandS.ExcIs
import HandS.IsInst
import HandS.TryMany
import HandS.Wide
import HandS.Steps
import HandS.TupAny
import HandS.Walk
import HandS.Evl
import KE.GoesEnum
import KE.KExcIs
import HandS.Conv
import HandS.TupLe
import HandS.SortKw
import KE.KMinKey
import PySem.Challenge.RW_falseglim_k06_whole_shortest_text
set_option Elab.async false
set_option linter.all false
set_option maxRecDepth 100000
set_option maxHeartbeats 4000000
/-! Rules that ask nothing of the kinds: one rule for each sign of Python, its reading told by the values. -/
namespace Fg
open PySem PySem.Spec PyProof.Rows L2

/-- a text by its signs -/
def S (l : List Nat) : V := .str ⟨l.toArray⟩
theorem S_inj {l m : List Nat} : S l = S m ↔ l = m := by
  constructor
  · intro h
    have h1 := V.str.inj h
    have h2 := congrArg PySem.Str.cps h1
    exact List.toArray_inj h2
  · rintro rfl; rfl
theorem S_dec {l m : List Nat} : decide (S l = S m) = decide (l = m) := by
  rw [Bool.eq_iff_iff]; simp [S_inj]
theorem str_len (l : List Nat) : (⟨l.toArray⟩ : Str).length = l.length := by
  show l.toArray.size = l.length
  simp
theorem pe_S {X : Cx} {x : Str} {j : Nat} {pos : Pos} (l : List Nat) (h : x = ⟨l.toArray⟩ := by decide +kernel) : PE X (.Constant (.str x) j pos) (tC (S l)) := by
  subst h
  exact pe_str

/-! ### either of two readings -/
def or2 (r r' : R2) : R2 := fun x y H Q => r x y H Q ∨ r' x y H Q
theorem or2_op {X : Cx} {f : Value → Value → Sem Value} {r r' : R2} (h : OpR X f r) (h' : OpR X f r') : OpR X f (or2 r r') := by
  intro pins s σ H x y v u Q I rx ry q
  rcases q with q | q
  · exact h pins s σ H x y v u Q I rx ry q
  · exact h' pins s σ H x y v u Q I rx ry q
theorem or2_ix {X : Cx} {r r' : R2} (h : IxR X r) (h' : IxR X r') : IxR X (or2 r r') := by
  intro value slice pins s σ H x y v u Q I rx ry q hs
  rcases q with q | q
  · exact h value slice pins s σ H x y v u Q I rx ry q hs
  · exact h' value slice pins s σ H x y v u Q I rx ry q hs
abbrev RC := List V → Hp → VK → Prop
def orC (r r' : RC) : RC := fun xs H Q => r xs H Q ∨ r' xs H Q
theorem orC_call {X : Cx} {f : Value} {r r' : RC} (h : CallR X f r) (h' : CallR X f r') : CallR X f (orC r r') := by
  intro pins s σ H xs us Q I rx q
  rcases q with q | q
  · exact h pins s σ H xs us Q I rx q
  · exact h' pins s σ H xs us Q I rx q
abbrev RS := V → Option Int → Option Int → Hp → VK → Prop
def orS (r r' : RS) : RS := fun x lo hi H Q => r x lo hi H Q ∨ r' x lo hi H Q
theorem orS_sl {X : Cx} {r r' : RS} (h : SlR X r) (h' : SlR X r') : SlR X (orS r r') := by
  intro pins s σ H x v vl vu lo hi sl Q I rx hs pl pu q
  rcases q with q | q
  · exact h pins s σ H x v vl vu lo hi sl Q I rx hs pl pu q
  · exact h' pins s σ H x v vl vu lo hi sl Q I rx hs pl pu q

/-! ### + - * // % ** -/
def rAddI : R2 := rI0 fun i j => .int (i + j)
def rAddT : R2 := fun x y H Q => ∃ i j, x = .str i ∧ y = .str j ∧ i.length + j.length ≤ sizeLine ∧ Q (.str (i ++ j)) H
def addP (K : PySem.W.Frag) : R2 := or2 rAddI (or2 rAddT (or2 rCat (rCatA K)))
theorem op_addP {X : Cx} : OpR X (binaryOp .Add) (addP X.K) := or2_op op_add (or2_op op_add_str (or2_op op_cat op_catA))
def subP : R2 := rI0 fun i j => .int (i - j)
theorem op_subP {X : Cx} : OpR X (binaryOp .Sub) subP := op_sub
/-- a text so many times -/
def rRepS : R2 := fun x y H Q => ∃ (l : List Nat) (n : Nat), x = S l ∧ y = .int (n : Int) ∧ l.length * n ≤ 100000 ∧ n ≤ 100000 ∧ Q (S (List.replicate n l).flatten) H
theorem foldl_app (l : List Nat) : ∀ (n : Nat) (acc : List Nat), (List.replicate n l.toArray).foldl (· ++ ·) acc.toArray = (acc ++ (List.replicate n l).flatten).toArray
  | 0, acc => by simp
  | n + 1, acc => by
    rw [List.replicate_succ, List.foldl_cons, List.append_toArray, foldl_app l n (acc ++ l), List.replicate_succ, List.flatten_cons, List.append_assoc]
theorem op_repS {X : Cx} : OpR X (binaryOp .Mult) rRepS := by
  intro pins s σ H x y v u Q I rx ry h
  obtain ⟨l, n, rfl, rfl, hz, hn, q⟩ := h
  obtain ⟨t, rfl⟩ := rx
  obtain ⟨t', rfl⟩ := ry
  have hl := str_len l
  have hs : sizeLine = 16777216 := sizeLine_eq
  refine PySem.P.mul_str ?_ (fun h1 h2 => ?_) (fun h1 h2 => ?_) ?_
  · rw [decide_eq_false (by omega), decide_eq_false (by omega)]; rfl
  · rw [hl]
    have hn0 : (0 : Int) < (n : Int) := by omega
    have : ((l.length : Int)) ≤ (2 ^ 63 - 1) / (n : Int) := by
      rw [Int.le_ediv_iff_mul_le hn0]
      have : ((l.length * n : Nat) : Int) ≤ 100000 := by omega
      rw [Int.natCast_mul] at this
      omega
    omega
  · rw [hl, Int.toNat_natCast]
    unfold PySem.Builtin.Str.tooLong
    rw [decide_eq_false]
    omega
  · by_cases h1 : (n : Int) < 1
    · rw [if_pos h1]
      have e : n = 0 := by omega
      subst e
      exact ⟨by decide, S [], H, I.tok _, ⟨_, rfl⟩, by simpa using q⟩
    · rw [if_neg h1]
      by_cases h2 : ((n : Int) == 1 || (⟨l.toArray⟩ : Str).length == 0) = true
      · rw [if_pos h2]
        have e : (List.replicate n l).flatten = l := by
          rw [hl, Bool.or_eq_true, beq_iff_eq, beq_iff_eq] at h2
          rcases h2 with h2 | h2
          · have e : n = 1 := by omega
            subst e; simp
          · have e : l = [] := List.length_eq_zero_iff.mp h2
            subst e; simp
        rw [e] at q
        exact ⟨S l, H, I, ⟨_, rfl⟩, q⟩
      · rw [if_neg h2]
        have e : (⟨(List.replicate ((n : Int)).toNat l.toArray).foldl (· ++ ·) #[]⟩ : Str) = ⟨((List.replicate n l).flatten).toArray⟩ := by
          rw [Int.toNat_natCast]
          have := foldl_app l n []
          simpa using this
        refine ⟨?_, S (List.replicate n l).flatten, H, I.tok _, ⟨_, by rw [e]⟩, q⟩
        rw [e, str_len]
        simp only [List.length_flatten, List.map_replicate, List.sum_replicate_nat]
        rw [Nat.mul_comm]
        omega
def rMulI : R2 := rI (fun i j => IntMulOk i j) fun i j => .int (i * j)
theorem op_mulI {X : Cx} : OpR X (binaryOp .Mult) rMulI := opI fun _ _ _ _ _ _ _ hc q => mul_int q hc
def mulP : R2 := or2 rMulI (or2 rRepS rRep)
theorem op_mulP {X : Cx} : OpR X (binaryOp .Mult) mulP := or2_op op_mulI (or2_op op_repS op_rep)
def modP : R2 := rI (fun _ j => 0 < j) fun i j => .int (i % j)
theorem op_modP {X : Cx} : OpR X (binaryOp .Mod) modP := op_mod
def fdivP : R2 := rI CDivW fun i j => .int (i / j)
theorem op_fdivP {X : Cx} : OpR X (binaryOp .FloorDiv) fdivP := op_fdivW
/-- i ** j, the result below some hundred million bits -/
def powP : R2 := rI (fun i j => 0 ≤ j ∧ (Builtin.Int.intBits i : Int) * j ≤ 2 ^ 27) fun i j => .int (i ^ j.toNat)
theorem op_powP {X : Cx} : OpR X (binaryOp .Pow) powP := opI fun _ _ _ _ _ _ _ hc q => pow_int hc.1 hc.2 q
/-! ### comparisons -/
def eqP (K : PySem.W.Frag) : R2 := or2 rEq (rEqD K)
theorem op_eqP {X : Cx} (hu : X.A.units + 64 < cLine) : OpR X (compareOp .Eq) (eqP X.K) := or2_op op_eq (op_eqD hu)
def neP (K : PySem.W.Frag) : R2 := or2 rNe (rNeD K)
theorem op_neP {X : Cx} (hu : X.A.units + 64 < cLine) : OpR X (compareOp .NotEq) (neP X.K) := or2_op op_ne (op_neD hu)
def ltP : R2 := or2 (rI0 fun i j => .bl (decide (i < j))) fun x y H Q => ∃ i j, x = .str i ∧ y = .str j ∧ Q (.bl (decide (i.cps.toList < j.cps.toList))) H
theorem op_ltP {X : Cx} : OpR X (compareOp .Lt) ltP := or2_op op_lt op_lt_str
def leP : R2 := rI0 fun i j => .bl (decide (i ≤ j))
theorem op_leP {X : Cx} : OpR X (compareOp .LtE) leP := op_le
def gtP : R2 := rI0 fun i j => .bl (decide (j < i))
theorem op_gtP {X : Cx} : OpR X (compareOp .Gt) gtP := op_gt
def geP : R2 := rI0 fun i j => .bl (decide (j ≤ i))
theorem op_geP {X : Cx} : OpR X (compareOp .GtE) geP := op_ge
def isP : R2 := fun x y H Q => y = .non ∧ Q (.bl (decide (x = .non))) H
theorem op_isP {X : Cx} : OpR X (compareOp .Is) isP := op_isN
def isNotP : R2 := fun x y H Q => y = .non ∧ Q (.bl (!decide (x = .non))) H
theorem op_isNotP {X : Cx} : OpR X (compareOp .IsNot) isNotP := op_notN
def rInSg : R2 := fun x y H Q => ∃ (c : Nat) (z : Str), x = .str ⟨#[c]⟩ ∧ y = .str z ∧ Q (.bl (decide (c ∈ z.cps.toList))) H
def rNotInSg : R2 := fun x y H Q => ∃ (c : Nat) (z : Str), x = .str ⟨#[c]⟩ ∧ y = .str z ∧ Q (.bl (!decide (c ∈ z.cps.toList))) H
def inP (K : PySem.W.Frag) : R2 := or2 rInSg (rIn K false)
theorem op_inP {X : Cx} : OpR X (compareOp .In) (inP X.K) := or2_op op_in_sign op_in_seq
def notInP (K : PySem.W.Frag) : R2 := or2 rNotInSg (rIn K true)
theorem op_notInP {X : Cx} : OpR X (compareOp .NotIn) (notInP X.K) := or2_op op_notIn_sign op_notIn_seq
/-! ### subscripts, slices -/
def ixP (K : PySem.W.Frag) : R2 := or2 (rIxL K) (or2 (rIxT K) rIxS)
theorem ix_P {X : Cx} : IxR X (ixP X.K) := or2_ix ix_list (or2_ix ix_tup ix_str)
def slP (K : PySem.W.Frag) : RS := orS (rSlL K) (orS (rSlA K) rSlS)
theorem sl_P {X : Cx} : SlR X (slP X.K) := orS_sl sl_list (orS_sl sl_tupA sl_str)
/-! ### what is walked -/
def iAny (K : PySem.W.Frag) (te : TE) : TI := fun σ H R => te σ H fun x H1 => (∃ a xs, x = .ref a ∧ SqL K H1 a xs ∧ R (Itl K a) H1) ∨ (∃ a xs, x = .ref a ∧ SqT K H1 a xs ∧ R (Itt K a) H1) ∨ (∃ z, x = .str z ∧ R (Its z) H1)
section
variable {X : Cx} {tg e : Expr} {te : TE}
theorem pi_any (he : PE X e te) : PI X tg e (iAny X.K te) := by
  refine ⟨fun pins s σ H R I h => thn (he.run pins s σ H _ I h) fun v s1 ⟨x, H1, J, r1, q1⟩ => ?_⟩
  rcases q1 with ⟨a, xs, rfl, hq, q⟩ | ⟨a, xs, rfl, hq, q⟩ | ⟨z, rfl, q⟩
  · cases r1
    obtain ⟨its, rv, pl, hz⟩ := J.list hq
    exact wpAny_pyIter_list pl.isList (pi_one (tk := s1.toks) J _ (turn_list a _) ⟨_, Heap.get?_push_size _ rfl, rfl, rfl⟩ q)
  · cases r1
    obtain ⟨its, rv, pl, hz⟩ := J.tuple hq
    exact wpAny_pyIter_tuple (show s1.heap.IsTuple a its.toArray from pl) (pi_one (tk := s1.toks) J _ (turn_tuple a _) ⟨_, Heap.get?_push_size _ rfl, rfl, rfl⟩ q)
  · obtain ⟨t, rfl⟩ := r1
    cases hw : z.cps.all (· < 128)
    · exact wpAny_pyIter_wide hw (pi_one (tk := s1.toks) J _ (turn_str _ z t "str_iterator" (.inr rfl)) ⟨_, Heap.get?_push_size _ rfl, rfl, rfl⟩ q)
    · exact wpAny_pyIter_ascii hw (pi_one (tk := s1.toks) J _ (turn_str _ z t "str_ascii_iterator" (.inl rfl)) ⟨_, Heap.get?_push_size _ rfl, rfl, rfl⟩ q)
end
/-! ### enumerate(a text) -/
/-- the signs of z, each in a new pair with its place -/
def Ites (z : Str) : It :=
  ⟨fun i _ => i < z.cps.size, fun i H v H' => ∃ T c, v = .ref T ∧ H T = none ∧ H' = upd H T (.tup [.int (i : Nat), .str ⟨#[c]⟩]) ∧ z.cps[i]? = some c, fun i _ => i = z.cps.size⟩
theorem turn_enumS {P : Program} {w : World} {K : PySem.W.Frag} {elts : List Expr} {kk : Nat} {tpos : Pos} (z : Str) (t : Tok) (e it : Addr) :
    Turn P w K (.Tuple elts kk tpos) (Ites z) [e, it] e (fun i h => (∃ old, IsEnum h e it ((i : Nat) : Int) old) ∧ h.IsStrIter it (strIterType z) z t i ∧ e ≠ it) where
  mem := List.mem_cons_self ..
  obj := fun i h st b hb => by
    obtain ⟨⟨old, hE⟩, ⟨o, hO, hC, hD⟩, _⟩ := st
    rcases List.mem_cons.mp hb with rfl | hb
    · exact ⟨_, hE, fun v q => nomatch q⟩
    · rw [List.mem_singleton.mp hb]
      exact ⟨o, hO, fun v q => by rw [hD] at q; cases q⟩
  keep := fun i h h' st k => by
    obtain ⟨⟨old, hE⟩, ⟨o, hO, r⟩, hne⟩ := st
    exact ⟨⟨old, k e (by simp) _ hE⟩, ⟨o, k it (by simp) _ hO, r⟩, hne⟩
  item := by
    intro X hP hW hK hc i pins s σ H E I hf st hg
    subst hP hW hK
    obtain ⟨⟨old, hE⟩, hS, hne⟩ := st
    have le : e < s.heap.objs.size := Heap.lt_size hE
    have li : it < s.heap.objs.size := by obtain ⟨_, q, _⟩ := hS; exact Heap.lt_size q
    have D := Draws.text (prog := X.prog) (w := X.w) (A := X.A.in1) (I.ok.hd hc) it z t
    refine wpAny_pyNext_enum_itemC D hE hS hg hne (by simp [hne]) fun x h' tk hx hO hS' hT hsz hk => ?_
    obtain ⟨c, u, hcx, rfl⟩ := hx
    refine ⟨_, rfl, wpAny_letOwnedTupleGo_enum (s := { s with heap := h', toks := tk + 1 }) hO fun h2 hE2 sb => ?_⟩
    have T2 : h2.get? s.heap.objs.size = some { cls := .type "tuple", data := .seq #[.int i tk, .str ⟨#[c]⟩ u] } := (sb.2 _ (Nat.ne_of_gt le)).trans hT
    have new : ObjOk X.prog X.w (upd H s.heap.objs.size (.tup [.int (i : Nat), .str ⟨#[c]⟩])) h2 s.heap.objs.size (.tup [.int (i : Nat), .str ⟨#[c]⟩]) :=
      ⟨by show 2 ≤ sizeLine; decide, [.int i tk, .str ⟨#[c]⟩ u], .cons ⟨_, rfl⟩ (.cons ⟨_, rfl⟩ .nil), ⟨_, T2, rfl, _, rfl⟩⟩
    have J : Inv X pins σ (upd H s.heap.objs.size (.tup [.int (i : Nat), .str ⟨#[c]⟩])) { s with heap := h2, toks := tk + 1 } :=
      I.turnedNew (ch := [e, it]) (fun b ob hb q => (sb.2 b (fun y => hb (by simp [y]))).trans (hk b ob (fun y => hb (by simp [y])) (fun y => hb (by simp [y])) q)) hf (Nat.le_refl _) new
    refine ⟨.ref s.heap.objs.size, _, J, rfl, ⟨_, c, rfl, I.hok.fresh (Nat.le_refl _), rfl, hcx⟩, ⟨⟨.str ⟨#[c]⟩ u, ?_⟩, ?_, hne⟩, fun b hb => ?_⟩
    · have e1 : ((i + 1 : Nat) : Int) = (i : Int) + 1 := by omega
      rw [e1]
      exact hE2
    · obtain ⟨o, ho, r⟩ := hS'
      exact ⟨o, (sb.2 it (Ne.symm hne)).trans ho, r⟩
    · have lb : b < s.heap.objs.size := by
        rcases List.mem_cons.mp hb with rfl | hb
        · exact le
        · rw [List.mem_singleton.mp hb]; exact li
      rw [upd_ne (Nat.ne_of_lt lb)]
      exact (hf b hb).1
  done := by
    intro X hP hW hK hc i pins s σ H E I hf st hg
    subst hP hW hK
    obtain ⟨⟨old, hE⟩, hS, hne⟩ := st
    obtain ⟨f0, f1, f2, f3, f4, f5⟩ := hf it (by simp)
    have D := Draws.text (prog := X.prog) (w := X.w) (A := X.A.in1) (I.ok.hd hc) it z t
    have hg' : i = z.cps.size := hg
    subst hg'
    exact wpAny_pyNext_enum_endD D hE hS fun h' eb => ⟨rfl, I.turned (t' := s.toks) (fun b o hb q => eb b o hb q) f0 f1 f3 f4 f5⟩
  self := fun A i s Q E st h => by
    obtain ⟨⟨_, hE⟩, _⟩ := st
    exact wpAny_pyIter_enum hE h
def iEnumP (K : PySem.W.Frag) (ta : TA) : TI := fun σ H R => ta σ H fun vs H1 => (∃ a xs, vs = [.ref a] ∧ SqL K H1 a xs ∧ R (Ite K a) H1) ∨ (∃ z, vs = [.str z] ∧ R (Ites z) H1)
theorem pi_enumP {X : Cx} {e : Expr} {ta : TA} {p pos tpos : Pos} {elts : List Expr} {kk : Nat} (hg : Gl X "enumerate") (hm : X.mg "enumerate" = none) (ha : PA X [e] ta) (hs : starEach [e] X.env = [(false, eval e X.env)] := by rfl) :
    PI X (.Tuple elts kk tpos) (.Call (.Name "enumerate" p) [e] [] pos) (iEnumP X.K ta) := by
  refine ⟨fun pins s σ H R I h => Call_ (ld_blt I hg hm boot_enumerate (PyProof.Rows.callWith_type1 (thn (ha.run pos pins s σ H _ I h) fun us s1 ⟨vs, H1, J, r1, q1⟩ => ?_) hs rfl))⟩
  have far : ∀ b ∈ [s1.heap.objs.size + 1, s1.heap.objs.size], s1.heap.objs.size ≤ b := fun b hb => by
    rcases List.mem_cons.mp hb with rfl | hb
    · exact Nat.le_succ _
    · rw [List.mem_singleton.mp hb]; exact Nat.le_refl _
  rcases q1 with ⟨a, xs, rfl, hq, q⟩ | ⟨z, rfl, q⟩
  · cases r1 with
    | cons r rr =>
      cases rr
      cases r
      obtain ⟨its, rv, pl, hz⟩ := J.list hq
      refine call_enumerate_list pl.isList fun h' hE hit hsz hk => wpAny_pyIter_enum hE ?_
      have J2 : Inv X pins σ H1 { s1 with heap := h' } := J.kept (t' := s1.toks) hk
      exact ⟨_, _, _, _, H1, rfl, J2, turn_enum a (s1.heap.objs.size + 1) s1.heap.objs.size, ⟨⟨.none, hE⟩, hit, Nat.succ_ne_self _⟩, fun b hb => J.fpOk (far b hb) (J.hok.fresh (far b hb)), q⟩
  · cases r1 with
    | cons r rr =>
      cases rr
      obtain ⟨t, rfl⟩ := r
      refine call_enumerate_str fun h' hE hit hsz hk => wpAny_pyIter_enum hE ?_
      have J2 : Inv X pins σ H1 { s1 with heap := h' } := J.kept (t' := s1.toks) hk
      exact ⟨_, _, _, _, H1, rfl, J2, turn_enumS z t (s1.heap.objs.size + 1) s1.heap.objs.size, ⟨⟨.none, hE⟩, hit, Nat.succ_ne_self _⟩, fun b hb => J.fpOk (far b hb) (J.hok.fresh (far b hb)), q⟩
end Fg
/-! Steps: what a reading asks, one sign of Python at a time. -/
namespace Fg
open PySem PySem.Spec PyProof.Rows L2
section
variable {K : PySem.W.Frag} {σ : L2.St} {H : Hp} {Q : VK} {D : Ends} {ta tb tc te : TE} {t u : TT} {i j : Nat} {v x y : V} {tr tq : TS} {QB : Bool → Hp → Prop} {QL : List V → Hp → Prop} {Qs : L2.St → Hp → Prop} {tl : TA}
theorem i_var (h : σ[i]? = some (some v)) (q : Q v H) : tVar i σ H Q := ⟨v, h, q⟩
theorem i_c (q : Q v H) : tC v σ H Q := q
theorem i_seq (q : tr { D with nx := tq D } σ H) : tSeq tr tq D σ H := q
theorem i_next (q : D.nx σ H) : tNext D σ H := q
theorem i_brk (q : D.bk σ H) : tBreak D σ H := q
theorem i_cont (q : D.ct σ H) : tCont D σ H := q
theorem i_asg {g : TG} (q : te σ H fun x H1 => g x σ H1 D.nx) : tAsg te g D σ H := q
theorem i_gname (q : Qs (σ.set i (some v)) H) : gName i v σ H Qs := q
theorem i_gname' {σ' : L2.St} (e : σ.set i (some v) = σ') (q : Qs σ' H) : gName i v σ H Qs := by
  subst e; exact q
theorem i_ret (q : te σ H D.rt) : tRet te D σ H := q
theorem i_retN (q : D.rt .non H) : tRetN D σ H := q
theorem i_drop (q : te σ H fun _ H1 => D.nx σ H1) : tDrop te D σ H := q
theorem i_ifS (q : t σ H fun b H1 => if b = true then tr D σ H1 else tq D σ H1) : tIfS t tr tq D σ H := q
theorem i_test (q : te σ H fun x H' => ∃ k, x = .bl k ∧ QB k H') : tTest te σ H QB := q
theorem i_B (q : te σ H fun x H' => ∃ k, x = .bl k ∧ QB k H') : tB te σ H QB := q
theorem i_exbl {P : Bool → Prop} {b : Bool} (q : P b) : ∃ k, V.bl b = .bl k ∧ P k := ⟨b, rfl, q⟩
theorem i_and (q : t σ H fun c H1 => if c = true then u σ H1 QB else QB false H1) : tAnd t u σ H QB := q
theorem i_or (q : t σ H fun c H1 => if c = true then QB true H1 else u σ H1 QB) : tOr t u σ H QB := q
theorem i_not (q : t σ H fun c H1 => QB (!c) H1) : tNot t σ H QB := q
theorem i_andV (q : ta σ H fun x H1 => ∃ c, x = .bl c ∧ if c = true then tb σ H1 Q else Q (.bl false) H1) : tAndV ta tb σ H Q := q
theorem i_orV (q : ta σ H fun x H1 => ∃ c, x = .bl c ∧ if c = true then Q (.bl true) H1 else tb σ H1 Q) : tOrV ta tb σ H Q := q
theorem i_notV (q : ta σ H fun x H1 => ∃ c, x = .bl c ∧ Q (.bl (!c)) H1) : tNotV ta σ H Q := q
theorem i_ifE (q : t σ H fun c H1 => if c = true then ta σ H1 Q else tb σ H1 Q) : tIf t ta tb σ H Q := q
theorem i_op {r : R2} (q : ta σ H fun x H1 => tb σ H1 fun y H2 => r x y H2 Q) : tOp r ta tb σ H Q := q
theorem i_un {r : V → Hp → VK → Prop} (q : ta σ H fun x H1 => r x H1 Q) : tUn r ta σ H Q := q
theorem i_neg {k : Int} (q : Q (.int (-k)) H) : rU (fun i => .int (-i)) (.int k) H Q := ⟨k, rfl, q⟩
theorem i_chain {r r' : R2} (q : ta σ H fun x H1 => tb σ H1 fun y H2 => r x y H2 fun z H3 => ∃ k, z = .bl k ∧ (if k = true then tc σ H3 fun w' H4 => r' y w' H4 Q else Q (.bl false) H3)) : tChain r r' ta tb tc σ H Q := q
theorem i_nil (q : QL [] H) : tNil σ H QL := q
theorem i_cons (q : te σ H fun x H1 => tl σ H1 fun xs H2 => QL (x :: xs) H2) : tCons te tl σ H QL := q
theorem i_call {sp : Sp} {E : XK} (q : tl σ H fun vs H1 => sp (vs ++ []) H1 Q E) : tCall sp [] E tl σ H Q := q
theorem i_callS {sp : Sp} {E : L2.St → XK} (q : tl σ H fun vs H1 => sp vs H1 Q (E σ)) : tCallS sp E tl σ H Q := q
theorem i_cb {r : RC} (q : tl σ H fun vs H1 => r vs H1 Q) : tCB r tl σ H Q := q
theorem i_tup (q : tl σ H fun xs H1 => xs.length ≤ sizeLine ∧ ∀ p, H1 p = none → Q (.ref p) (upd H1 p (.tup xs))) : tTup tl σ H Q := q
theorem i_lst (q : tl σ H fun xs H1 => xs.length ≤ sizeLine ∧ ∀ p, H1 p = none → Q (.ref p) (upd H1 p (.lst xs))) : tLst tl σ H Q := q
theorem i_new {n : Nat} {P : Addr → Prop} (h : n ≤ 100000) (q : ∀ p, H p = none → P p) : n ≤ sizeLine ∧ ∀ p, H p = none → P p := ⟨Nat.le_trans h (by decide), q⟩
theorem i_sl {r : RS} {t1 t2 : TO} (q : te σ H fun x H1 => t1 σ H1 fun l H2 => t2 σ H2 fun u H3 => r x l u H3 Q) : tSl r te t1 t2 σ H Q := q
theorem i_nopart {QO : Option Int → Hp → Prop} (q : QO none H) : tNoPart σ H QO := q
theorem i_part {QO : Option Int → Hp → Prop} (q : te σ H fun x H1 => ∃ i, x = .int i ∧ QO (some i) H1) : tPart te σ H QO := q
theorem i_exint {P : Int → Prop} {k : Int} (q : P k) : ∃ i, V.int k = .int i ∧ P i := ⟨k, rfl, q⟩
theorem i_dec {c : Prop} [Decidable c] {A B : Prop} (h1 : c → A) (h2 : ¬ c → B) : if decide c = true then A else B := by
  by_cases h : c
  · rw [decide_eq_true h, if_pos rfl]; exact h1 h
  · rw [decide_eq_false h, if_neg (by decide)]; exact h2 h
theorem i_decN {c : Prop} [Decidable c] {A B : Prop} (h1 : ¬ c → A) (h2 : c → B) : if (!decide c) = true then A else B := by
  by_cases h : c
  · rw [decide_eq_true h]; exact h2 h
  · rw [decide_eq_false h]; exact h1 h
theorem i_bool {b : Bool} {A B : Prop} (h1 : b = true → A) (h2 : b = false → B) : if b = true then A else B := by
  cases b with
  | true => exact h1 rfl
  | false => exact h2 rfl
theorem i_tt {A B : Prop} (h : A) : if true = true then A else B := h
theorem i_ff {A B : Prop} (h : B) : if false = true then A else B := h
theorem i_nott {A B : Prop} (h : B) : if (!true) = true then A else B := h
theorem i_notf {A B : Prop} (h : A) : if (!false) = true then A else B := h
/-! values -/
variable {a b : Int} {l m : List Nat}
theorem i_add_int (q : Q (.int (a + b)) H) : addP K (.int a) (.int b) H Q := .inl ⟨a, b, rfl, rfl, q⟩
theorem i_add_str (h : l.length + m.length ≤ 100000) (q : Q (S (l ++ m)) H) : addP K (S l) (S m) H Q := by
  refine .inr (.inl ⟨⟨l.toArray⟩, ⟨m.toArray⟩, rfl, rfl, ?_, ?_⟩)
  · rw [str_len, str_len]; exact Nat.le_trans h (by decide)
  · have e : (⟨l.toArray⟩ : Str) ++ ⟨m.toArray⟩ = ⟨(l ++ m).toArray⟩ := by
      show (⟨l.toArray ++ m.toArray⟩ : Str) = _
      rw [List.append_toArray]
    rw [e]; exact q
theorem i_sub (q : Q (.int (a - b)) H) : subP (.int a) (.int b) H Q := ⟨a, b, rfl, rfl, q⟩
theorem i_mul_int (h : IntMulOk a b) (q : Q (.int (a * b)) H) : mulP (.int a) (.int b) H Q := .inl ⟨a, b, rfl, rfl, h, q⟩
theorem i_mul_str {n : Nat} (h : l.length * n ≤ 100000 ∧ n ≤ 100000) (q : Q (S (List.replicate n l).flatten) H) : mulP (S l) (.int (n : Int)) H Q := .inr (.inl ⟨l, n, rfl, rfl, h.1, h.2, q⟩)
theorem i_mul_strI {k : Int} (h0 : 0 ≤ k) (h : l.length * k.toNat ≤ 100000 ∧ k.toNat ≤ 100000) (q : Q (S (List.replicate k.toNat l).flatten) H) : mulP (S l) (.int k) H Q := by
  obtain ⟨n, rfl⟩ : ∃ n : Nat, k = (n : Int) := ⟨k.toNat, by omega⟩
  rw [Int.toNat_natCast] at h q
  exact i_mul_str h q
theorem cdiv_small {a b : Int} (h : 0 < b) (h2 : b < 2 ^ 62) : CDivW a b := wide_div (b := 62) h (by omega) (by decide) (by decide)
theorem mul_small {a b : Int} (h : -(2 ^ 64) < a) (h2 : a < 2 ^ 64) : IntMulOk a b := CMul.ok (.inl ⟨h, h2⟩)
theorem mul_smallR {a b : Int} (h : -(2 ^ 64) < b) (h2 : b < 2 ^ 64) : IntMulOk a b := CMul.ok (.inr ⟨h, h2⟩)
theorem i_mod (h : 0 < b) (q : Q (.int (a % b)) H) : modP (.int a) (.int b) H Q := ⟨a, b, rfl, rfl, h, q⟩
theorem i_fdiv (h : CDivW a b) (q : Q (.int (a / b)) H) : fdivP (.int a) (.int b) H Q := ⟨a, b, rfl, rfl, h, q⟩
theorem i_pow (h : 0 ≤ b ∧ (Builtin.Int.intBits a : Int) * b ≤ 2 ^ 27) (q : Q (.int (a ^ b.toNat)) H) : powP (.int a) (.int b) H Q := ⟨a, b, rfl, rfl, h, q⟩
theorem i_eq_int (q : Q (.bl (decide (a = b))) H) : eqP K (.int a) (.int b) H Q := .inl ⟨rfl, by rw [dec_int, Bool.beq_eq_decide_eq]; exact q⟩
theorem i_eq_str (q : Q (.bl (decide (l = m))) H) : eqP K (S l) (S m) H Q := .inl ⟨rfl, by rw [S_dec]; exact q⟩
theorem i_ne_int (q : Q (.bl (!decide (a = b))) H) : neP K (.int a) (.int b) H Q := .inl ⟨rfl, by rw [dec_int, Bool.beq_eq_decide_eq]; exact q⟩
theorem i_ne_str (q : Q (.bl (!decide (l = m))) H) : neP K (S l) (S m) H Q := .inl ⟨rfl, by rw [S_dec]; exact q⟩
theorem i_eq_bl {b c : Bool} (q : Q (.bl (decide (b = c))) H) : eqP K (.bl b) (.bl c) H Q := .inl ⟨rfl, by rw [dec_bl, Bool.beq_eq_decide_eq]; exact q⟩
theorem i_ne_bl {b c : Bool} (q : Q (.bl (!decide (b = c))) H) : neP K (.bl b) (.bl c) H Q := .inl ⟨rfl, by rw [dec_bl, Bool.beq_eq_decide_eq]; exact q⟩
theorem i_lt (q : Q (.bl (decide (a < b))) H) : ltP (.int a) (.int b) H Q := .inl ⟨a, b, rfl, rfl, q⟩
theorem i_lt_str (q : Q (.bl (decide (l < m))) H) : ltP (S l) (S m) H Q := .inr ⟨_, _, rfl, rfl, by simpa using q⟩
theorem i_le (q : Q (.bl (decide (a ≤ b))) H) : leP (.int a) (.int b) H Q := ⟨a, b, rfl, rfl, q⟩
theorem i_gt (q : Q (.bl (decide (b < a))) H) : gtP (.int a) (.int b) H Q := ⟨a, b, rfl, rfl, q⟩
theorem i_ge (q : Q (.bl (decide (b ≤ a))) H) : geP (.int a) (.int b) H Q := ⟨a, b, rfl, rfl, q⟩
theorem i_is_non (q : Q (.bl true) H) : isP .non .non H Q := ⟨rfl, q⟩
theorem i_is_int (q : Q (.bl false) H) : isP (.int a) .non H Q := ⟨rfl, q⟩
theorem i_is_str (q : Q (.bl false) H) : isP (S l) .non H Q := ⟨rfl, q⟩
theorem i_is_ref {p : Addr} (q : Q (.bl false) H) : isP (.ref p) .non H Q := ⟨rfl, q⟩
theorem i_isn_non (q : Q (.bl false) H) : isNotP .non .non H Q := ⟨rfl, q⟩
theorem i_isn_int (q : Q (.bl true) H) : isNotP (.int a) .non H Q := ⟨rfl, q⟩
theorem i_isn_str (q : Q (.bl true) H) : isNotP (S l) .non H Q := ⟨rfl, q⟩
theorem i_isn_ref {p : Addr} (q : Q (.bl true) H) : isNotP (.ref p) .non H Q := ⟨rfl, q⟩
theorem i_in_sg {c : Nat} (q : Q (.bl (decide (c ∈ m))) H) : inP K (S [c]) (S m) H Q := .inl ⟨c, ⟨m.toArray⟩, rfl, rfl, by simpa using q⟩
theorem i_notIn_sg {c : Nat} (q : Q (.bl (!decide (c ∈ m))) H) : notInP K (S [c]) (S m) H Q := .inl ⟨c, ⟨m.toArray⟩, rfl, rfl, by simpa using q⟩
/-! subscripts -/
theorem atI_int {xs : List V} {z : Int} {v : V} (h0 : 0 ≤ z) (h : xs[z.toNat]? = some v) : atI xs z = some v := at_of (j := z.toNat) (by omega) h
theorem i_ix_lst {p : Addr} {xs : List V} {z : Int} {v : V} (hs : SqL K H p xs) (ha : atI xs z = some v) (q : Q v H) : ixP K (.ref p) (.int z) H Q := .inl ⟨p, xs, z, v, rfl, rfl, hs, ha, q⟩
theorem i_ix_tup {p : Addr} {xs : List V} {z : Int} {v : V} (hs : SqT K H p xs) (ha : atI xs z = some v) (q : Q v H) : ixP K (.ref p) (.int z) H Q := .inr (.inl ⟨p, xs, z, v, rfl, rfl, hs, ha, q⟩)
theorem i_ix_str {z : Int} {c : Nat} (hs : l.length ≤ 100000) (h0 : 0 ≤ z) (ha : l[z.toNat]? = some c) (q : Q (S [c]) H) : ixP K (S l) (.int z) H Q := by
  refine .inr (.inr ⟨⟨l.toArray⟩, z, c, rfl, rfl, ?_, ?_, q⟩)
  · rw [str_len]; exact Nat.le_trans hs (by decide)
  · have e : z = ((z.toNat : Nat) : Int) := by omega
    rw [e]
    exact atI_nat (by simpa using ha)
/-! slices -/
def cutN (l : List Nat) (lo hi : Option Int) : List Nat := (l.drop (HT.sIx l.length 0 lo)).take (HT.sIx l.length l.length hi - HT.sIx l.length 0 lo)
theorem i_sl_str {lo hi : Option Int} (hs : l.length ≤ 100000) (q : Q (S (cutN l lo hi)) H) : slP K (S l) lo hi H Q := by
  refine .inr (.inr ⟨⟨l.toArray⟩, rfl, ?_, ?_⟩)
  · rw [str_len]; exact Nat.le_trans hs (by decide)
  · have e : cutS ⟨l.toArray⟩ lo hi = ⟨(cutN l lo hi).toArray⟩ := by
      unfold cutS cutN
      rw [str_len]
    rw [e]; exact q
theorem cutN_to {l : List Nat} {k : Int} (h : 0 ≤ k) : cutN l none (some k) = l.take k.toNat := by
  unfold cutN
  have e : k = ((k.toNat : Nat) : Int) := by omega
  rw [e, HT.sIx_nat, HT.sIx_none, Nat.sub_zero, List.drop_zero, Int.toNat_natCast]
  by_cases hk : k.toNat ≤ l.length
  · rw [Nat.min_eq_left hk]
  · rw [Nat.min_eq_right (by omega), List.take_length, List.take_of_length_le (by omega)]
theorem cutN_from {l : List Nat} {k : Int} (h : 0 ≤ k) : cutN l (some k) none = l.drop k.toNat := by
  unfold cutN
  have e : k = ((k.toNat : Nat) : Int) := by omega
  rw [e, HT.sIx_nat, HT.sIx_none, Int.toNat_natCast]
  by_cases hk : k.toNat ≤ l.length
  · rw [Nat.min_eq_left hk]
    exact List.take_of_length_le (by rw [List.length_drop]; omega)
  · rw [Nat.min_eq_right (by omega), Nat.sub_self, List.take_zero, List.drop_of_length_le (by omega)]
theorem i_sl_to {k : Int} (hs : l.length ≤ 100000) (h0 : 0 ≤ k) (q : Q (S (l.take k.toNat)) H) : slP K (S l) none (some k) H Q := i_sl_str hs (by rw [cutN_to h0]; exact q)
theorem i_sl_from {k : Int} (hs : l.length ≤ 100000) (h0 : 0 ≤ k) (q : Q (S (l.drop k.toNat)) H) : slP K (S l) (some k) none H Q := i_sl_str hs (by rw [cutN_from h0]; exact q)
/-! calls of what is built in -/
def rLenP (K : PySem.W.Frag) : RC := fun xs H Q => ∃ x n, xs = [x] ∧ LenV K x H n ∧ Q (.int n) H
theorem call_lenP {X : Cx} : CallR X (.builtin "len") (rLenP X.K) := call_len
theorem i_len_str (hs : l.length ≤ 100000) (q : Q (.int (l.length : Int)) H) : rLenP K [S l] H Q := ⟨S l, l.length, rfl, ⟨by rw [str_len]; exact Nat.le_trans hs (by decide), (str_len l).symm⟩, q⟩
theorem i_len_lst {p : Addr} {xs : List V} (hs : SqL K H p xs) (q : Q (.int (xs.length : Int)) H) : rLenP K [.ref p] H Q := ⟨.ref p, xs.length, rfl, .inl ⟨xs, hs, rfl⟩, q⟩
theorem i_len_tup {p : Addr} {xs : List V} (hs : SqT K H p xs) (q : Q (.int (xs.length : Int)) H) : rLenP K [.ref p] H Q := ⟨.ref p, xs.length, rfl, .inr ⟨xs, hs, rfl⟩, q⟩
def rIntP : RC := fun xs H Q => (∃ i, xs = [.int i] ∧ Q (.int i) H) ∨ ∃ k, xs = [.bl k] ∧ Q (.int (if k then 1 else 0)) H
theorem call_intP {X : Cx} : CallR X (.type "int") rIntP := call_int1
theorem i_int_int (q : Q (.int a) H) : rIntP [.int a] H Q := .inl ⟨a, rfl, q⟩
def rAbsP : RC := fun xs H Q => ∃ i, xs = [.int i] ∧ Q (.int (if i < 0 then -i else i)) H
theorem call_absP {X : Cx} : CallR X (.builtin "abs") rAbsP := call_abs
theorem i_abs (q : Q (.int (if a < 0 then -a else a)) H) : rAbsP [.int a] H Q := ⟨a, rfl, q⟩
theorem i_sum {p : Addr} {ns : List Int} (hs : SqL K H p (ns.map V.int)) (q : Q (.int ns.sum) H) : rSum K [.ref p] H Q := ⟨p, ns, rfl, hs, q⟩
def rTupP (K : PySem.W.Frag) : RC := fun xs H Q => ∃ p ys, xs = [.ref p] ∧ ((SqL K H p ys ∧ ∀ l, H l = none → Q (.ref l) (upd H l (.tup ys))) ∨ (SqT K H p ys ∧ Q (.ref p) H))
theorem call_tupP {X : Cx} : CallR X (.type "tuple") (rTupP X.K) := call_tuple_of
theorem i_tuple_lst {p : Addr} {ys : List V} (hs : SqL K H p ys) (q : ∀ l, H l = none → Q (.ref l) (upd H l (.tup ys))) : rTupP K [.ref p] H Q := ⟨p, ys, rfl, .inl ⟨hs, q⟩⟩
theorem i_all {p : Addr} {bs : List Bool} (hs : SqL K H p (bs.map V.bl)) (q : Q (.bl (bs.all id)) H) : rAll K [.ref p] H Q := ⟨p, bs, rfl, hs, q⟩
theorem i_isi_non_int (q : Q (.bl false) H) : rIsi K [.non, .ty "int"] H Q := ⟨_, _, _, _, false, rfl, .ty _, .base .non, kit_ty (by decide +kernel), q⟩
theorem i_isi_non_bool (q : Q (.bl false) H) : rIsi K [.non, .ty "bool"] H Q := ⟨_, _, _, _, false, rfl, .ty _, .base .non, kit_ty (by decide +kernel), q⟩
theorem i_isi_non_str (q : Q (.bl false) H) : rIsi K [.non, .ty "str"] H Q := ⟨_, _, _, _, false, rfl, .ty _, .base .non, kit_ty (by decide +kernel), q⟩
theorem i_isi_non_tuple (q : Q (.bl false) H) : rIsi K [.non, .ty "tuple"] H Q := ⟨_, _, _, _, false, rfl, .ty _, .base .non, kit_ty (by decide +kernel), q⟩
theorem i_isi_non_list (q : Q (.bl false) H) : rIsi K [.non, .ty "list"] H Q := ⟨_, _, _, _, false, rfl, .ty _, .base .non, kit_ty (by decide +kernel), q⟩
theorem i_isi_bl_int {b : Bool} (q : Q (.bl true) H) : rIsi K [(.bl b), .ty "int"] H Q := ⟨_, _, _, _, true, rfl, .ty _, .base (.bl b), kit_ty (by decide +kernel), q⟩
theorem i_isi_bl_bool {b : Bool} (q : Q (.bl true) H) : rIsi K [(.bl b), .ty "bool"] H Q := ⟨_, _, _, _, true, rfl, .ty _, .base (.bl b), kit_ty (by decide +kernel), q⟩
theorem i_isi_bl_str {b : Bool} (q : Q (.bl false) H) : rIsi K [(.bl b), .ty "str"] H Q := ⟨_, _, _, _, false, rfl, .ty _, .base (.bl b), kit_ty (by decide +kernel), q⟩
theorem i_isi_bl_tuple {b : Bool} (q : Q (.bl false) H) : rIsi K [(.bl b), .ty "tuple"] H Q := ⟨_, _, _, _, false, rfl, .ty _, .base (.bl b), kit_ty (by decide +kernel), q⟩
theorem i_isi_bl_list {b : Bool} (q : Q (.bl false) H) : rIsi K [(.bl b), .ty "list"] H Q := ⟨_, _, _, _, false, rfl, .ty _, .base (.bl b), kit_ty (by decide +kernel), q⟩
theorem i_isi_int_int {i : Int} (q : Q (.bl true) H) : rIsi K [(.int i), .ty "int"] H Q := ⟨_, _, _, _, true, rfl, .ty _, .base (.int i), kit_ty (by decide +kernel), q⟩
theorem i_isi_int_bool {i : Int} (q : Q (.bl false) H) : rIsi K [(.int i), .ty "bool"] H Q := ⟨_, _, _, _, false, rfl, .ty _, .base (.int i), kit_ty (by decide +kernel), q⟩
theorem i_isi_int_str {i : Int} (q : Q (.bl false) H) : rIsi K [(.int i), .ty "str"] H Q := ⟨_, _, _, _, false, rfl, .ty _, .base (.int i), kit_ty (by decide +kernel), q⟩
theorem i_isi_int_tuple {i : Int} (q : Q (.bl false) H) : rIsi K [(.int i), .ty "tuple"] H Q := ⟨_, _, _, _, false, rfl, .ty _, .base (.int i), kit_ty (by decide +kernel), q⟩
theorem i_isi_int_list {i : Int} (q : Q (.bl false) H) : rIsi K [(.int i), .ty "list"] H Q := ⟨_, _, _, _, false, rfl, .ty _, .base (.int i), kit_ty (by decide +kernel), q⟩
theorem i_isi_str_int {l : List Nat} (q : Q (.bl false) H) : rIsi K [(S l), .ty "int"] H Q := ⟨_, _, _, _, false, rfl, .ty _, .base (.str _), kit_ty (by decide +kernel), q⟩
theorem i_isi_str_bool {l : List Nat} (q : Q (.bl false) H) : rIsi K [(S l), .ty "bool"] H Q := ⟨_, _, _, _, false, rfl, .ty _, .base (.str _), kit_ty (by decide +kernel), q⟩
theorem i_isi_str_str {l : List Nat} (q : Q (.bl true) H) : rIsi K [(S l), .ty "str"] H Q := ⟨_, _, _, _, true, rfl, .ty _, .base (.str _), kit_ty (by decide +kernel), q⟩
theorem i_isi_str_tuple {l : List Nat} (q : Q (.bl false) H) : rIsi K [(S l), .ty "tuple"] H Q := ⟨_, _, _, _, false, rfl, .ty _, .base (.str _), kit_ty (by decide +kernel), q⟩
theorem i_isi_str_list {l : List Nat} (q : Q (.bl false) H) : rIsi K [(S l), .ty "list"] H Q := ⟨_, _, _, _, false, rfl, .ty _, .base (.str _), kit_ty (by decide +kernel), q⟩
theorem i_isi_tup_int {a : Addr} {xs : List V} (h : H a = some (.tup xs)) (q : Q (.bl false) H) : rIsi K [(.ref a), .ty "int"] H Q := ⟨_, _, _, _, false, rfl, .ty _, .base (.tup h), kit_ty (by decide +kernel), q⟩
theorem i_isi_tup_bool {a : Addr} {xs : List V} (h : H a = some (.tup xs)) (q : Q (.bl false) H) : rIsi K [(.ref a), .ty "bool"] H Q := ⟨_, _, _, _, false, rfl, .ty _, .base (.tup h), kit_ty (by decide +kernel), q⟩
theorem i_isi_tup_str {a : Addr} {xs : List V} (h : H a = some (.tup xs)) (q : Q (.bl false) H) : rIsi K [(.ref a), .ty "str"] H Q := ⟨_, _, _, _, false, rfl, .ty _, .base (.tup h), kit_ty (by decide +kernel), q⟩
theorem i_isi_tup_tuple {a : Addr} {xs : List V} (h : H a = some (.tup xs)) (q : Q (.bl true) H) : rIsi K [(.ref a), .ty "tuple"] H Q := ⟨_, _, _, _, true, rfl, .ty _, .base (.tup h), kit_ty (by decide +kernel), q⟩
theorem i_isi_tup_list {a : Addr} {xs : List V} (h : H a = some (.tup xs)) (q : Q (.bl false) H) : rIsi K [(.ref a), .ty "list"] H Q := ⟨_, _, _, _, false, rfl, .ty _, .base (.tup h), kit_ty (by decide +kernel), q⟩
theorem i_isi_lst_int {a : Addr} {xs : List V} (h : H a = some (.lst xs)) (q : Q (.bl false) H) : rIsi K [(.ref a), .ty "int"] H Q := ⟨_, _, _, _, false, rfl, .ty _, .base (.lst h), kit_ty (by decide +kernel), q⟩
theorem i_isi_lst_bool {a : Addr} {xs : List V} (h : H a = some (.lst xs)) (q : Q (.bl false) H) : rIsi K [(.ref a), .ty "bool"] H Q := ⟨_, _, _, _, false, rfl, .ty _, .base (.lst h), kit_ty (by decide +kernel), q⟩
theorem i_isi_lst_str {a : Addr} {xs : List V} (h : H a = some (.lst xs)) (q : Q (.bl false) H) : rIsi K [(.ref a), .ty "str"] H Q := ⟨_, _, _, _, false, rfl, .ty _, .base (.lst h), kit_ty (by decide +kernel), q⟩
theorem i_isi_lst_tuple {a : Addr} {xs : List V} (h : H a = some (.lst xs)) (q : Q (.bl false) H) : rIsi K [(.ref a), .ty "tuple"] H Q := ⟨_, _, _, _, false, rfl, .ty _, .base (.lst h), kit_ty (by decide +kernel), q⟩
theorem i_isi_lst_list {a : Addr} {xs : List V} (h : H a = some (.lst xs)) (q : Q (.bl true) H) : rIsi K [(.ref a), .ty "list"] H Q := ⟨_, _, _, _, true, rfl, .ty _, .base (.lst h), kit_ty (by decide +kernel), q⟩
/-! text.join -/
def rJoinP (K : PySem.W.Frag) : V → List V → Hp → VK → Prop := fun x xs H Q => ∃ a p, ∃ ys : List Str, x = .str a ∧ xs = [.ref p] ∧ (SqL K H p (ys.map V.str) ∨ SqT K H p (ys.map V.str)) ∧ (ys.map (·.length)).sum + ys.length * a.length ≤ 16777216 ∧ Q (.str (Txt.join a ys)) H
theorem pe_joinP {X : Cx} {to te : TE} {o e : Expr} {apos pos : Pos} (ho : PE X o to) (he : PE X e te) (hs : starEach [e] X.env = [(false, eval e X.env)] := by rfl) (hbase : attributeBase o "join" X.env (eval o X.env) = eval o X.env := by rfl) (hline : (apos.endLine == pos.line) = true := by rfl) :
    PE X (.Call (.Attribute o "join" apos) [e] [] pos) (tM1 (rJoinP X.K) to te) := pe_join ho he hs hbase hline
theorem i_m1c {r : V → List V → Hp → VK → Prop} (q : te σ H fun y H2 => r (S l) [y] H2 Q) : tM1 r (tC (S l)) te σ H Q := ⟨⟨_, rfl⟩, q⟩
end
end Fg
/-! Glue: defs of the text with their promises, calls, own exceptions with one field. -/
namespace Fg
open PySem PySem.Spec PyProof.Rows L2
/-- a def of the text: where it stands, how it is called -/
def DefIn (K : PySem.W.Frag) (mg : Str → Option Value) (x : Str) (st : Stmt) (ps : List Str) : Prop :=
  ∃ (f : Addr) (fd : FuncData), Fun K x x st f fd ∧ mg x = some (.ref f) ∧ Binds K fd ps []
/-- .. and it keeps its promise -/
def OK (P : Program) (w : World) (K : PySem.W.Frag) (mg : Str → Option Value) (base : Heap) (CX : CXT) (k : Nat) (x : Str) (ps : List Str) (sp : Sp) : Prop :=
  ∃ (f : Addr) (fd : FuncData), FnOk P w K mg base CX k f fd ps sp ∧ mg x = some (.ref f) ∧ PySem.W.keepIn K (.ref f) = true ∧ Binds K fd ps []
abbrev P1 := V → Hp → VK → XK → Prop
abbrev P2 := V → V → Hp → VK → XK → Prop
abbrev P3 := V → V → V → Hp → VK → XK → Prop
abbrev P4 := V → V → V → V → Hp → VK → XK → Prop
def sp1 (p : P1) : Sp := fun vs H Q E => ∃ x, vs = [x] ∧ p x H Q E
def sp2 (p : P2) : Sp := fun vs H Q E => ∃ x y, vs = [x, y] ∧ p x y H Q E
def sp3 (p : P3) : Sp := fun vs H Q E => ∃ x y z, vs = [x, y, z] ∧ p x y z H Q E
def sp4 (p : P4) : Sp := fun vs H Q E => ∃ x y z u, vs = [x, y, z, u] ∧ p x y z u H Q E
section
variable {H : Hp} {Q : VK} {E : XK} {x y z u : V} {p1 : P1} {p2 : P2} {p3 : P3} {p4 : P4}
theorem i_sp1 (q : p1 x H Q E) : sp1 p1 ([x] ++ []) H Q E := ⟨x, rfl, q⟩
theorem i_sp2 (q : p2 x y H Q E) : sp2 p2 ([x, y] ++ []) H Q E := ⟨x, y, rfl, q⟩
theorem i_sp3 (q : p3 x y z H Q E) : sp3 p3 ([x, y, z] ++ []) H Q E := ⟨x, y, z, rfl, q⟩
theorem i_sp4 (q : p4 x y z u H Q E) : sp4 p4 ([x, y, z, u] ++ []) H Q E := ⟨x, y, z, u, rfl, q⟩
theorem i_sp1' (q : p1 x H Q E) : sp1 p1 [x] H Q E := ⟨x, rfl, q⟩
theorem i_sp2' (q : p2 x y H Q E) : sp2 p2 [x, y] H Q E := ⟨x, y, rfl, q⟩
theorem i_sp3' (q : p3 x y z H Q E) : sp3 p3 [x, y, z] H Q E := ⟨x, y, z, rfl, q⟩
theorem i_sp4' (q : p4 x y z u H Q E) : sp4 p4 [x, y, z, u] H Q E := ⟨x, y, z, u, rfl, q⟩
end
section
variable {P : Program} {w : World} {K : PySem.W.Frag} {mg : Str → Option Value} {base : Heap} {x : Str} {st : Stmt} {N ps : List Str} {k : Nat} {sp : Sp}
theorem FnOK.mk {f : Addr} {fd : FuncData} (F : Fun K x x st f fd) (S : FnScope N ps (defScope st)) (len : ∀ vs H Q E, sp vs H Q E → vs.length = ps.length)
    (body : ∀ (cdv : Value) (A : Around) (outer : List Env) (s : Shared) (H : Hp) (vs : List V) (Q : VK) (E : XK), Room k (A.deeper (envOfC x (defScope st) s.heap.objs.size f cdv)) → sp vs H Q E →
      ∃ t, PSs (cxOf CX0 P w K mg base N x (defScope st) f cdv A outer s H E).nox (defBody st) t ∧ t { nx := fun _ H' => Q .non H', rt := Q } (start N vs) H) : FnOk P w K mg base CX0 (k + 1) f fd ps sp :=
  F.ok S len fun cdv A outer s H vs Q E hr h => body cdv A outer s H vs Q E hr h
theorem OK.mk (D : DefIn K mg x st ps) (S : FnScope N ps (defScope st)) (len : ∀ vs H Q E, sp vs H Q E → vs.length = ps.length)
    (body : ∀ (f : Addr) (cdv : Value) (A : Around) (outer : List Env) (s : Shared) (H : Hp) (vs : List V) (Q : VK) (E : XK), Room k (A.deeper (envOfC x (defScope st) s.heap.objs.size f cdv)) → sp vs H Q E →
      ∃ t, PSs (cxOf CX0 P w K mg base N x (defScope st) f cdv A outer s H E).nox (defBody st) t ∧ t { nx := fun _ H' => Q .non H', rt := Q } (start N vs) H) : OK P w K mg base CX0 (k + 1) x ps sp := by
  obtain ⟨f, fd, F, hm, hb⟩ := D
  exact ⟨f, fd, F.ok S len fun cdv A outer s H vs Q E hr h => body f cdv A outer s H vs Q E hr h, hm, F.kp, hb⟩
theorem OK.mkX (D : DefIn K mg x st ps) (S : FnScope N ps (defScope st)) (len : ∀ vs H Q E, sp vs H Q E → vs.length = ps.length)
    (body : ∀ (f : Addr) (cdv : Value) (A : Around) (outer : List Env) (s : Shared) (H : Hp) (vs : List V) (Q : VK) (E : XK), Room k (A.deeper (envOfC x (defScope st) s.heap.objs.size f cdv)) → sp vs H Q E →
      ∃ t, PSs (cxOf (L2.CX P w) P w K mg base N x (defScope st) f cdv A outer s H E) (defBody st) t ∧ t { nx := fun _ H' => Q .non H', rt := Q } (start N vs) H) : OK P w K mg base (L2.CX P w) (k + 1) x ps sp := by
  obtain ⟨f, fd, F, hm, hb⟩ := D
  exact ⟨f, fd, F.okX S len fun cdv A outer s H vs Q E hr h => body f cdv A outer s H vs Q E hr h, hm, F.kp, hb⟩
theorem len1 {p : P1} {a : Str} : ∀ vs H Q E, sp1 p vs H Q E → vs.length = [a].length := by
  rintro vs H Q E ⟨_, rfl, _⟩; rfl
theorem len2 {p : P2} {a b : Str} : ∀ vs H Q E, sp2 p vs H Q E → vs.length = [a, b].length := by
  rintro vs H Q E ⟨_, _, rfl, _⟩; rfl
theorem len3 {p : P3} {a b c : Str} : ∀ vs H Q E, sp3 p vs H Q E → vs.length = [a, b, c].length := by
  rintro vs H Q E ⟨_, _, _, rfl, _⟩; rfl
theorem len4 {p : P4} {a b c d : Str} : ∀ vs H Q E, sp4 p vs H Q E → vs.length = [a, b, c, d].length := by
  rintro vs H Q E ⟨_, _, _, _, rfl, _⟩; rfl
theorem OK.weak {CX : CXT} {sp' : Sp} (G : OK P w K mg base CX k x ps sp) (h : ∀ vs H Q E, sp' vs H Q E → sp vs H Q E) : OK P w K mg base CX k x ps sp' := by
  obtain ⟨f, fd, F, r⟩ := G
  exact ⟨f, fd, F.imp h, r⟩
end
/-! ### calls -/
section
variable {X : Cx} {CX : CXT} {k : Nat} {x : Str} {ps : List Str} {sp : Sp} {E : XK} {e : Expr} {es : List Expr} {ta : TA} {p pos : Pos}
theorem pe_f (G : OK X.prog X.w X.K X.mg X.base CX k x ps sp) (hr : Room k X.A) (hx : Passes CX X E) (ha : PA X (e :: es) ta) (hg : Gl X x := by rfl) (hd : (x == ("__debug__" : Str)) = false := by decide)
    (he : starEach (e :: es) X.env = (false, eval e X.env) :: starEach es X.env := by rfl) (hpl : (backTo pos (starEach es X.env)).any (·.1) = false := by rfl) :
    PE X (.Call (.Name x p) (e :: es) [] pos) (tCall sp [] E ta) := by
  obtain ⟨f, fd, F, hm, hk, hb⟩ := G
  exact pe_call F hr hg hm hk hb .nil hx ha hd he hpl
theorem pe_fS {ES : L2.St → XK} (G : OK X.prog X.w X.K X.mg X.base CX k x ps sp) (hr : Room k X.A) (hx : ∀ σ, PassesAt CX X σ (ES σ)) (ha : PA X (e :: es) ta) (hg : Gl X x := by rfl) (hd : (x == ("__debug__" : Str)) = false := by decide)
    (he : starEach (e :: es) X.env = (false, eval e X.env) :: starEach es X.env := by rfl) (hpl : (backTo pos (starEach es X.env)).any (·.1) = false := by rfl) :
    PE X (.Call (.Name x p) (e :: es) [] pos) (tCallS sp ES ta) := by
  obtain ⟨f, fd, F, hm, hk, hb⟩ := G
  exact pe_callS F hr hg hm hk hb hx ha hd he hpl
theorem pe_gS (l : List Nat) (h : ∃ t, X.mg x = some (.str ⟨l.toArray⟩ t)) (hg : Gl X x := by rfl) (hd : (x == ("__debug__" : Str)) = false := by decide) : PE X (.Name x pos) (tC (S l)) := by
  obtain ⟨t, hm⟩ := h
  exact pe_glob hg hm ⟨t, rfl⟩ hd
theorem pe_gI (i : Int) (h : ∃ t, X.mg x = some (.int i t)) (hg : Gl X x := by rfl) (hd : (x == ("__debug__" : Str)) = false := by decide) : PE X (.Name x pos) (tC (.int i)) := by
  obtain ⟨t, hm⟩ := h
  exact pe_glob hg hm ⟨t, rfl⟩ hd
theorem pe_gR (C : Addr) (h : X.mg x = some (.ref C)) (hg : Gl X x := by rfl) (hd : (x == ("__debug__" : Str)) = false := by decide) : PE X (.Name x pos) (tC (.ref C)) := pe_glob hg h rfl hd
end
/-! ### an own exception with one field -/
/-- what its __init__ promises -/
def spIni (C : Addr) (f : Str) : Sp := sp2 fun x v H Q _ => ∃ a, x = .ref a ∧ H a = some (exo a C none) ∧ ∀ dx, H dx = none → dx ≠ a → Q .non (upd (upd H dx (exd dx [(f, v)])) a (exo a C (some dx)))
def OKx (P : Program) (w : World) (K : PySem.W.Frag) (mg : Str → Option Value) (base : Heap) (x f : Str) (C : Addr) : Prop :=
  mg x = some (.ref C) ∧ OexC K C ∧ PySem.W.findIn K (.ref C) f = some none ∧ ∃ (fI : Addr) (fd : FuncData), PySem.W.findIn K (.ref C) "__init__" = some (some (.ref fI)) ∧ PySem.W.typeIn K (.ref fI) = some (.type "function") ∧
    FnOk P w K mg base CX0 1 fI fd ["self", f] (spIni C f) ∧ Binds K fd ["self", f] []
theorem ini_ok {P : Program} {w : World} {K : PySem.W.Frag} {mg : Str → Option Value} {base : Heap} {C fI : Addr} {f q : Str} {st : Stmt} {fd : FuncData} (F : Fun K "__init__" q st fI fd) (S : FnScope ["self", f] ["self", f] (defScope st))
    (ox : OexC K C) (noF : PySem.W.findIn K (.ref C) f = some none)
    (hb : ∀ (cdv : Value) (A : Around) (outer : List Env) (s : Shared) (H : Hp) (E : XK), PSs (cxOf CX0 P w K mg base ["self", f] q (defScope st) fI cdv A outer s H E).nox (defBody st) (tOst K f (tVar 0) (tVar 1))) :
    FnOk P w K mg base CX0 1 fI fd ["self", f] (spIni C f) := by
  refine F.ok S (fun vs H Q E h => len2 vs H Q E h) fun cdv A outer s H vs Q E hr h => ⟨_, hb cdv A outer s H E, ?_⟩
  obtain ⟨x, v, rfl, a, rfl, ha, q⟩ := h
  exact ⟨v, rfl, .ref a, rfl, a, C, rfl, ox, noF, .inl ⟨ha, fun dx n ne => q dx n ne⟩⟩
/-- C(e): an error whose dict, new, holds the field -/
def tMkE (C : Addr) (f : Str) (ta : TA) : L2.St → Hp → XK → Prop := fun σ H Q => ta σ H fun vs H1 => ∃ v, vs = [v] ∧ ∀ d, H1 d = none → Q (.ref C) (some d) (upd H1 d (.xd [(f, v)]))
theorem pa_mono {X : Cx} {es : List Expr} {ta : TA} (ha : PA X es ta) : PA X es fun σ H R => ∃ Q1 : List V → Hp → Prop, ta σ H Q1 ∧ ∀ vs H1, Q1 vs H1 → R vs H1 := by
  refine ⟨fun pos pins s σ H Q I h => ?_⟩
  obtain ⟨Q1, h, hi⟩ := h
  exact thn (ha.run pos pins s σ H Q1 I h) fun us s1 ⟨vs, H1, J, r, q⟩ => ⟨vs, H1, J, r, hi vs H1 q⟩
theorem pmk_E {X : Cx} {x f : Str} {C : Addr} {e : Expr} {ta : TA} {p pos : Pos} {k : Nat} (G : OKx X.prog X.w X.K X.mg X.base x f C) (hr : Room (k + 2) X.A) (ha : PA X [e] ta) (hg : Gl X x := by rfl) (hdb : (x == ("__debug__" : Str)) = false := by decide)
    (he : starEach [e] X.env = (false, eval e X.env) :: starEach [] X.env := by rfl) (hpl : (backTo pos (starEach [] X.env)).any (·.1) = false := by rfl) :
    PMk X (.Call (.Name x p) [e] [] pos) (tMkE C f ta) := by
  obtain ⟨hm, ox, noF, fI, fd, iC, tI, F, hb⟩ := G
  intro pins s σ H Q I h
  refine pmk_oex (k := 1) (dvs := []) ox iC tI F (hr.mono (by omega)) hb .nil pass0 hg hm (pa_mono ha) hdb he hpl pins s σ H Q I ⟨_, h, fun vs H1 hq => ?_⟩
  obtain ⟨v, rfl, q⟩ := hq
  refine ⟨by show 1 ≤ 1000; omega, fun a na => ⟨.ref a, v, rfl, a, rfl, upd_same, fun dx nd ne => ⟨rfl, dx, [(f, v)], upd_same, ?_, ?_, ?_⟩⟩⟩
  · rw [upd_ne ne, upd_same]
  · rw [upd_ne ne] at nd; exact nd
  · have n2 : H1 dx = none := by rw [upd_ne ne] at nd; exact nd
    have e1 : upd (del (upd (upd (upd H1 a (exo a C none)) dx (exd dx [(f, v)])) a (exo a C (some dx))) a) dx (.xd [(f, v)]) = upd H1 dx (.xd [(f, v)]) := by
      funext b
      by_cases hb : b = dx
      · rw [hb, upd_same, upd_same]
      · rw [upd_ne hb, upd_ne hb]
        by_cases ha : b = a
        · rw [ha, del_same, na]
        · rw [del_ne ha, upd_ne ha, upd_ne hb, upd_ne ha]
    rw [e1]
    exact q dx n2
def tRaiseP (t : L2.St → Hp → XK → Prop) (W : WX) : TS := fun _ σ H => t σ H fun cls d H' => W cls d σ H'
theorem ps_raiseP {X : Cx} {W : WX} {e : Expr} {t : L2.St → Hp → XK → Prop} {pos : Pos} (hc : X.calm = true) (tk : Takes X W) (he : PMk X e t) : PS X (.Raise (some e) none pos) (tRaiseP t W) := ps_raise hc tk he
/-! ### isinstance(e, C) of a caught error, e.f -/
/-- the class of a caught error, for isinstance -/
structure ExcD (K : PySem.W.Frag) (D : Addr) : Prop where
  cl : (PySem.W.clsIn K D).isSome = true
  hg : PySem.W.findIn K (.ref D) "__getattribute__" = some (some (.builtin "BaseException.__getattribute__"))
  hk : PySem.W.findIn K (.ref D) "__getattr__" = some none
  hs : PySem.W.subIn K (.ref D) (.type "BaseException") = some true
  hd : PySem.W.hasDictIn K D = true
  ha : PySem.W.findIn K (.ref D) "__class__" = some (some (.builtin "object.__class__"))
  hn : PySem.W.specialIn K (.builtin "object.__class__") "__get__" = some (some (.builtin "getset_descriptor.__get__"))
  ht : PySem.W.takesIn K (.builtin "object.__class__") = some true
  hm : PySem.W.mroIn K D (.type "object") = some true
theorem ExcD.xf {K : PySem.W.Frag} {D : Addr} (T : ExcD K D) : XfC K D := ⟨T.hg, T.hk, T.hs, T.hd⟩
def rIsX (K : PySem.W.Frag) (a : Addr) (cls : Value) (d : Option Addr) : RC := fun xs H Q => ∃ (D dd : Addr) (fs : List (Str × V)) (c : V) (cv : Value) (b : Bool),
  xs = [.ref a, c] ∧ cls = .ref D ∧ d = some dd ∧ H dd = some (.xd fs) ∧ ExcD K D ∧ ClsV c cv ∧ PySem.W.kitOne K (.ref D) cv = some b ∧ Q (.bl b) H
theorem call_isX {X : Cx} {a : Addr} {oe : Obj} {cls : Value} {d : Option Addr} {pn : List (Addr × Obj)} (hz : Zc cls d oe) (hf : ∃ vs, oe.data = .fields vs) : CallR (X.suite a ((a, oe) :: pn)) (.builtin "isinstance") (rIsX X.K a cls d) := by
  intro pins s σ H xs us Q I r h
  obtain ⟨D, dd, fs, c, cv, b, rfl, rfl, rfl, hdd, T, kc, e, q⟩ := h
  obtain ⟨u1, u2, rfl, r1, r2⟩ := vals2 r
  obtain rfl : u1 = Value.ref a := r1
  obtain rfl := kc.eq r2
  obtain ⟨hget, _⟩ := I.pin (a, oe) (List.mem_append_left _ List.mem_cons_self)
  obtain ⟨vs, hv⟩ := hf
  have hx : ObjOk X.prog X.w H s.heap dd (.xd fs) := I.hok dd _ hdd
  obtain ⟨mA, ⟨o, es, ep, ho, _⟩, _⟩ := hx
  have J : PySem.W.InstAt s.heap a oe D (some o) := ⟨hget, hz.1, by unfold PySem.W.notCls; rw [hv] <;> rfl, by rw [hz.2]; exact ho⟩
  exact PySem.W.kia_one (PySem.W.kitx_exc T.cl T.hg T.hk T.hs T.ha T.hn T.ht T.hm) I.kIn J e (fun z => nomatch z) fun tk => ⟨.bl b, H, I.tok tk, rfl, q⟩
section
variable {σ : L2.St} {H : Hp} {D : Ends} {t : L2.St → Hp → XK → Prop} {W : WX} {Q : XK} {C : Addr} {f : Str} {ta : TA} {v : V} {P : V → Prop}
theorem i_raise (q : t σ H fun cls d H' => W cls d σ H') : tRaiseP t W D σ H := q
theorem i_mkE (q : ta σ H fun vs H1 => ∃ v, vs = [v] ∧ ∀ d, H1 d = none → Q (.ref C) (some d) (upd H1 d (.xd [(f, v)]))) : tMkE C f ta σ H Q := q
theorem i_ex1 (q : P v) : ∃ u, [v] = [u] ∧ P u := ⟨v, rfl, q⟩
end
/-- the wish for an error of the class at C whose dict, new, holds f = v -/
def Rz (E : XK) (H : Hp) (C : Addr) (f : Str) (v : V) : Prop := ∀ d H', H d = none → Same H H' → H' d = some (.xd [(f, v)]) → E (.ref C) (some d) H'
theorem Rz.mono {E : XK} {H H1 : Hp} {C : Addr} {f : Str} {v : V} (h : Rz E H C f v) (s : Same H H1) : Rz E H1 C f v := fun d H' n s' e => h d H' (s.free n) (s.trans s') e
theorem Rz.at {E : XK} {H : Hp} {C : Addr} {f : Str} {v : V} (h : Rz E H C f v) {d : Addr} (n : H d = none) : E (.ref C) (some d) (upd H d (.xd [(f, v)])) :=
  h d _ n (fun b o e => by rw [upd_ne (ne_of_none e n)]; exact e) upd_same
/-! ### min of some texts -/
def rMinS (K : PySem.W.Frag) : RC := fun vs H Q => ∃ (a : Addr) (xs : List (List Nat)), vs = [V.ref a] ∧ SqL K H a (xs.map S) ∧ xs ≠ [] ∧ ∀ m, m ∈ xs → (∀ y ∈ xs, ¬ y < m) → Q (S m) H
theorem argBest_min (val : Nat → List Nat) : ∀ k, argBest (fun i j => decide (val i < val j)) k ≤ k ∧ ∀ j, j ≤ k → ¬ val j < val (argBest (fun i j => decide (val i < val j)) k)
  | 0 => ⟨Nat.le_refl _, fun j hj => by
    have : j = 0 := by omega
    subst this
    exact List.lt_irrefl _⟩
  | k + 1 => by
    obtain ⟨h1, h2⟩ := argBest_min val k
    unfold argBest
    by_cases h : val (k + 1) < val (argBest (fun i j => decide (val i < val j)) k)
    · rw [if_pos (decide_eq_true h)]
      refine ⟨Nat.le_refl _, fun j hj => ?_⟩
      by_cases e : j = k + 1
      · subst e; exact List.lt_irrefl _
      · exact fun z => h2 j (by omega) (List.lt_trans z h)
    · rw [if_neg (by simpa using h)]
      refine ⟨by omega, fun j hj => ?_⟩
      by_cases e : j = k + 1
      · subst e; exact h
      · exact h2 j (by omega)
theorem cmp_strs {prog : Program} {w : World} {A : Around} {P : Nat → Value → Prop} (val : Nat → List Nat) (hval : ∀ i v, P i v → ∃ t, v = .str ⟨(val i).toArray⟩ t) : CmpOf prog w A .Lt P (fun i j => decide (val i < val j)) := fun i j vi vj s Q E hi hj h => by
  obtain ⟨t, rfl⟩ := hval i vi hi
  obtain ⟨u, rfl⟩ := hval j vj hj
  refine richCompare_gives (op := .Lt) (typeIs_str s _ t) (typeIs_str s _ u) F.slot_str_lt F.entry_str_lt (F.args_str_lt_2 _ _) (gives_str_lt _ _ t u) (fun x => nomatch x) ?_
  show Q (Value.bool (decide ((val i).toArray.toList < (val j).toArray.toList))) s
  simpa using h
theorem cr_minS {X : Cx} (hc : X.calm = true) : CallR X (.builtin "min") (rMinS X.K) := by
  intro pins s σ H vs us Q I r h
  obtain ⟨a, xs, rfl, hs, hne, q⟩ := h
  obtain ⟨its, rv, hl, _⟩ := I.list hs
  rw [Vals.ref1 r]
  have hlen : xs.length = its.length := by have := rv.length; rw [List.length_map] at this; exact this
  have hpos : 0 < its.length := by rw [← hlen]; exact List.length_pos_iff.mpr hne
  have hL := hl.isList
  have ha : a < s.heap.objs.size := by obtain ⟨_, e, _⟩ := id hL; exact Heap.lt_size e
  have hval : ∀ (i : Nat) (v : Value), its.toArray[i]? = some v → ∃ t, v = Value.str ⟨(xs.getD i []).toArray⟩ t := fun i v hv => by
    have hv' : its[i]? = some v := by simpa using hv
    have hi : i < xs.length := by rw [hlen]; exact (List.getElem?_eq_some_iff.mp hv').1
    obtain ⟨u, hu, ru⟩ := rv.get (i := i) (x := S (xs.getD i [])) (by rw [List.getElem?_map, List.getElem?_eq_getElem hi, List.getD_eq_getElem?_getD, List.getElem?_eq_getElem hi]; rfl)
    rw [hv'] at hu
    cases hu
    exact ru
  refine call_min_walk (wpAny_pyIter_list hL ?_)
  refine ⟨_, _, _, _, _, _, _, rfl, Walks.list (A := X.A.in1) (I.ok.hd hc) s.heap.objs.size a (Nat.ne_of_lt ha) its.toArray,
    ⟨⟨_, Heap.get?_push_size _ rfl, rfl, rfl⟩, hL.push _⟩, fun b hb => ?_, by simpa using hpos, cmp_strs (fun i => xs.getD i []) hval, fun v h' tk hP hk => ?_⟩
  · show b < (s.heap.push _).objs.size
    rw [Heap.size_push]
    rcases List.mem_cons.mp hb with e | hb
    · rw [e]; exact Nat.lt_succ_self _
    · rw [List.mem_singleton.mp hb]; exact Nat.lt_succ_of_lt ha
  · obtain ⟨t, rfl⟩ := hval _ v hP
    obtain ⟨b1, b2⟩ := argBest_min (fun i => xs.getD i []) (its.toArray.size - 1)
    have sz : its.toArray.size = xs.length := by simp [hlen]
    have hb : argBest (fun i j => decide (xs.getD i [] < xs.getD j [])) (its.toArray.size - 1) < xs.length := by omega
    refine ⟨S (xs.getD _ []), H, I.kept (t' := tk) fun b u e => hk b u (fun hm => ?_) (Heap.get?_push_of_some _ e), ⟨t, rfl⟩, q _ ?_ fun y hy => ?_⟩
    · have e1 : b = s.heap.objs.size := List.mem_singleton.mp hm
      have e2 := Heap.lt_size e
      rw [e1] at e2
      exact absurd e2 (Nat.lt_irrefl _)
    · rw [List.getD_eq_getElem?_getD, List.getElem?_eq_getElem hb]
      exact List.getElem_mem hb
    · obtain ⟨i, hi, e⟩ := List.mem_iff_getElem.mp hy
      have e2 : xs.getD i [] = y := by rw [List.getD_eq_getElem?_getD, List.getElem?_eq_getElem hi, ← e]; rfl
      rw [← e2]
      exact b2 i (by omega)
theorem i_minS {K : PySem.W.Frag} {H : Hp} {Q : VK} {a : Addr} {xs : List (List Nat)} (hs : SqL K H a (xs.map S)) (hne : xs ≠ []) (q : ∀ m, m ∈ xs → (∀ y ∈ xs, ¬ y < m) → Q (S m) H) : rMinS K [.ref a] H Q := ⟨a, xs, rfl, hs, hne, q⟩
/-! ### the rules, the written part named -/
section
variable {X : Cx} (K : PySem.W.Frag) {e o : Expr} {es : List Expr} {te to : TE} {ta : TA} {tg : Expr} {p pos apos cpos tpos : Pos} {elts : List Expr} {kk : Nat}
theorem opAdd (h : X.K = K := by rfl) : OpR X (binaryOp .Add) (addP K) := h ▸ op_addP
theorem opEq (hu : X.A.units + 64 < cLine) (h : X.K = K := by rfl) : OpR X (compareOp .Eq) (eqP K) := h ▸ op_eqP hu
theorem opNe (hu : X.A.units + 64 < cLine) (h : X.K = K := by rfl) : OpR X (compareOp .NotEq) (neP K) := h ▸ op_neP hu
theorem opIn (h : X.K = K := by rfl) : OpR X (compareOp .In) (inP K) := h ▸ op_inP
theorem opNotIn (h : X.K = K := by rfl) : OpR X (compareOp .NotIn) (notInP K) := h ▸ op_notInP
theorem ixK (h : X.K = K := by rfl) : IxR X (ixP K) := h ▸ ix_P
theorem slK (h : X.K = K := by rfl) : SlR X (slP K) := h ▸ sl_P
theorem piAny (he : PE X e te) (h : X.K = K := by rfl) : PI X tg e (iAny K te) := h ▸ pi_any he
theorem piEnum (hg : Gl X "enumerate") (hm : X.mg "enumerate" = none) (ha : PA X [e] ta) (h : X.K = K := by rfl) (hs : starEach [e] X.env = [(false, eval e X.env)] := by rfl) :
    PI X (.Tuple elts kk tpos) (.Call (.Name "enumerate" p) [e] [] pos) (iEnumP K ta) := h ▸ pi_enumP hg hm ha hs
theorem cLen (h : X.K = K := by rfl) : CallR X (.builtin "len") (rLenP K) := h ▸ call_lenP
theorem cSum (hc : X.calm = true) (h : X.K = K := by rfl) : CallR X (.builtin "sum") (rSum K) := h ▸ cr_sum hc
theorem cAll (hc : X.calm = true) (h : X.K = K := by rfl) : CallR X (.builtin "all") (rAll K) := h ▸ cr_all hc
theorem cTup (h : X.K = K := by rfl) : CallR X (.type "tuple") (rTupP K) := h ▸ call_tupP
theorem cIsi (h : X.K = K := by rfl) : CallR X (.builtin "isinstance") (rIsi K) := h ▸ call_isi
theorem cMinS (hc : X.calm = true) (h : X.K = K := by rfl) : CallR X (.builtin "min") (rMinS K) := h ▸ cr_minS hc
theorem cSortedS (h : X.K = K := by rfl) : CallR X (.builtin "sorted") (rSortedS K) := h ▸ cr_sortedS
theorem peJoin (ho : PE X o to) (he : PE X e te) (h : X.K = K := by rfl) (hs : starEach [e] X.env = [(false, eval e X.env)] := by rfl) (hbase : attributeBase o "join" X.env (eval o X.env) = eval o X.env := by rfl) (hline : (apos.endLine == pos.line) = true := by rfl) :
    PE X (.Call (.Attribute o "join" apos) [e] [] pos) (tM1 (rJoinP K) to te) := h ▸ pe_joinP ho he hs hbase hline
theorem pgTup {t : TGs} {n : Nat} (hc : X.calm = true) (ht : PGs X es t) (h : X.K = K := by rfl) (hn : (assignEach es X.env).length = n := by rfl) (hst : (assignEach es X.env).findIdx? (·.1) = none := by rfl) :
    PG X (.Tuple es kk pos) (gTup K n t) := h ▸ pg_tup hc ht hn hst
/-- xs.append(e) -/
def tApp (K : PySem.W.Frag) (to : TE) (t : TA) : TE := tBM K "list" rAppend to t
theorem peApp (ho : PE X o to) (ha : PA X (e :: es) ta) (h : X.K = K := by rfl) (hbase : attributeBase o "append" X.env (eval o X.env) = eval o X.env := by rfl)
    (hfew : ((backTo cpos (starEach (e :: es) X.env)).all (fun x => !x.1) && (backToKw cpos (keywordEach [] X.env)).all (fun x => x.1.isSome)
      && decide ((e :: es).length + ([] : List Keyword).length + (if ([] : List Keyword).isEmpty then 0 else 1) < 30)) = true := by rfl)
    (hline : (apos.endLine == cpos.line) = true := by rfl) (hs : starEach (e :: es) X.env = (false, eval e X.env) :: starEach es X.env := by rfl) (hplain : (backTo cpos (starEach es X.env)).any (·.1) = false := by rfl) :
    PE X (.Call (.Attribute o "append" apos) (e :: es) [] cpos) (tApp K to ta) := h ▸ pe_bm PySem.F.plainAttrs_list PySem.F.slot_list_append PySem.F.type_list_append mt_append ho ha hbase hfew hline hs hplain
end
section
variable {K : PySem.W.Frag} {σ : L2.St} {H : Hp} {Q : VK} {te : TE} {ta : TA} {l : Addr} {xs : List V} {v : V}
theorem i_app (q : te σ H fun x H1 => tyV K "list" x H1 ∧ ta σ H1 fun xs H2 => rAppend x xs H2 Q) : tApp K te ta σ H Q := q
theorem i_appAt (h : H l = some (.lst xs)) {P : Prop} (q : P) : tyV K "list" (.ref l) H ∧ P := ⟨.inl ⟨rfl, _, .inl (.inl h)⟩, q⟩
theorem i_appEnd (h : H l = some (.lst xs)) (hz : xs.length < 100000) (q : Q .non (upd H l (.lst (xs ++ [v])))) : rAppend (.ref l) [v] H Q := ⟨l, xs, v, rfl, rfl, h, Nat.lt_trans hz (by decide), q⟩
end
/-! ### stores into lists; a word between two statements -/
section
variable {σ : L2.St} {H : Hp} {D : Ends} {t u : TS} {to ti : TE} {v : V} {Qs : L2.St → Hp → Prop} {Qh : Hp → Prop} {p : Addr} {xs ys : List V} {z : Int}
theorem i_gsub {ts : TSet} (q : to σ H fun o H1 => ti σ H1 fun i H2 => ts o i v H2 fun H3 => Qs σ H3) : gSub to ti ts v σ H Qs := q
theorem i_setL (j : Nat) (h : H p = some (.lst xs)) (hj : ixN xs.length z = some j) (e : xs.set j v = ys) (q : Qh (upd H p (.lst ys))) : rSetL (.ref p) (.int z) v H Qh := ⟨p, xs, z, j, rfl, rfl, h, hj, by rw [e]; exact q⟩
theorem i_cut (Mid : L2.St → Hp → Prop) (h1 : t { D with nx := Mid } σ H) (h2 : ∀ σ' H', Mid σ' H' → u D σ' H') : Evl.tCut t u D σ H := ⟨Mid, h1, h2⟩
end
/-! ### "".join -/
theorem joinL_nil : ∀ ls : List (List Nat), TL.joinL [] ls = ls.flatten
  | [] => rfl
  | [p] => by simp [TL.joinL]
  | p :: q :: r => by
    show p ++ ([] ++ TL.joinL [] (q :: r)) = _
    rw [joinL_nil (q :: r)]
    rfl
theorem join_nil (ls : List (List Nat)) : Txt.join ⟨([] : List Nat).toArray⟩ (ls.map fun l => (⟨l.toArray⟩ : Str)) = ⟨ls.flatten.toArray⟩ := by
  refine TL.ext_tl ?_
  rw [TL.join_eq, TL.tl_join, List.map_map]
  show TL.joinL ([] : List Nat).toArray.toList (ls.map fun l => l.toArray.toList) = ls.flatten.toArray.toList
  simp [joinL_nil]
theorem i_join0 {K : PySem.W.Frag} {H : Hp} {Q : VK} {p : Addr} {ls : List (List Nat)} (hs : SqL K H p (ls.map S)) (hz : (ls.map List.length).sum ≤ 100000) (q : Q (S ls.flatten) H) : rJoinP K (S []) [.ref p] H Q := by
  refine ⟨⟨([] : List Nat).toArray⟩, p, ls.map fun l => (⟨l.toArray⟩ : Str), rfl, rfl, .inl ?_, ?_, ?_⟩
  · rw [List.map_map]; exact hs
  · rw [List.map_map]
    have e : (ls.map ((·.length) ∘ fun l => (⟨l.toArray⟩ : Str))) = ls.map List.length := List.map_congr_left fun l _ => str_len l
    rw [e]
    show (ls.map List.length).sum + _ * ([] : List Nat).toArray.size ≤ _
    simp
    omega
  · rw [join_nil]; exact q
theorem flat_one (cs : List Nat) : (cs.map fun c => [c]).flatten = cs := by
  induction cs with
  | nil => rfl
  | cons a r ih => rw [List.map_cons, List.flatten_cons, ih]; rfl
theorem len_one (cs : List Nat) : ((cs.map fun c => [c]).map List.length).sum = cs.length := by
  induction cs with
  | nil => rfl
  | cons a r ih => rw [List.map_cons, List.map_cons, List.sum_cons, ih, List.length_cons, List.length_cons, List.length_nil]; omega
/-- .. of signs -/
theorem i_join1 {K : PySem.W.Frag} {H : Hp} {Q : VK} {p : Addr} {cs : List Nat} (hs : SqL K H p (cs.map fun c => S [c])) (hz : cs.length ≤ 100000) (q : Q (S cs) H) : rJoinP K (S []) [.ref p] H Q := by
  refine i_join0 (ls := cs.map fun c => [c]) (by rw [List.map_map]; exact hs) (by rw [len_one]; exact hz) ?_
  rw [flat_one]
  exact q
theorem i_yes {σ : L2.St} {H : Hp} {QB : Bool → Hp → Prop} (q : QB true H) : tYes σ H QB := q
/-! ### sorted(some texts): its first -/
theorem ltCps_dec : ∀ a b : List Nat, Spec.ltCps a b = decide (a < b)
  | [], [] => by rw [decide_eq_false (List.lt_irrefl _)]; rfl
  | [], b :: t => by rw [decide_eq_true (List.nil_lt_cons b t)]; rfl
  | a :: r, [] => by rw [decide_eq_false (List.not_lt_nil _)]; rfl
  | a :: r, b :: t => by
    show (decide (a < b) || (a == b && Spec.ltCps r t)) = _
    rw [ltCps_dec r t, Bool.eq_iff_iff]
    simp [List.cons_lt_cons_iff]
theorem rising_all : ∀ (r : List Str) (p : Str), PyProof.Rows.risingS p r = true → ∀ y ∈ r, ¬ y.cps.toList < p.cps.toList
  | [], p, _, y, hy => by simp at hy
  | x :: r, p, h, y, hy => by
    have h' : (!Spec.ltCps x.cps.toList p.cps.toList && PyProof.Rows.risingS x r) = true := h
    rw [Bool.and_eq_true, ltCps_dec] at h'
    have h1 : ¬ x.cps.toList < p.cps.toList := by simpa using h'.1
    rcases List.mem_cons.mp hy with rfl | hy
    · exact h1
    · have h2 := rising_all r x h'.2 y hy
      rw [List.not_lt] at h1 h2 ⊢
      exact List.le_trans h1 h2
theorem i_sortedS {K : PySem.W.Frag} {H : Hp} {Q : VK} {a : Addr} {ls : List (List Nat)} (hs : SqL K H a (ls.map S)) (h64 : ls.length < 64)
    (q : ∀ (zs : List (List Nat)) (p : Addr), zs.Perm ls → (∀ m, zs[0]? = some m → m ∈ ls ∧ ∀ y ∈ ls, ¬ y < m) → H p = none → Q (.ref p) (upd H p (.lst (zs.map S)))) : rSortedS K [.ref a] H Q := by
  refine ⟨a, ls.map fun l => (⟨l.toArray⟩ : Str), rfl, by rw [List.map_map]; exact hs, by rw [List.length_map]; exact h64, fun ys p pm srt np => ?_⟩
  have e : ys = (ys.map fun z => z.cps.toList).map fun l => (⟨l.toArray⟩ : Str) := by
    rw [List.map_map]
    have : ys.map ((fun l => (⟨l.toArray⟩ : Str)) ∘ fun z => z.cps.toList) = ys.map id := List.map_congr_left fun z _ => rfl
    rw [this, List.map_id]
  have pm2 : (ys.map fun z => z.cps.toList).Perm ls := by
    have := pm.map fun z : Str => z.cps.toList
    rw [List.map_map] at this
    have e2 : ls.map ((fun z : Str => z.cps.toList) ∘ fun l => (⟨l.toArray⟩ : Str)) = ls.map id := List.map_congr_left fun l _ => rfl
    rw [e2, List.map_id] at this
    exact this
  have := q (ys.map fun z => z.cps.toList) p pm2 (fun m hm => ?_) np
  · rw [List.map_map] at this
    have e3 : ys.map (S ∘ fun z => z.cps.toList) = ys.map V.str := List.map_congr_left fun z _ => rfl
    rw [e3] at this
    exact this
  · have hmem : m ∈ ys.map fun z => z.cps.toList := List.mem_of_getElem? hm
    refine ⟨pm2.mem_iff.mp hmem, fun y hy => ?_⟩
    have hy2 := pm2.mem_iff.mpr hy
    obtain ⟨z, hz, rfl⟩ := List.mem_map.mp hy2
    cases ys with
    | nil => simp at hz
    | cons x r =>
      have hm' : x.cps.toList = m := by simpa using hm
      rw [← hm']
      have srt' : PyProof.Rows.risingS x r = true := srt
      rcases List.mem_cons.mp hz with rfl | hz
      · exact List.lt_irrefl _
      · exact rising_all r x srt' z hz
/-! ### isinstance(e, C), e.f in a suite; data compared -/
section
variable {K : PySem.W.Frag} {σ : L2.St} {H : Hp} {Q : VK} {a dd D C : Addr} {fs : List (Str × V)} {c x y v : V} {cv : Value} {b r : Bool} {i : Nat} {f : Str} {d1 d2 : PyData}
theorem i_isX (hdd : H dd = some (.xd fs)) (T : ExcD K D) (kc : ClsV c cv) (e : PySem.W.kitOne K (.ref D) cv = some b) (q : Q (.bl b) H) : rIsX K a (.ref D) (some dd) [.ref a, c] H Q := ⟨D, dd, fs, c, cv, b, rfl, rfl, rfl, hdd, T, kc, e, q⟩
theorem i_xf (h : σ[i]? = some (some (.ref a))) (hdd : H dd = some (.xd [(f, v)])) (q : Q v H) : tXf a (.ref C) (some dd) C f (tVar i) σ H Q := ⟨.ref a, h, rfl, rfl, dd, _, v, rfl, hdd, by simp [List.lookup], q⟩
theorem i_eq_data (h1 : Dp K H x d1) (h2 : Dp K H y d2) (s1 : SeqAt.shaped d1 = true) (s2 : SeqAt.shaped d2 = true) (e : PyData.eqv d1 d2 = r) (q : Q (.bl r) H) : eqP K x y H Q := .inr ⟨d1, d2, h1, h2, s1, s2, by rw [e]; exact q⟩
theorem i_ne_data (h1 : Dp K H x d1) (h2 : Dp K H y d2) (s1 : SeqAt.shaped d1 = true) (s2 : SeqAt.shaped d2 = true) (e : PyData.eqv d1 d2 = r) (q : Q (.bl (!r)) H) : neP K x y H Q := .inr ⟨d1, d2, h1, h2, s1, s2, by rw [e]; exact q⟩
theorem dp_bls (bs : List Bool) : DpAll K H (bs.map V.bl) (bs.map PyData.bool) := by
  induction bs with
  | nil => exact .nil
  | cons b r ih => exact .cons (.bl b) ih
theorem dp_ints (ns : List Int) : DpAll K H (ns.map V.int) (ns.map PyData.int) := by
  induction ns with
  | nil => exact .nil
  | cons b r ih => exact .cons (.int b) ih
end
theorem cIsX (K : PySem.W.Frag) {X : Cx} {a : Addr} {oe : Obj} {cls : Value} {d : Option Addr} {pn : List (Addr × Obj)} (hz : Zc cls d oe) (hf : ∃ vs, oe.data = .fields vs) (h : X.K = K := by rfl) : CallR (X.suite a ((a, oe) :: pn)) (.builtin "isinstance") (rIsX K a cls d) := h ▸ call_isX hz hf
/-- what a clause asks, at an error of a class that it names -/
theorem i_caught {K : PySem.W.Frag} {C : Addr} {c : Value} {i : Nat} {ts : Addr → Value → Option Addr → TS} {Wout : WX} {D : Ends} {d : Option Addr} {σ : L2.St} {H : Hp} (h : PySem.W.exmOne K (.ref C) c = some true)
    (q : ∀ a, H a = none → ts a (.ref C) d { nx := fun σ' H' => D.nx (σ'.set i none) H', rt := D.rt, bk := fun σ' H' => D.bk (σ'.set i none) H', ct := fun σ' H' => D.ct (σ'.set i none) H' } (σ.set i (some (.ref a))) H) : wAs K c i ts Wout D (.ref C) d σ H :=
  ⟨true, h, fun _ => q, fun z => nomatch z⟩
/-! ### isinstance and clauses, from what stands of the classes -/
theorem kit_ref {K : PySem.W.Frag} {C D : Addr} {b : Bool} (hi : PySem.W.isClsIn K D = true) (ht : PySem.W.typeIn K (.ref D) = some (.type "type")) (hs : PySem.W.subIn K (.ref D) (.ref D) = some true) (e : PySem.W.subIn K (.ref C) (.ref D) = some b) : PySem.W.kitOne K (.ref C) (.ref D) = some b := by
  unfold PySem.W.kitOne
  by_cases h : C = D
  · subst h
    rw [hs] at e
    rw [if_pos (beq_self_eq_true _)]
    exact e
  · rw [if_neg (fun z => h (by simpa using z))]
    show (if ((PySem.W.clsIn K D).isSome && PySem.W.typeIn K (.ref D) == some (.type "type")) = true then PySem.W.subIn K (.ref C) (.ref D) else none) = _
    rw [show (PySem.W.clsIn K D).isSome = true from hi, ht, if_pos (by simp)]
    exact e
theorem kit_base {K : PySem.W.Frag} {C : Addr} {T : String} {b : Bool} (hm : PySem.W.kitMeta T = true) (e : PySem.W.subIn K (.ref C) (.type T) = some b) : PySem.W.kitOne K (.ref C) (.type T) = some b := by
  unfold PySem.W.kitOne
  rw [if_neg (by simp)]
  show (if PySem.W.kitMeta T = true then PySem.W.subIn K (.ref C) (.type T) else none) = _
  rw [if_pos hm]
  exact e
theorem exm_ref {K : PySem.W.Frag} {C D : Addr} {b : Bool} (hi : PySem.W.isClsIn K D = true) (ht : PySem.W.typeIn K (.ref D) = some (.type "type")) (hb : PySem.W.subIn K (.ref D) (.type "BaseException") = some true) (e : PySem.W.subIn K (.ref C) (.ref D) = some b) : PySem.W.exmOne K (.ref C) (.ref D) = some b := by
  unfold PySem.W.exmOne
  rw [hb, if_pos (by simp)]
  show (if ((PySem.W.clsIn K D).isSome && PySem.W.typeIn K (.ref D) == some (.type "type")) = true then PySem.W.subIn K (.ref C) (.ref D) else none) = _
  rw [show (PySem.W.clsIn K D).isSome = true from hi, ht, if_pos (by simp)]
  exact e
/-! ### what is never come to; a comprehension in a comprehension -/
theorem pe_never {X : Cx} {e : Expr} : PE X e (fun _ _ _ => False) := ⟨fun _ _ _ _ _ _ h => h.elim⟩
theorem passN {X : Cx} : Passes (L2.CX X.prog X.w) X E0 := fun _ _ _ _ _ _ _ ⟨_, _, _, _, _, _, _, _, _, _, _, _, h⟩ => h.elim
theorem pss_never {X : Cx} {st : List Stmt} : PSs X st (fun _ _ _ => False) := ⟨fun _ _ _ _ _ _ h => h.elim⟩
theorem blkOk_in {N : List Str} {sc scope scope2 : Scope} {own : List (Str × Nat)} {X : Cx} {s : Shared} {H : Hp} {cl : List (Str × Addr)} {C : Addr} {fp : List Addr} (hN : X.N = N) (he : X.env.scope = sc) (h : blkC N (relS scope sc) scope2 own = true) :
    BlkOk (X.blk s H scope (compEnvC scope cl C X.env) fp).N (X.blk s H scope (compEnvC scope cl C X.env) fp).env.scope scope2 own := by
  subst hN he
  exact blkOk_by h
theorem i_is_bl {H : Hp} {Q : VK} {b : Bool} (q : Q (.bl false) H) : isP (.bl b) .non H Q := ⟨rfl, q⟩
theorem i_isn_bl {H : Hp} {Q : VK} {b : Bool} (q : Q (.bl true) H) : isNotP (.bl b) .non H Q := ⟨rfl, q⟩
theorem i_int_bl {H : Hp} {Q : VK} {b : Bool} (q : Q (.int (if b then 1 else 0)) H) : rIntP [.bl b] H Q := .inr ⟨b, rfl, q⟩
section
variable {K : PySem.W.Frag} {σ : L2.St} {H : Hp} {Q : VK} {D : Ends} {te : TE} {ta : TA} {i j : Nat} {u v w x : V} {a : Addr} {Qs : L2.St → Hp → Prop}
theorem i_par (q : ta σ H fun vs H1 => ∃ v w, vs = [v, w] ∧ D.nx ((σ.set i (some v)).set j (some w)) H1) : tPar i j ta D σ H := q
theorem i_par2 (q : D.nx ((σ.set i (some v)).set j (some w)) H) : ∃ v' w', [v, w] = [v', w'] ∧ D.nx ((σ.set i (some v')).set j (some w')) H := ⟨v, w, rfl, q⟩
theorem i_aug {ti : TIp} (h : σ[i]? = some (some x)) (q : te σ H fun y H1 => ti x y H1 fun z H2 => D.nx (σ.set i (some z)) H2) : tAug i te ti D σ H := ⟨x, h, q⟩
theorem i_ipI {f : Int → Int → Int} {a b : Int} (q : Q (.int (f a b)) H) : ipI f (.int a) (.int b) H Q := ⟨a, b, rfl, rfl, q⟩
theorem i_gtup2 (h : SqT K H a [u, v]) (q : Qs ((σ.set i (some u)).set j (some v)) H) : gTup K 2 (gCons (gName i) (gCons (gName j) gNil)) (.ref a) σ H Qs := ⟨a, _, rfl, h, rfl, u, _, rfl, v, _, rfl, rfl, q⟩
theorem i_while {c : TT} {tb : TS} (W : Nat → L2.St → Hp → Prop) (m : Nat) (h0 : W m σ H)
    (h : ∀ m σ H, W m σ H → c σ H fun b H1 => if b = true then ∃ N : L2.St → Hp → Prop, (∀ σ' H', N σ' H' → ∃ m', m' < m ∧ W m' σ' H') ∧ tb { D with nx := N, ct := N, bk := D.nx } σ H1 else D.nx σ H1) : tWhile c tb D σ H := ⟨W, ⟨m, h0⟩, h⟩
theorem i_turn {tb : TS} {W : Nat → L2.St → Hp → Prop} {m : Nat} (q : tb { D with nx := fun σ' H' => ∃ m', m' < m ∧ W m' σ' H', ct := fun σ' H' => ∃ m', m' < m ∧ W m' σ' H', bk := D.nx } σ H) :
    ∃ N : L2.St → Hp → Prop, (∀ σ' H', N σ' H' → ∃ m', m' < m ∧ W m' σ' H') ∧ tb { D with nx := N, ct := N, bk := D.nx } σ H := ⟨_, fun _ _ h => h, q⟩
theorem i_lstRg1 (q : te σ H fun x H1 => ∃ n, x = .int n ∧ RgOk 0 n ∧ ∀ q, H1 q = none → Q (.ref q) (upd H1 q (.lst (rgV 0 n)))) : tLstRg (tRg1 te) σ H Q := q
theorem rgV_nat (n : Nat) : rgV 0 (n : Int) = (List.range n).map fun (i : Nat) => V.int (i : Int) := by
  unfold rgV
  rw [Int.sub_zero, Int.toNat_natCast]
  exact List.map_congr_left fun i _ => by rw [Int.zero_add]
theorem i_rg {n : Nat} {P : Addr → Prop} (hn : n ≤ 100000) (q : ∀ q, H q = none → P q) : RgOk 0 (n : Int) ∧ ∀ q, H q = none → P q := ⟨⟨by omega, by omega, by omega, by omega, by omega⟩, q⟩
end
end Fg
/-! Loops and comprehensions, by what a turn does. -/
namespace Fg
open PySem PySem.Spec PyProof.Rows L2
theorem same_upd {H : Hp} {p : Addr} {o : HO} (h : H p = none) : Same H (upd H p o) := fun b x e => by
  rw [upd_ne (ne_of_none e h)]
  exact e
theorem Same.upd {H H' : Hp} {p : Addr} {o : HO} (e : Same H H') (h : H p = none) : Same H (upd H' p o) := fun b x eb => by
  rw [upd_ne (ne_of_none eb h)]
  exact e b x eb
theorem Same.tup {K : PySem.W.Frag} {H H' : Hp} {a : Addr} {xs : List V} (e : Same H H') (h : SqT K H a xs) : SqT K H' a xs := by
  rcases h with (h | ⟨o, h⟩) | h
  · exact .inl (.inl (e _ _ h))
  · exact .inl (.inr ⟨o, e _ _ h⟩)
  · exact .inr h
section
variable {K : PySem.W.Frag} {σ : L2.St} {H : Hp} {Q : VK} {D : Ends} {te tl : TE} {tt : TT} {ta : TA} {tb : TS} {j : Nat} {g : TG} {a : Addr} {xs : List V} {z : List Nat} {vs : List Nat}
/-- for j in range(n) -/
theorem f_rng1 (n : Nat) (ha : ∀ R : List V → Hp → Prop, R [.int (n : Int)] H → ta σ H R) (hn : n ≤ 100000000) (Pv : Nat → L2.St → Hp → Prop) (h0 : Pv 0 σ H)
    (hs : ∀ i σ' H', i < n → Pv i σ' H' → g (.int (i : Int)) σ' H' fun σ2 H2 => tb { D with nx := Pv (i + 1), ct := Pv (i + 1), bk := D.nx } σ2 H2) (hd : ∀ σ' H', Pv n σ' H' → D.nx σ' H') : tFor (iRng1 ta) g tb D σ H := by
  refine ha _ ⟨(n : Int), rfl, by omega, by omega, ?_⟩
  rw [Int.toNat_natCast]
  refine for_range Pv h0 (fun i σ' H' hi p => ?_) hd
  rw [Int.zero_add]
  exact hs i σ' H' hi p
/-- for j in range(lo, n) -/
theorem f_rng2 (lo n : Nat) (ha : ∀ R : List V → Hp → Prop, R [.int (lo : Int), .int (n : Int)] H → ta σ H R) (hn : lo ≤ 100000 ∧ n ≤ 100000000) (Pv : Nat → L2.St → Hp → Prop) (h0 : Pv 0 σ H)
    (hs : ∀ i σ' H', lo + i < n → Pv i σ' H' → g (.int ((lo + i : Nat) : Int)) σ' H' fun σ2 H2 => tb { D with nx := Pv (i + 1), ct := Pv (i + 1), bk := D.nx } σ2 H2) (hd : ∀ σ' H', Pv (n - lo) σ' H' → D.nx σ' H') : tFor (iRng2 ta) g tb D σ H := by
  refine ha _ ⟨(lo : Int), (n : Int), rfl, ⟨by omega, by omega, by omega, by omega⟩, ?_⟩
  have e : ((n : Int) - (lo : Int)).toNat = n - lo := by omega
  rw [e]
  refine for_range Pv h0 (fun i σ' H' hi p => ?_) hd
  rw [← Int.natCast_add]
  exact hs i σ' H' (by omega) p
theorem f_lst (ha : ∀ R : VK, R (.ref a) H → te σ H R) (hx : SqL K H a xs) (Pv : Nat → L2.St → Hp → Prop) (h0 : Pv 0 σ H) (hl : ∀ i σ' H', i ≤ xs.length → Pv i σ' H' → SqL K H' a xs)
    (hs : ∀ i x σ' H', xs[i]? = some x → Pv i σ' H' → g x σ' H' fun σ2 H2 => tb { D with nx := Pv (i + 1), ct := Pv (i + 1), bk := D.nx } σ2 H2) (hd : ∀ σ' H', Pv xs.length σ' H' → D.nx σ' H') : tFor (iAny K te) g tb D σ H :=
  ha _ (.inl ⟨a, xs, rfl, hx, for_list Pv h0 hl hs hd⟩)
theorem f_tup (ha : ∀ R : VK, R (.ref a) H → te σ H R) (hx : SqT K H a xs) (Pv : Nat → L2.St → Hp → Prop) (h0 : Pv 0 σ H) (hl : ∀ i σ' H', i ≤ xs.length → Pv i σ' H' → SqT K H' a xs)
    (hs : ∀ i x σ' H', xs[i]? = some x → Pv i σ' H' → g x σ' H' fun σ2 H2 => tb { D with nx := Pv (i + 1), ct := Pv (i + 1), bk := D.nx } σ2 H2) (hd : ∀ σ' H', Pv xs.length σ' H' → D.nx σ' H') : tFor (iAny K te) g tb D σ H :=
  ha _ (.inr (.inl ⟨a, xs, rfl, hx, for_tup Pv h0 hl hs hd⟩))
theorem f_str (ha : ∀ R : VK, R (S z) H → te σ H R) (Pv : Nat → L2.St → Hp → Prop) (h0 : Pv 0 σ H)
    (hs : ∀ i c σ' H', z[i]? = some c → Pv i σ' H' → g (S [c]) σ' H' fun σ2 H2 => tb { D with nx := Pv (i + 1), ct := Pv (i + 1), bk := D.nx } σ2 H2) (hd : ∀ σ' H', Pv z.length σ' H' → D.nx σ' H') : tFor (iAny K te) g tb D σ H := by
  have e : (⟨z.toArray⟩ : Str).cps.size = z.length := str_len z
  refine ha _ (.inr (.inr ⟨_, rfl, for_it walk_str Pv h0 (fun _ _ _ _ _ => True.intro) (fun i x σ' H' H2 hi p y => ?_) (by rw [e]; exact hd)⟩))
  obtain ⟨rfl, c, hc, rfl⟩ := y
  exact hs i c σ' _ (by simpa using hc) p
/-- for i, c in enumerate(text) -/
theorem f_enumS {i1 i2 : Nat} (ha : ∀ R : List V → Hp → Prop, R [S z] H → ta σ H R) (Pv : Nat → L2.St → Hp → Prop) (h0 : Pv 0 σ H)
    (hs : ∀ i c σ' H' T, z[i]? = some c → Pv i σ' H' → H' T = none → tb { D with nx := Pv (i + 1), ct := Pv (i + 1), bk := D.nx } ((σ'.set i1 (some (.int (i : Int)))).set i2 (some (S [c]))) (upd H' T (.tup [.int (i : Int), S [c]]))) (hd : ∀ σ' H', Pv z.length σ' H' → D.nx σ' H') :
    tFor (iEnumP K ta) (gTup K 2 (gCons (gName i1) (gCons (gName i2) gNil))) tb D σ H := by
  have e : (⟨z.toArray⟩ : Str).cps.size = z.length := str_len z
  refine ha _ (.inr ⟨⟨z.toArray⟩, rfl, ?_⟩)
  have w : Walk (Ites ⟨z.toArray⟩) z.length (fun _ => True) (fun i Ha v Hb => ∃ T c, v = .ref T ∧ Ha T = none ∧ Hb = upd Ha T (.tup [.int (i : Nat), S [c]]) ∧ z[i]? = some c) := by
    refine ⟨fun i H' hi _ => by show i < (⟨z.toArray⟩ : Str).cps.size; rw [e]; exact hi, fun H' _ => e.symm, fun i H' x H2 hi _ y => ?_⟩
    obtain ⟨T, c, h1, h2, h3, h4⟩ := y
    exact ⟨T, c, h1, h2, h3, by simpa using h4⟩
  refine for_it w Pv h0 (fun _ _ _ _ _ => True.intro) (fun i x σ' H' H2 hi p y => ?_) hd
  obtain ⟨T, c, rfl, nT, rfl, hc⟩ := y
  exact ⟨T, _, rfl, SqT.of upd_same, rfl, _, _, rfl, _, _, rfl, rfl, hs i c σ' H' T hc p nT⟩
/-! comprehensions whose elements leave what stood -/
def Lw (H1 : Hp) (Dl : Addr) (l : Nat → List V) (i : Nat) (H' : Hp) : Prop := H1 Dl = none ∧ Same H1 H' ∧ H' Dl = some (.lst (l i))
/-- the kept ones among the first n -/
def kept (f : Nat → Bool) (v : Nat → V) (n : Nat) : List V := ((List.range n).filter f).map v
theorem kept_yes {f : Nat → Bool} {v : Nat → V} {n : Nat} (h : f n = true) : kept f v (n + 1) = kept f v n ++ [v n] := by
  unfold kept
  rw [List.range_succ, List.filter_append, List.map_append, List.filter_cons_of_pos h] <;> rfl
theorem kept_no {f : Nat → Bool} {v : Nat → V} {n : Nat} (h : f n = false) : kept f v (n + 1) = kept f v n := by
  unfold kept
  rw [List.range_succ, List.filter_append, List.map_append, List.filter_cons_of_neg (by rw [h]; decide)]
  simp
theorem kept_len (f : Nat → Bool) (v : Nat → V) (n : Nat) : (kept f v n).length ≤ n := by
  unfold kept
  rw [List.length_map]
  exact Nat.le_trans (List.length_filter_le _ _) (by rw [List.length_range]; exact Nat.le_refl _)
theorem kept_all (v : Nat → V) (n : Nat) : kept (fun _ => true) v n = (List.range n).map v := by
  unfold kept
  rw [List.filter_eq_self.mpr (fun _ _ => rfl)]
theorem lw_turn {H1 H' : Hp} {Dl : Addr} {f : Nat → Bool} {v : Nat → V} {i : Nat} {σ2 : L2.St} (p : Lw H1 Dl (kept f v) i H') (hi : i < 100000)
    (ht : ∀ H2, Same H1 H2 → ∀ QB : Bool → Hp → Prop, (∀ H3, Same H2 H3 → QB (f i) H3) → tt σ2 H2 QB) (he : ∀ H2, Same H1 H2 → f i = true → ∀ QV : VK, (∀ H3, Same H2 H3 → QV (v i) H3) → te σ2 H2 QV) :
    tt σ2 H' fun b H3 => if b = true then te σ2 H3 fun y H4 => ∃ acc, H4 Dl = some (.lst acc) ∧ acc.length < sizeLine ∧ Lw H1 Dl (kept f v) (i + 1) (upd H4 Dl (.lst (acc ++ [y]))) else Lw H1 Dl (kept f v) (i + 1) H3 := by
  obtain ⟨n1, s1, d1⟩ := p
  refine ht H' s1 _ fun H3 s3 => ?_
  cases hf : f i with
  | true =>
    rw [if_pos rfl]
    refine he H3 (s1.trans s3) hf _ fun H4 s4 => ⟨kept f v i, s4 _ _ (s3 _ _ d1), ?_, n1, ?_, ?_⟩
    · exact Nat.lt_of_le_of_lt (kept_len f v i) (Nat.lt_trans hi (by decide))
    · exact Same.upd ((s1.trans s3).trans s4) n1
    · rw [kept_yes hf]; exact upd_same
  | false =>
    rw [if_neg (by decide)]
    exact ⟨n1, s1.trans s3, by rw [kept_no hf]; exact s3 _ _ d1⟩
/-- [te for j in range(n) if tt] -/
theorem c_rng1 (n : Nat) (ha : ∀ R : List V → Hp → Prop, R [.int (n : Int)] H → ta σ H R) (hn : n ≤ 100000) (f : Nat → Bool) (v : Nat → V) (hw : ∀ x, wipe ((wipe σ vs).set j (some x)) vs = wipe σ vs)
    (ht : ∀ i H2, i < n → Same H H2 → ∀ QB : Bool → Hp → Prop, (∀ H3, Same H2 H3 → QB (f i) H3) → tt ((wipe σ vs).set j (some (.int (i : Int)))) H2 QB)
    (he : ∀ i H2, i < n → Same H H2 → f i = true → ∀ QV : VK, (∀ H3, Same H2 H3 → QV (v i) H3) → te ((wipe σ vs).set j (some (.int (i : Int)))) H2 QV)
    (q : ∀ Dl H2, H Dl = none → Same H H2 → H2 Dl = some (.lst (kept f v n)) → Q (.ref Dl) H2) : tLc (iRng1 ta) (gName j) tt te vs σ H Q := by
  refine ha _ ⟨(n : Int), rfl, by omega, by omega, fun Dl nD => ?_⟩
  rw [Int.toNat_natCast]
  refine lc_range (Lw H Dl (kept f v)) ⟨nD, same_upd nD, upd_same⟩ (fun i H' hi p => ?_) (fun H' p => q Dl H' p.1 p.2.1 p.2.2)
  rw [Int.zero_add]
  exact ⟨hw _, lw_turn p (by omega) (fun H2 s2 => ht i H2 hi s2) (fun H2 s2 => he i H2 hi s2)⟩
/-- .. every one -/
theorem c_rng1A (n : Nat) (ha : ∀ R : List V → Hp → Prop, R [.int (n : Int)] H → ta σ H R) (hn : n ≤ 100000) (v : Nat → V) (hw : ∀ x, wipe ((wipe σ vs).set j (some x)) vs = wipe σ vs)
    (he : ∀ i H2, i < n → Same H H2 → ∀ QV : VK, (∀ H3, Same H2 H3 → QV (v i) H3) → te ((wipe σ vs).set j (some (.int (i : Int)))) H2 QV)
    (q : ∀ Dl H2, H Dl = none → Same H H2 → H2 Dl = some (.lst ((List.range n).map v)) → Q (.ref Dl) H2) : tLc (iRng1 ta) (gName j) tYes te vs σ H Q :=
  c_rng1 n ha hn (fun _ => true) v hw (fun i H2 hi s2 QB k => k H2 (L2.Same.refl H2)) (fun i H2 hi s2 _ => he i H2 hi s2) (fun Dl H2 n1 s1 d1 => q Dl H2 n1 s1 (by rw [kept_all] at d1; exact d1))
/-- [te for j in a list if tt] -/
theorem c_lst (ha : ∀ R : VK, R (.ref a) H → tl σ H R) (hx : SqL K H a xs) (hn : xs.length ≤ 100000) (f : Nat → Bool) (v : Nat → V) (hw : ∀ x, wipe ((wipe σ vs).set j (some x)) vs = wipe σ vs)
    (ht : ∀ i x H2, xs[i]? = some x → Same H H2 → ∀ QB : Bool → Hp → Prop, (∀ H3, Same H2 H3 → QB (f i) H3) → tt ((wipe σ vs).set j (some x)) H2 QB)
    (he : ∀ i x H2, xs[i]? = some x → Same H H2 → f i = true → ∀ QV : VK, (∀ H3, Same H2 H3 → QV (v i) H3) → te ((wipe σ vs).set j (some x)) H2 QV)
    (q : ∀ Dl H2, H Dl = none → Same H H2 → H2 Dl = some (.lst (kept f v xs.length)) → Q (.ref Dl) H2) : tLc (iAny K tl) (gName j) tt te vs σ H Q := by
  refine ha _ (.inl ⟨a, xs, rfl, hx, fun Dl nD => ?_⟩)
  refine lc_list (Lw H Dl (kept f v)) ⟨nD, same_upd nD, upd_same⟩ (fun i H' hi p => p.2.1.seq hx) (fun i x H' hi p => ?_) (fun H' p => q Dl H' p.1 p.2.1 p.2.2)
  have hlt := (List.getElem?_eq_some_iff.mp hi).1
  exact ⟨hw _, lw_turn p (by omega) (fun H2 s2 => ht i x H2 hi s2) (fun H2 s2 => he i x H2 hi s2)⟩
/-- [te for j in a tuple if tt] -/
theorem c_tup (ha : ∀ R : VK, R (.ref a) H → tl σ H R) (hx : SqT K H a xs) (hn : xs.length ≤ 100000) (f : Nat → Bool) (v : Nat → V) (hw : ∀ x, wipe ((wipe σ vs).set j (some x)) vs = wipe σ vs)
    (ht : ∀ i x H2, xs[i]? = some x → Same H H2 → ∀ QB : Bool → Hp → Prop, (∀ H3, Same H2 H3 → QB (f i) H3) → tt ((wipe σ vs).set j (some x)) H2 QB)
    (he : ∀ i x H2, xs[i]? = some x → Same H H2 → f i = true → ∀ QV : VK, (∀ H3, Same H2 H3 → QV (v i) H3) → te ((wipe σ vs).set j (some x)) H2 QV)
    (q : ∀ Dl H2, H Dl = none → Same H H2 → H2 Dl = some (.lst (kept f v xs.length)) → Q (.ref Dl) H2) : tLc (iAny K tl) (gName j) tt te vs σ H Q := by
  refine ha _ (.inr (.inl ⟨a, xs, rfl, hx, fun Dl nD => ?_⟩))
  refine lc_tup (Lw H Dl (kept f v)) ⟨nD, same_upd nD, upd_same⟩ (fun i H' hi p => Same.tup p.2.1 hx) (fun i x H' hi p => ?_) (fun H' p => q Dl H' p.1 p.2.1 p.2.2)
  have hlt := (List.getElem?_eq_some_iff.mp hi).1
  exact ⟨hw _, lw_turn p (by omega) (fun H2 s2 => ht i x H2 hi s2) (fun H2 s2 => he i x H2 hi s2)⟩
end
/-! a loop over what the text makes anew -/
def LoopG (g : TG) (tb : TS) (D : Ends) (σ : L2.St) : It → Hp → Prop := fun J H1 => tFor (fun _ _ R => R J H1) g tb D σ H1
section
variable {K : PySem.W.Frag} {σ : L2.St} {H : Hp} {D : Ends} {te : TE} {tb : TS} {g : TG} {a : Addr} {xs : List V}
theorem i_for (q : te σ H fun x H1 => (∃ a xs, x = .ref a ∧ SqL K H1 a xs ∧ LoopG g tb D σ (Itl K a) H1) ∨ (∃ a xs, x = .ref a ∧ SqT K H1 a xs ∧ LoopG g tb D σ (Itt K a) H1) ∨ (∃ z, x = .str z ∧ LoopG g tb D σ (Its z) H1)) : tFor (iAny K te) g tb D σ H := q
theorem i_forL {B : Prop} (hx : SqL K H a xs) (Pv : Nat → L2.St → Hp → Prop) (h0 : Pv 0 σ H) (hl : ∀ i σ' H', i ≤ xs.length → Pv i σ' H' → SqL K H' a xs)
    (hs : ∀ i x σ' H', xs[i]? = some x → Pv i σ' H' → g x σ' H' fun σ2 H2 => tb { D with nx := Pv (i + 1), ct := Pv (i + 1), bk := D.nx } σ2 H2) (hd : ∀ σ' H', Pv xs.length σ' H' → D.nx σ' H') :
    (∃ a' xs', V.ref a = .ref a' ∧ SqL K H a' xs' ∧ LoopG g tb D σ (Itl K a') H) ∨ B := .inl ⟨a, xs, rfl, hx, for_list Pv h0 hl hs hd⟩
end
/-! a loop over a range whose end the text makes anew; lists put together, cut -/
section
variable {K : PySem.W.Frag} {σ : L2.St} {H : Hp} {Q : VK} {D : Ends} {ta : TA} {tb : TS} {g : TG} {a b : Addr} {xs ys : List V}
theorem i_forR (q : ta σ H fun vs H1 => ∃ j : Int, vs = [.int j] ∧ -(2 ^ 62) ≤ j ∧ j < 2 ^ 62 ∧ LoopG g tb D σ (Itr 0 j.toNat) H1) : tFor (iRng1 ta) g tb D σ H := q
theorem i_rngD {n : Int} (h0 : 0 ≤ n) (h : n ≤ 100000000) (Pv : Nat → L2.St → Hp → Prop) (hp : Pv 0 σ H)
    (hs : ∀ (i : Nat) σ' H', (i : Int) < n → Pv i σ' H' → g (.int (i : Int)) σ' H' fun σ2 H2 => tb { D with nx := Pv (i + 1), ct := Pv (i + 1), bk := D.nx } σ2 H2) (hd : ∀ σ' H', Pv n.toNat σ' H' → D.nx σ' H') :
    ∃ j : Int, [V.int n] = [.int j] ∧ -(2 ^ 62) ≤ j ∧ j < 2 ^ 62 ∧ LoopG g tb D σ (Itr 0 j.toNat) H := by
  refine ⟨n, rfl, by omega, by omega, ?_⟩
  refine for_range Pv hp (fun i σ' H' hi p => ?_) hd
  rw [Int.zero_add]
  exact hs i σ' H' (by omega) p
theorem i_catL (h1 : H a = some (.lst xs)) (h2 : H b = some (.lst ys)) (hz : xs.length + ys.length ≤ 100000) (q : ∀ p, H p = none → Q (.ref p) (upd H p (.lst (xs ++ ys)))) : addP K (.ref a) (.ref b) H Q :=
  .inr (.inr (.inl ⟨a, b, xs, ys, rfl, rfl, h1, h2, Nat.le_trans hz (by decide), q⟩))
theorem i_slL {lo hi : Option Int} (h : SqL K H a xs) (q : ∀ p, H p = none → Q (.ref p) (upd H p (.lst (cutV xs lo hi)))) : slP K (.ref a) lo hi H Q := .inl ⟨a, xs, rfl, h, q⟩
theorem cutV_init (xs : List V) : cutV xs none (some (-1)) = xs.dropLast := by
  unfold cutV
  rw [HT.sIx_none, List.drop_zero, Nat.sub_zero, List.dropLast_eq_take]
  have e : HT.sIx xs.length xs.length (some (-1)) = xs.length - 1 := by
    unfold HT.sIx
    dsimp only
    rw [if_pos (by decide)]
    omega
  rw [e]
theorem cutV_to {xs : List V} (k : Nat) : cutV xs none (some (k : Int)) = xs.take k := by
  unfold cutV
  rw [HT.sIx_none, List.drop_zero, Nat.sub_zero, HT.sIx_nat]
  by_cases h : k ≤ xs.length
  · rw [Nat.min_eq_left h]
  · rw [Nat.min_eq_right (by omega), List.take_length, List.take_of_length_le (by omega)]
theorem atI_last {xs : List V} {v : V} : atI (xs ++ [v]) (-1) = some v := by
  unfold atI ixN
  rw [if_neg (by decide), if_pos (by rw [List.length_append, List.length_singleton]; omega), Option.bind_some]
  have e : (-1 + ((xs ++ [v]).length : Int)).toNat = xs.length := by rw [List.length_append, List.length_singleton]; omega
  rw [e, List.getElem?_append_right (Nat.le_refl _), Nat.sub_self]
  rfl
end
end Fg
/-! The reader of rhythm texts, in plain Lean. -/
namespace Fg
open PySem PySem.Spec PyProof.Rows L2
abbrev SG : List Nat := [46, 103, 114, 119]
abbrev DG : List Nat := [48, 49, 50, 51, 52, 53, 54, 55, 56, 57]
def Row (l : List Nat) : Prop := ∀ c ∈ l, c ∈ SG
def rpt (n : Nat) (l : List Nat) : List Nat := (List.replicate n l).flatten
theorem rpt_len (n : Nat) (l : List Nat) : (rpt n l).length = n * l.length := by simp [rpt, List.length_flatten]
theorem rpt_succ (k : Nat) (t : List Nat) : rpt (k + 1) t = t ++ rpt k t := by unfold rpt; rw [List.replicate_succ, List.flatten_cons]
theorem rpt_get : ∀ (k : Nat) (t : List Nat) (j : Nat), j < k * t.length → (rpt k t)[j]? = t[j % t.length]?
  | 0, t, j, h => by rw [Nat.zero_mul] at h; omega
  | k + 1, t, j, h => by
    rw [rpt_succ]
    by_cases hj : j < t.length
    · rw [List.getElem?_append_left hj, Nat.mod_eq_of_lt hj]
    · rw [List.getElem?_append_right (by omega), rpt_get k t (j - t.length) (by rw [Nat.succ_mul] at h; omega)]
      rw [← Nat.mod_eq_sub_mod (by omega)]
/-- the first lit one -/
def firstLit : List Nat → Nat
  | [] => 46
  | c :: r => if c = 46 then firstLit r else c
/-- a stretch as the reader has it -/
def Sv (n : Nat) (r : List Nat) : HO := .tup [.int (n : Int), if n ≤ 24 then S r else .non]
abbrev Stv := Nat × List Nat
def lcmL (ps : List Stv) : Nat := ps.foldl (fun b p => Nat.lcm b p.1) 1
theorem lcmL_snoc (ps : List Stv) (p : Stv) : lcmL (ps ++ [p]) = Nat.lcm (lcmL ps) p.1 := by
  unfold lcmL
  rw [List.foldl_append]
  rfl
def showN (ps : List Stv) (n : Nat) : List Nat := (List.range n).map fun i => firstLit (ps.map fun p => (rpt (n / p.1) p.2).getD i 0)
theorem showN_len (ps : List Stv) (n : Nat) : (showN ps n).length = n := by simp [showN]
theorem dvd_fold (ps : List Stv) : ∀ b, (b ∣ ps.foldl (fun b p => Nat.lcm b p.1) b) ∧ ∀ p ∈ ps, p.1 ∣ ps.foldl (fun b p => Nat.lcm b p.1) b := by
  induction ps with
  | nil => exact fun b => ⟨Nat.dvd_refl _, by simp⟩
  | cons q r ih =>
    intro b
    obtain ⟨h1, h2⟩ := ih (Nat.lcm b q.1)
    refine ⟨Nat.dvd_trans (Nat.dvd_lcm_left _ _) h1, fun p hp => ?_⟩
    rcases List.mem_cons.mp hp with rfl | hp
    · exact Nat.dvd_trans (Nat.dvd_lcm_right _ _) h1
    · exact h2 p hp
theorem dvd_lcmL {ps : List Stv} {p : Stv} (h : p ∈ ps) : p.1 ∣ lcmL ps := (dvd_fold ps 1).2 p h
theorem fold_pos (ps : List Stv) (h : ∀ p ∈ ps, 1 ≤ p.1) : ∀ b, 1 ≤ b → 1 ≤ ps.foldl (fun b p => Nat.lcm b p.1) b := by
  induction ps with
  | nil => exact fun b hb => hb
  | cons q r ih => exact fun b hb => ih (fun p hp => h p (List.mem_cons_of_mem _ hp)) _ (Nat.lcm_pos hb (h q List.mem_cons_self))
theorem lcmL_pos {ps : List Stv} (h : ∀ p ∈ ps, 1 ≤ p.1) : 1 ≤ lcmL ps := fold_pos ps h 1 (Nat.le_refl _)
/-! ### digits -/
def run (z : List Nat) (a : Nat) : List Nat := (z.drop a).takeWhile fun c => decide (c ∈ DG)
def bd (z : List Nat) (a : Nat) : Nat := a + (run z a).length
theorem run_step {z : List Nat} {m c : Nat} (h : z[m]? = some c) (hc : c ∈ DG) : run z m = c :: run z (m + 1) := by
  obtain ⟨hl, rfl⟩ := List.getElem?_eq_some_iff.mp h
  unfold run
  rw [List.drop_eq_getElem_cons hl, List.takeWhile_cons_of_pos (by simpa using hc)]
theorem run_stop {z : List Nat} {m : Nat} (h : ∀ c, z[m]? = some c → c ∉ DG) : run z m = [] := by
  unfold run
  by_cases hl : m < z.length
  · rw [List.drop_eq_getElem_cons hl, List.takeWhile_cons_of_neg (by simpa using h _ (List.getElem?_eq_getElem hl))]
  · rw [List.drop_of_length_le (by omega)]
    rfl
theorem bd_step {z : List Nat} {m c : Nat} (h : z[m]? = some c) (hc : c ∈ DG) : bd z (m + 1) = bd z m := by
  unfold bd
  rw [run_step h hc, List.length_cons]
  omega
theorem bd_stop {z : List Nat} {m : Nat} (h : ∀ c, z[m]? = some c → c ∉ DG) : bd z m = m := by
  unfold bd
  rw [run_stop h]
  rfl
theorem bd_le {z : List Nat} {a : Nat} (h : a ≤ z.length) : bd z a ≤ z.length := by
  unfold bd run
  have := (List.takeWhile_prefix (fun c => decide (c ∈ DG)) (l := z.drop a)).length_le
  rw [List.length_drop] at this
  omega
theorem bd_ge (z : List Nat) (a : Nat) : a ≤ bd z a := Nat.le_add_right _ _
theorem bd_eq {z : List Nat} {a : Nat} : bd z a = a ↔ run z a = [] := by
  unfold bd
  constructor
  · intro h
    exact List.length_eq_zero_iff.mp (by omega)
  · intro h
    rw [h]; rfl
theorem run_digits (z : List Nat) (a : Nat) : ∀ c ∈ run z a, c ∈ DG := fun c hc => by
  unfold run at hc
  generalize z.drop a = l at hc
  induction l with
  | nil => simp at hc
  | cons x r ih =>
    by_cases h : x ∈ DG
    · rw [List.takeWhile_cons_of_pos (by simpa using h)] at hc
      rcases List.mem_cons.mp hc with rfl | hc
      · exact h
      · exact ih hc
    · rw [List.takeWhile_cons_of_neg (by simpa using h)] at hc
      simp at hc
theorem cutN_run {z : List Nat} {a : Nat} (h : a ≤ z.length) : cutN z (some (a : Int)) (some (bd z a : Nat)) = run z a := by
  unfold cutN
  rw [HT.sIx_nat, HT.sIx_nat, Nat.min_eq_left h, Nat.min_eq_left (bd_le h)]
  have e : bd z a - a = (run z a).length := by unfold bd; omega
  rw [e]
  unfold run
  exact (List.prefix_iff_eq_take.mp (List.takeWhile_prefix _)).symm
def num (l : List Nat) : Nat := l.foldl (fun n c => 10 * n + (c - 48)) 0
def within (l : List Nat) (lo hi : Nat) : Bool := decide (1 ≤ l.length) && decide (l.length ≤ 2) && decide (lo ≤ num l) && decide (num l ≤ hi)
theorem within_iff {l : List Nat} {lo hi : Nat} : within l lo hi = true ↔ (1 ≤ l.length ∧ l.length ≤ 2 ∧ lo ≤ num l ∧ num l ≤ hi) := by
  unfold within
  simp only [Bool.and_eq_true, decide_eq_true_eq, and_assoc]
/-! ### the reader -/
abbrev Res := Except Nat (Stv × Nat)
def rep (s : Stv) (t : Nat) : Stv := (s.1 * t, rpt t s.2)
def beh (s u : Stv) : Stv := (s.1 + u.1, s.2 ++ u.2)
def shown (ps : List Stv) : Stv := (lcmL ps, showN ps (lcmL ps))
def fillTo (p : Stv) (b : Nat) : Stv := (b, p.2 ++ List.replicate (b - p.1) 46)
def isStart (c : Nat) : Bool := decide (c ∈ SG) || decide (c ∈ DG)
def timesOf (r : List Nat) : Nat := if r = [] then 1 else num r
def close (z : List Nat) (t : Nat) : Res → Res
  | .error k => .error k
  | .ok (s, e) => if z[e]? = some 41 then .ok (rep s t, e + 1) else .error e
def item (rp : Option (Nat → Res)) (z : List Nat) (a : Nat) : Res :=
  if (run z a).take 1 = [48] then .error a
  else match z[bd z a]? with
    | none => .error (bd z a)
    | some c =>
      if c ∉ SG ∧ c ≠ 40 then .error (bd z a)
      else if run z a ≠ [] ∧ within (run z a) 2 24 = false then .error a
      else if c ≠ 40 then .ok (rep (1, [c]) (timesOf (run z a)), bd z a + 1)
      else match rp with
        | none => .error (bd z a)
        | some f => close z (timesOf (run z a)) (f (bd z a + 1))
def goOn (k : Stv → Nat → Res) : Res → Res
  | .error k => .error k
  | .ok (s, e) => k s e
def items (ri : Nat → Res) (z : List Nat) : Nat → Nat → Stv → Res
  | 0, a, p => .ok (p, a)
  | f + 1, a, p => match z[a]? with
    | none => .ok (p, a)
    | some c => if isStart c = true then goOn (fun s e => items ri z f e (beh p s)) (ri a) else .ok (p, a)
def filled (z : List Nat) (a : Nat) (p : Stv) : Res :=
  if run z a = [] then .error a
  else if (run z a).take 1 = [48] ∨ within (run z a) (max 1 p.1) 24 = false then .error a
  else .ok (fillTo p (num (run z a)), bd z a)
def partEnd (z : List Nat) (p : Stv) (e : Nat) : Res := if p.1 = 0 then .error e else if z[e]? = some 64 then filled z (e + 1) p else .ok (p, e)
def part (ri : Nat → Res) (z : List Nat) (a : Nat) : Res := goOn (partEnd z) (items ri z (z.length + 1 - a) a (0, []))
def more (rq : Nat → Res) (z : List Nat) : Nat → Nat → List Stv → Res
  | 0, a, ps => .ok (shown ps, a)
  | f + 1, a, ps => if z[a]? = some 38 then goOn (fun s e => more rq z f e (ps ++ [s])) (rq (a + 1)) else .ok (shown ps, a)
def parts (ri : Nat → Res) (z : List Nat) (a : Nat) : Res := goOn (fun s e => more (part ri z) z (z.length + 1 - e) e [s]) (part ri z a)
mutual
/-- an item, so many more may be opened -/
def rdItem (z : List Nat) : Nat → Nat → Res
  | 0 => item none z
  | d + 1 => item (some (rd z d)) z
def rd (z : List Nat) : Nat → Nat → Res
  | d => parts (rdItem z d) z
end
/-! ### what the reader hands back is small, and has its length -/
def Gb (s : Stv) (w : Nat) : Prop := s.1 + 1 ≤ 2 ^ (5 * w) ∧ (s.1 ≤ 24 → s.2.length = s.1)
def Gd (z : List Nat) (f : Nat → Res) : Prop := ∀ a s e, a ≤ z.length → f a = .ok (s, e) → a < e ∧ e ≤ z.length ∧ 1 ≤ s.1 ∧ Gb s (e - a)
theorem pow_mono5 {x y : Nat} (h : x ≤ y) : 2 ^ (5 * x) ≤ 2 ^ (5 * y) := Nat.pow_le_pow_right (by decide) (by omega)
theorem pow32 {w : Nat} (h : 1 ≤ w) : 32 ≤ 2 ^ (5 * w) := Nat.le_trans (by decide : 32 ≤ 2 ^ (5 * 1)) (pow_mono5 h)
theorem Gb.small {s : Stv} {w : Nat} (h : s.1 ≤ 24) (hw : 1 ≤ w) (hl : s.2.length = s.1) : Gb s w := ⟨by have := pow32 hw; omega, fun _ => hl⟩
theorem Gb.beh {p s : Stv} {x y : Nat} (hp : Gb p x) (hs : Gb s y) : Gb (beh p s) (x + y) := by
  refine ⟨?_, fun h => ?_⟩
  · show p.1 + s.1 + 1 ≤ _
    rw [Nat.mul_add, Nat.pow_add]
    refine Nat.le_trans ?_ (Nat.mul_le_mul hp.1 hs.1)
    rw [Nat.add_mul, Nat.mul_add]
    omega
  · have h : p.1 + s.1 ≤ 24 := h
    show (p.2 ++ s.2).length = p.1 + s.1
    rw [List.length_append, hp.2 (by omega), hs.2 (by omega)]
theorem Gb.rep {s : Stv} {x y t : Nat} (hs : Gb s x) (h1 : 1 ≤ s.1) (t1 : 1 ≤ t) (t2 : t ≤ 24) (hy : x + 1 ≤ y) : Gb (rep s t) y := by
  refine ⟨?_, fun h => ?_⟩
  · show s.1 * t + 1 ≤ _
    refine Nat.le_trans ?_ (pow_mono5 hy)
    rw [Nat.mul_add, Nat.pow_add]
    have := Nat.mul_le_mul hs.1 (show 24 ≤ 2 ^ (5 * 1) by decide)
    have h2 : s.1 * t ≤ s.1 * 24 := Nat.mul_le_mul_left _ t2
    omega
  · have h : s.1 * t ≤ 24 := h
    have : s.1 ≤ s.1 * t := Nat.le_mul_of_pos_right _ t1
    show (rpt t s.2).length = s.1 * t
    rw [rpt_len, hs.2 (by omega), Nat.mul_comm]
theorem times_ok {r : List Nat} (h : ¬ (r ≠ [] ∧ within r 2 24 = false)) : 1 ≤ timesOf r ∧ timesOf r ≤ 24 ∧ (r ≠ [] → 1 ≤ r.length) := by
  unfold timesOf
  by_cases e : r = []
  · rw [if_pos e]; exact ⟨by decide, by decide, fun z => absurd e z⟩
  · rw [if_neg e]
    have : within r 2 24 = true := by
      cases hw : within r 2 24 with
      | true => rfl
      | false => exact absurd ⟨e, hw⟩ h
    have := within_iff.mp this
    exact ⟨by omega, this.2.2.2, fun _ => this.1⟩
theorem item_gd {z : List Nat} {rp : Option (Nat → Res)} (hp : ∀ f, rp = some f → Gd z f) : Gd z (item rp z) := by
  intro a s e ha h
  unfold item at h
  split at h
  · cases h
  · split at h
    · cases h
    · rename_i c hc
      have hl := (List.getElem?_eq_some_iff.mp hc).1
      have hb := bd_ge z a
      split at h
      · cases h
      · split at h
        · cases h
        · rename_i ht
          obtain ⟨t1, t2, t3⟩ := times_ok ht
          split at h
          · cases h
            refine ⟨by omega, by omega, ?_, ?_⟩
            · show 1 ≤ 1 * _; omega
            · refine Gb.small (by show 1 * _ ≤ 24; omega) (by omega) ?_
              show (rpt _ [c]).length = 1 * _
              rw [rpt_len, List.length_singleton]; omega
          · split at h
            · cases h
            · rename_i f
              have g := hp f rfl
              unfold close at h
              split at h
              · cases h
              · rename_i s' e' hf
                obtain ⟨g1, g2, g3, g4⟩ := g _ _ _ (by omega) hf
                split at h
                · rename_i h41
                  have := (List.getElem?_eq_some_iff.mp h41).1
                  cases h
                  refine ⟨by omega, by omega, Nat.mul_pos g3 t1, g4.rep g3 t1 t2 (by omega)⟩
                · cases h
theorem items_gd {z : List Nat} {ri : Nat → Res} (hi : Gd z ri) {a0 : Nat} : ∀ (f a : Nat) (p s : Stv) (e : Nat), a0 ≤ a → a ≤ z.length → Gb p (a - a0) → items ri z f a p = .ok (s, e) → a ≤ e ∧ e ≤ z.length ∧ Gb s (e - a0) ∧ (s.1 = 0 ∨ a < e ∨ s = p)
  | 0, a, p, s, e, h0, ha, hp, h => by
    unfold items at h
    cases h
    exact ⟨by omega, ha, hp, .inr (.inr rfl)⟩
  | f + 1, a, p, s, e, h0, ha, hp, h => by
    unfold items at h
    split at h
    · cases h
      exact ⟨by omega, ha, hp, .inr (.inr rfl)⟩
    · split at h
      · unfold goOn at h
        split at h
        · cases h
        · rename_i s' e' hf
          obtain ⟨g1, g2, g3, g4⟩ := hi _ _ _ ha hf
          have := items_gd hi (a0 := a0) f e' (beh p s') s e (by omega) g2 (by
            have := hp.beh g4
            rw [show a - a0 + (e' - a) = e' - a0 by omega] at this
            exact this) h
          exact ⟨by omega, this.2.1, this.2.2.1, .inr (.inl (by omega))⟩
      · cases h
        exact ⟨by omega, ha, hp, .inr (.inr rfl)⟩
theorem filled_gd {z : List Nat} {a e : Nat} {p s : Stv} (ha : a ≤ z.length) (hp : p.1 ≤ 24 → p.2.length = p.1) (h : filled z a p = .ok (s, e)) : a < e ∧ e ≤ z.length ∧ 1 ≤ s.1 ∧ s.1 ≤ 24 ∧ s.2.length = s.1 := by
  unfold filled at h
  split at h
  · cases h
  · rename_i hr
    split at h
    · cases h
    · rename_i hw
      have : within (run z a) (max 1 p.1) 24 = true := by
        cases hc : within (run z a) (max 1 p.1) 24 with
        | true => rfl
        | false => exact absurd (.inr hc) hw
      obtain ⟨w1, w2, w3, w4⟩ := within_iff.mp this
      cases h
      refine ⟨by unfold bd; omega, bd_le ha, by show 1 ≤ num _; omega, w4, ?_⟩
      show (p.2 ++ List.replicate _ 46).length = num _
      rw [List.length_append, List.length_replicate, hp (by omega)]
      omega
theorem part_gd {z : List Nat} {ri : Nat → Res} (hi : Gd z ri) : Gd z (part ri z) := by
  intro a s e ha h
  unfold part goOn at h
  split at h
  · cases h
  · rename_i p e' hf
    obtain ⟨g1, g2, g3, g4⟩ := items_gd hi (a0 := a) _ a (0, []) p e' (Nat.le_refl _) ha ⟨by rw [Nat.sub_self]; decide, fun _ => rfl⟩ hf
    unfold partEnd at h
    split at h
    · cases h
    · rename_i hp0
      have hlt : a < e' := by
        rcases g4 with g | g | g
        · exact absurd g hp0
        · exact g
        · rw [g] at hp0; exact absurd rfl hp0
      split at h
      · rename_i h64
        have := (List.getElem?_eq_some_iff.mp h64).1
        obtain ⟨f1, f2, f3, f4, f5⟩ := filled_gd (by omega) g3.2 h
        exact ⟨by omega, f2, f3, Gb.small f4 (by omega) f5⟩
      · cases h
        exact ⟨hlt, g2, by omega, g3⟩
def Gps (ps : List Stv) (w : Nat) : Prop := lcmL ps + 1 ≤ 2 ^ (5 * w) ∧ ∀ p ∈ ps, 1 ≤ p.1 ∧ (p.1 ≤ 24 → p.2.length = p.1)
theorem lcm_le_mul {a b : Nat} (ha : 1 ≤ a) (hb : 1 ≤ b) : Nat.lcm a b ≤ a * b := Nat.le_of_dvd (Nat.mul_pos ha hb) (Nat.lcm_dvd_mul a b)
theorem Gps.snoc {ps : List Stv} {s : Stv} {x y : Nat} (h : Gps ps x) (h1 : 1 ≤ s.1) (hs : Gb s y) : Gps (ps ++ [s]) (x + y) := by
  refine ⟨?_, fun p hp => ?_⟩
  · rw [lcmL_snoc, Nat.mul_add, Nat.pow_add]
    refine Nat.le_trans ?_ (Nat.mul_le_mul h.1 hs.1)
    have := lcm_le_mul (lcmL_pos fun p hp => (h.2 p hp).1) h1
    rw [Nat.add_mul, Nat.mul_add]
    omega
  · rcases List.mem_append.mp hp with hp | hp
    · exact h.2 p hp
    · rw [List.mem_singleton.mp hp]; exact ⟨h1, hs.2⟩
theorem Gps.shown {ps : List Stv} {w : Nat} (h : Gps ps w) : 1 ≤ (shown ps).1 ∧ Gb (shown ps) w :=
  ⟨lcmL_pos fun p hp => (h.2 p hp).1, h.1, fun _ => showN_len _ _⟩
theorem Gps.one {s : Stv} {w : Nat} (h1 : 1 ≤ s.1) (h : Gb s w) : Gps [s] w := by
  refine ⟨?_, fun p hp => ?_⟩
  · show Nat.lcm 1 s.1 + 1 ≤ _
    rw [show Nat.lcm 1 s.1 = s.1 by simp [Nat.lcm]]; exact h.1
  · rw [List.mem_singleton.mp hp]; exact ⟨h1, h.2⟩
theorem Gps.mono {ps : List Stv} {x y : Nat} (h : Gps ps x) (e : x ≤ y) : Gps ps y := ⟨Nat.le_trans h.1 (pow_mono5 e), h.2⟩
theorem more_gd {z : List Nat} {rq : Nat → Res} (hi : Gd z rq) {a0 : Nat} : ∀ (f a : Nat) (ps : List Stv) (s : Stv) (e : Nat), a0 ≤ a → a ≤ z.length → Gps ps (a - a0) → more rq z f a ps = .ok (s, e) → a ≤ e ∧ e ≤ z.length ∧ 1 ≤ s.1 ∧ Gb s (e - a0)
  | 0, a, ps, s, e, h0, ha, hp, h => by
    unfold more at h
    cases h
    exact ⟨by omega, ha, hp.shown⟩
  | f + 1, a, ps, s, e, h0, ha, hp, h => by
    unfold more at h
    split at h
    · rename_i h38
      have hl := (List.getElem?_eq_some_iff.mp h38).1
      unfold goOn at h
      split at h
      · cases h
      · rename_i s' e' hf
        obtain ⟨g1, g2, g3, g4⟩ := hi _ _ _ (by omega) hf
        have := more_gd hi (a0 := a0) f e' (ps ++ [s']) s e (by omega) g2 ((hp.snoc g3 g4).mono (by omega)) h
        exact ⟨by omega, this.2⟩
    · cases h
      exact ⟨by omega, ha, hp.shown⟩
theorem parts_gd {z : List Nat} {ri : Nat → Res} (hi : Gd z ri) : Gd z (parts ri z) := by
  intro a s e ha h
  unfold parts goOn at h
  split at h
  · cases h
  · rename_i s' e' hf
    obtain ⟨g1, g2, g3, g4⟩ := part_gd hi _ _ _ ha hf
    have := more_gd (part_gd hi) (a0 := a) _ e' [s'] s e (by omega) g2 (Gps.one g3 g4) h
    exact ⟨by omega, this.2⟩
theorem rdItem_zero (z : List Nat) : rdItem z 0 = item none z := by unfold rdItem; rfl
theorem rdItem_succ (z : List Nat) (d : Nat) : rdItem z (d + 1) = item (some (rd z d)) z := by conv => lhs; unfold rdItem
theorem rd_eq (z : List Nat) (d : Nat) : rd z d = parts (rdItem z d) z := by unfold rd; rfl
theorem rdItem_gd (z : List Nat) : ∀ d, Gd z (rdItem z d)
  | 0 => by rw [rdItem_zero]; exact item_gd fun f e => nomatch e
  | d + 1 => by
    rw [rdItem_succ]
    refine item_gd fun f e => ?_
    cases e
    rw [rd_eq]
    exact parts_gd (rdItem_gd z d)
theorem rd_gd (z : List Nat) (d : Nat) : Gd z (rd z d) := by rw [rd_eq]; exact parts_gd (rdItem_gd z d)
end Fg
/-! What the walk of the reader asks. -/
namespace Fg
open PySem PySem.Spec PyProof.Rows L2
theorem range_getD_map {α β : Type} (xs : List α) (d : α) (g : α → β) : (List.range xs.length).map (fun i => g (xs.getD i d)) = xs.map g := by
  refine List.ext_getElem? fun i => ?_
  rw [List.getElem?_map, List.getElem?_map]
  by_cases h : i < xs.length
  · rw [List.getElem?_range h, Option.map_some, List.getD_eq_getElem?_getD, List.getElem?_eq_getElem h]
    rfl
  · rw [List.getElem?_eq_none (by simpa using h), List.getElem?_eq_none (by omega)]
    rfl
def PartsAt (H : Hp) (qs : List Addr) (ps : List Stv) : Prop := qs.length = ps.length ∧ ∀ (i : Nat) (q : Addr) (p : Stv), qs[i]? = some q → ps[i]? = some p → H q = some (Sv p.1 p.2)
theorem PartsAt.mono {H H' : Hp} {qs : List Addr} {ps : List Stv} (h : PartsAt H qs ps) (s : Same H H') : PartsAt H' qs ps := ⟨h.1, fun i q p a b => s _ _ (h.2 i q p a b)⟩
/-- below some thousand bits -/
def Big (n : Nat) : Prop := n < 2 ^ 8600
theorem Big.le {n m : Nat} (h : Big n) (e : m ≤ n) : Big m := Nat.lt_of_le_of_lt e h
theorem Big.div {n : Nat} {a : Int} (h : Big n) (h0 : (0 : Int) < (n : Int)) : CDivW a (n : Int) := wide_div (b := 8600) h0 (by rw [Int.natAbs_natCast]; exact h) (by decide) (by decide)
theorem Big.mul {n m : Nat} (h : Big n) (h' : Big m) : IntMulOk (n : Int) (m : Int) := CMulW.ok (wide_mul (a := 8600) (b := 8600) (by rw [Int.natAbs_natCast]; exact h) (by rw [Int.natAbs_natCast]; exact h') (by decide) (by decide) (by decide))
theorem Gb.big {s : Stv} {w : Nat} (h : Gb s w) (hw : w ≤ 1700) : Big s.1 := Nat.lt_of_lt_of_le (Nat.lt_of_lt_of_le (Nat.lt_succ_self _) h.1) (Nat.pow_le_pow_right (by decide) (by omega))
theorem Gps.big {ps : List Stv} {w : Nat} (h : Gps ps w) (hw : w ≤ 1700) : Big (lcmL ps) := Nat.lt_of_lt_of_le (Nat.lt_of_lt_of_le (Nat.lt_succ_self _) h.1) (Nat.pow_le_pow_right (by decide) (by omega))
theorem lcmL_take {ps : List Stv} (h : ∀ p ∈ ps, 1 ≤ p.1) (i : Nat) : lcmL (ps.take i) ≤ lcmL ps := by
  refine Nat.le_of_dvd (lcmL_pos h) ?_
  conv => rhs; rw [← List.take_append_drop i ps]
  unfold lcmL
  rw [List.foldl_append]
  exact (dvd_fold _ _).1
/-- int(text) -/
def rIntTx : RC := fun xs H Q => ∃ a n, xs = [.str a] ∧ PySem.intText? a = some n ∧ a.length ≤ 640 ∧ Q (.int n) H
theorem call_intTx {X : Cx} : CallR X (.type "int") rIntTx := call_int_str
theorem int1 : ∀ c ∈ DG, PySem.intText? ⟨#[c]⟩ = some ((num [c] : Nat) : Int) := by decide +kernel
theorem int2 : ∀ c ∈ DG, ∀ d ∈ DG, PySem.intText? ⟨#[c, d]⟩ = some ((num [c, d] : Nat) : Int) := by decide +kernel
theorem i_intTx {r : List Nat} {H : Hp} {Q : VK} (h1 : 1 ≤ r.length) (h2 : r.length ≤ 2) (hd : ∀ c ∈ r, c ∈ DG) (q : Q (.int ((num r : Nat) : Int)) H) : rIntTx [S r] H Q := by
  match r, h1, h2, hd, q with
  | [c], _, _, hd, q => exact ⟨_, _, rfl, int1 c (hd c (by simp)), (show 1 ≤ 640 by omega), q⟩
  | [c, d], _, _, hd, q => exact ⟨_, _, rfl, int2 c (hd c (by simp)) d (hd d (by simp)), (show 2 ≤ 640 by omega), q⟩
/-- str(int), of small ones -/
def dec (n : Nat) : List Nat := if n < 10 then [48 + n] else [48 + n / 10, 48 + n % 10]
theorem dec_str : ∀ n : Nat, n < 100 → (toString (n : Int) : Str) = ⟨(dec n).toArray⟩ := by decide +kernel
def rStrS : RC := fun xs H Q => ∃ n : Nat, xs = [.int (n : Int)] ∧ n < 100 ∧ Q (S (dec n)) H
theorem call_strS {X : Cx} : CallR X (.type "str") rStrS := by
  intro pins s σ H xs us Q I rs h
  obtain ⟨n, rfl, hn, q⟩ := h
  refine call_str_int pins s σ H _ us Q I rs ⟨(n : Int), rfl, ?_, ?_⟩
  · have : (n : Int).natAbs = n := Int.natAbs_natCast n
    rw [this]
    by_cases h0 : n = 0
    · subst h0; decide
    · exact Nat.lt_trans ((Nat.log2_lt h0).mpr (Nat.lt_trans hn (by decide : 100 < 2 ^ 7))) (by decide)
  · have e : V.str (toString (n : Int)) = S (dec n) := by unfold S; rw [dec_str n hn]
    rw [e]; exact q
def rpOf (z : List Nat) : Nat → Option (Nat → Res)
  | 0 => none
  | d + 1 => some (rd z d)
theorem rdItem_item (z : List Nat) (d : Nat) : rdItem z d = item (rpOf z d) z := by
  cases d with
  | zero => exact rdItem_zero z
  | succ d => exact rdItem_succ z d
/-- what is no string -/
def NoStr (H : Hp) (x : V) : Prop := x = .non ∨ (∃ b, x = .bl b) ∨ (∃ i, x = .int i) ∨ ∃ a xs, x = .ref a ∧ (H a = some (.tup xs) ∨ H a = some (.lst xs))
theorem NoStr.mono {H H' : Hp} {x : V} (h : NoStr H x) (s : Same H H') : NoStr H' x := by
  rcases h with h | h | h | ⟨a, xs, h, h2⟩
  · exact .inl h
  · exact .inr (.inl h)
  · exact .inr (.inr (.inl h))
  · exact .inr (.inr (.inr ⟨a, xs, h, h2.imp (s _ _) (s _ _)⟩))
end Fg
/-! A reader with a stack, and that it reads as the other. -/
namespace Fg
open PySem PySem.Spec PyProof.Rows L2
inductive Fin where
  | bad (k : Nat)
  | done (s : Stv)
abbrev Fr := Nat × List Stv × Stv
def lclose (st : List Fr) (ps : List Stv) (p : Stv) (c : Nat) : Option (List Fr × List Stv × Stv) :=
  if p.1 = 0 ∨ (c = 41 ∧ st = []) then none
  else if c = 38 then some (st, ps ++ [p], (0, []))
  else match st with
    | [] => none
    | (t, ps', p') :: rest => some (rest, ps', beh p' (rep (shown (ps ++ [p])) t))
def lfill (p : Stv) (r : List Nat) : Option Stv := if r.take 1 = [48] ∨ within r (max 1 p.1) 24 = false then none else some (fillTo p (num r))
abbrev OPS : List Nat := [46, 103, 114, 119, 40]
/-- none: wrong; some none: what follows is wrong -/
def ltimes (r : List Nat) (h : Option Nat) : Option (Option Nat) :=
  if r = [] then some (some 1)
  else if r.take 1 = [48] then none
  else if (match h with | none => true | some c => !decide (c ∈ OPS)) = true then some none
  else if within r 2 24 = false then none
  else some (some (num r))
def lread (z : List Nat) : Nat → List Fr → List Stv → Stv → Bool → Nat → Fin
  | 0, _, _, _, _, _ => .bad 0
  | f + 1, st, ps, p, fl, a =>
    match z[a]? with
    | none => if p.1 = 0 ∨ st ≠ [] then .bad z.length else .done (shown (ps ++ [p]))
    | some c =>
      if c = 38 ∨ c = 41 then
        match lclose st ps p c with
        | none => .bad a
        | some (st', ps', p') => lread z f st' ps' p' false (a + 1)
      else if c = 64 then
        if fl = true ∨ p.1 = 0 then .bad a
        else if run z (a + 1) = [] then .bad (a + 1)
        else match lfill p (run z (a + 1)) with
          | none => .bad (a + 1)
          | some p' => lread z f st ps p' true (bd z (a + 1))
      else if fl = true then .bad a
      else match ltimes (run z a) z[bd z a]? with
        | none => .bad a
        | some none => .bad (bd z a)
        | some (some t) => match z[bd z a]? with
          | none => .bad (bd z a)
          | some h =>
            if h ∉ OPS ∨ (h = 40 ∧ (run z a = [] ∨ st.length = 6)) then .bad (bd z a)
            else if h = 40 then lread z f ((t, ps, p) :: st) [] (0, []) false (bd z a + 1)
            else lread z f st ps (beh p (rep (1, [h]) t)) false (bd z a + 1)
/-! ### the other one, by what follows -/
theorem items_fuel {z : List Nat} {ri : Nat → Res} (hi : Gd z ri) : ∀ (f f' a : Nat) (p : Stv), a ≤ z.length → z.length + 1 ≤ f + a → z.length + 1 ≤ f' + a → items ri z f a p = items ri z f' a p
  | 0, _, a, _, ha, h, _ => by omega
  | _ + 1, 0, a, _, ha, _, h => by omega
  | f + 1, f' + 1, a, p, ha, h, h' => by
    unfold items
    split
    · rfl
    · split
      · cases hr : ri a with
        | error k => rfl
        | ok se =>
          obtain ⟨s, e⟩ := se
          obtain ⟨g1, g2, _, _⟩ := hi a s e ha hr
          exact items_fuel hi f f' e (beh p s) g2 (by omega) (by omega)
      · rfl
theorem more_fuel {z : List Nat} {rq : Nat → Res} (hi : Gd z rq) : ∀ (f f' a : Nat) (ps : List Stv), a ≤ z.length → z.length + 1 ≤ f + a → z.length + 1 ≤ f' + a → more rq z f a ps = more rq z f' a ps
  | 0, _, a, _, ha, h, _ => by omega
  | _ + 1, 0, a, _, ha, _, h => by omega
  | f + 1, f' + 1, a, ps, ha, h, h' => by
    unfold more
    split
    · rename_i h38
      have hl := (List.getElem?_eq_some_iff.mp h38).1
      cases hr : rq (a + 1) with
      | error k => rfl
      | ok se =>
        obtain ⟨s, e⟩ := se
        obtain ⟨g1, g2, _, _⟩ := hi (a + 1) s e (by omega) hr
        exact more_fuel hi f f' e (ps ++ [s]) g2 (by omega) (by omega)
    · rfl
theorem items_succ (ri : Nat → Res) (z : List Nat) (f a : Nat) (p : Stv) : items ri z (f + 1) a p = match z[a]? with
    | none => .ok (p, a)
    | some c => if isStart c = true then goOn (fun s e => items ri z f e (beh p s)) (ri a) else .ok (p, a) := by
  conv => lhs; unfold items
  try (generalize z[a]? = o; cases o <;> rfl)
theorem more_succ (rq : Nat → Res) (z : List Nat) (f a : Nat) (ps : List Stv) : more rq z (f + 1) a ps = if z[a]? = some 38 then goOn (fun s e => more rq z f e (ps ++ [s])) (rq (a + 1)) else .ok (shown ps, a) := by
  conv => lhs; unfold more
  try rfl
def F (z : List Nat) (a : Nat) : Nat := z.length + 1 - a
def rItems (z : List Nat) (d a : Nat) (p : Stv) : Res := items (rdItem z d) z (F z a) a p
def rMore (z : List Nat) (d a : Nat) (ps : List Stv) : Res := more (Fg.part (rdItem z d) z) z (F z a) a ps
theorem rItems_eq {z : List Nat} {d a : Nat} {p : Stv} (ha : a ≤ z.length) : rItems z d a p = match z[a]? with
    | none => .ok (p, a)
    | some c => if isStart c = true then goOn (fun s e => rItems z d e (beh p s)) (rdItem z d a) else .ok (p, a) := by
  have e : F z a = z.length - a + 1 := by unfold F; omega
  unfold rItems
  rw [e, items_succ]
  cases hz : z[a]? with
  | none => rfl
  | some c =>
    dsimp only
    by_cases hs : isStart c = true
    · rw [if_pos hs, if_pos hs]
      cases hr : rdItem z d a with
      | error k => rfl
      | ok se =>
        obtain ⟨s, e'⟩ := se
        obtain ⟨g1, g2, _, _⟩ := rdItem_gd z d a s e' ha hr
        exact items_fuel (rdItem_gd z d) (z.length - a) (F z e') e' _ g2 (by omega) (by unfold F; omega)
    · rw [if_neg hs, if_neg hs]
theorem rMore_eq {z : List Nat} {d a : Nat} {ps : List Stv} (ha : a ≤ z.length) : rMore z d a ps = if z[a]? = some 38 then goOn (fun s e => rMore z d e (ps ++ [s])) (Fg.part (rdItem z d) z (a + 1)) else .ok (shown ps, a) := by
  have e : F z a = z.length - a + 1 := by unfold F; omega
  unfold rMore
  rw [e, more_succ]
  by_cases hs : z[a]? = some 38
  · rw [if_pos hs, if_pos hs]
    have hl := (List.getElem?_eq_some_iff.mp hs).1
    cases hr : Fg.part (rdItem z d) z (a + 1) with
    | error k => rfl
    | ok se =>
      obtain ⟨s, e'⟩ := se
      obtain ⟨g1, g2, _, _⟩ := part_gd (rdItem_gd z d) (a + 1) s e' (by omega) hr
      exact more_fuel (part_gd (rdItem_gd z d)) (z.length - a) (F z e') e' _ g2 (by omega) (by unfold F; omega)
  · rw [if_neg hs, if_neg hs]
theorem rPart_eq (z : List Nat) (d a : Nat) : Fg.part (rdItem z d) z a = goOn (partEnd z) (rItems z d a (0, [])) := rfl
theorem rd_more (z : List Nat) (d a : Nat) : rd z d a = goOn (fun s e => rMore z d e [s]) (Fg.part (rdItem z d) z a) := by rw [rd_eq]; rfl
def kEnd (k : Stv → Nat → Fin) : Res → Fin
  | .error j => .bad j
  | .ok (s, e) => k s e
theorem kEnd_goOn (k : Stv → Nat → Fin) (g : Stv → Nat → Res) (r : Res) : kEnd k (goOn g r) = kEnd (fun s e => kEnd k (g s e)) r := by
  cases r with
  | error j => rfl
  | ok se => obtain ⟨s, e⟩ := se; rfl
/-- what follows the end of parts, under so many openings -/
def kP (z : List Nat) : List Fr → Stv → Nat → Fin
  | [], s, e => if e < z.length then .bad e else .done s
  | (t, ps, p) :: rest, s, e => if z[e]? = some 41 then
      kEnd (fun s' e' => kEnd (fun s'' e'' => kEnd (kP z rest) (rMore z (6 - rest.length) e'' (ps ++ [s'']))) (partEnd z s' e')) (rItems z (6 - rest.length) (e + 1) (beh p (rep s t)))
    else .bad e
def kM (z : List Nat) (st : List Fr) (ps : List Stv) (s : Stv) (e : Nat) : Fin := kEnd (kP z st) (rMore z (6 - st.length) e (ps ++ [s]))
def kI (z : List Nat) (st : List Fr) (ps : List Stv) (r : Res) : Fin := kEnd (fun s e => kEnd (kM z st ps) (partEnd z s e)) r
theorem kP_cons (z : List Nat) (t : Nat) (ps : List Stv) (p : Stv) (rest : List Fr) (s : Stv) (e : Nat) : kP z ((t, ps, p) :: rest) s e = if z[e]? = some 41 then kI z rest ps (rItems z (6 - rest.length) (e + 1) (beh p (rep s t))) else .bad e := rfl
theorem kP_stop (z : List Nat) (st : List Fr) (s : Stv) (a : Nat) (hl : a < z.length) (h : z[a]? ≠ some 41) : kP z st s a = .bad a := by
  match st with
  | [] => exact if_pos hl
  | (t, ps, p) :: rest => rw [kP_cons, if_neg h]
theorem kM_stop (z : List Nat) (st : List Fr) (ps : List Stv) (s : Stv) (a : Nat) (hl : a < z.length) (h : z[a]? ≠ some 41) (h' : z[a]? ≠ some 38) : kM z st ps s a = .bad a := by
  unfold kM
  rw [rMore_eq (by omega), if_neg h']
  exact kP_stop z st _ a hl h
theorem lread_both (z : List Nat) : ∀ (n : Nat) (st : List Fr) (ps : List Stv) (p : Stv) (a f : Nat), z.length - a ≤ n → a ≤ z.length → st.length ≤ 6 → z.length + 1 ≤ f + a →
    (lread z f st ps p false a = kI z st ps (rItems z (6 - st.length) a p)) ∧ (p.1 ≠ 0 → lread z f st ps p true a = kM z st ps p a) := by
  intro n
  induction n with
  | zero =>
    intro st ps p a f hn ha hst hf
    have e : a = z.length := by omega
    subst e
    have hz : z[z.length]? = none := List.getElem?_eq_none (Nat.le_refl _)
    obtain ⟨f', rfl⟩ : ∃ f', f = f' + 1 := ⟨f - 1, by omega⟩
    have two : p.1 ≠ 0 → ∀ fl, lread z (f' + 1) st ps p fl z.length = kM z st ps p z.length := fun hp fl => by
      unfold lread kM
      rw [rMore_eq ha, hz, if_neg (show ¬ ((none : Option Nat) = some 38) by simp)]
      dsimp only [kEnd]
      match st with
      | [] => rw [if_neg (by simp [hp])]; show _ = kP z [] _ _; unfold kP; rw [if_neg (Nat.lt_irrefl _)]
      | (t, ps', p') :: rest => rw [if_pos (by simp), kP_cons, hz, if_neg (by simp)]
    refine ⟨?_, fun hp => two hp true⟩
    rw [rItems_eq ha, hz]
    dsimp only
    unfold kI
    dsimp only [kEnd]
    unfold partEnd
    by_cases hp : p.1 = 0
    · rw [if_pos hp]
      unfold lread
      rw [hz]
      dsimp only [kEnd]
      rw [if_pos (.inl hp)]
    · rw [if_neg hp, hz, if_neg (by simp)]
      exact two hp false
  | succ n ih =>
    intro st ps p a f hn ha hst hf
    by_cases hl : a < z.length
    case neg => exact ih st ps p a f (by omega) ha hst hf
    obtain ⟨f', rfl⟩ : ∃ f', f = f' + 1 := ⟨f - 1, by omega⟩
    have hz : z[a]? = some z[a] := List.getElem?_eq_getElem hl
    generalize z[a] = c at hz
    -- & and )
    have amp : p.1 ≠ 0 → c = 38 ∨ c = 41 → ∀ fl, lread z (f' + 1) st ps p fl a = kM z st ps p a := fun hp hc fl => by
      unfold lread kM
      rw [rMore_eq ha, hz]
      dsimp only
      rw [if_pos hc]
      unfold lclose
      rcases hc with rfl | rfl
      · rw [if_neg (by simp [hp]), if_pos rfl, if_pos rfl]
        dsimp only
        rw [(ih st (ps ++ [p]) (0, []) (a + 1) f' (by omega) (by omega) hst (by omega)).1, kEnd_goOn, rPart_eq, kEnd_goOn]
        rfl
      · rw [if_neg (show ¬ (some 41 = some 38) by decide)]
        match st with
        | [] => rw [if_pos (.inr ⟨rfl, rfl⟩)]; show _ = kP z [] _ _; unfold kP; rw [if_pos hl]
        | (t, ps', p') :: rest =>
          rw [if_neg (by simp [hp]), if_neg (by decide)]
          dsimp only [kEnd]
          rw [kP_cons, hz, if_pos rfl]
          exact (ih rest ps' _ (a + 1) f' (by omega) (by omega) (by simp at hst; omega) (by omega)).1
    have pe : p.1 = 0 → partEnd z p a = .error a := fun hp => if_pos hp
    have pe2 : p.1 ≠ 0 → c ≠ 64 → partEnd z p a = .ok (p, a) := fun hp hc => by
      unfold partEnd
      rw [if_neg hp, hz, if_neg (fun e => hc (Option.some.inj e))]
    constructor
    · rw [rItems_eq ha, hz]
      dsimp only
      by_cases hc : c = 38 ∨ c = 41
      · have ns : ¬ isStart c = true := by rcases hc with rfl | rfl <;> decide
        rw [if_neg ns]
        show _ = kEnd (kM z st ps) (partEnd z p a)
        by_cases hp : p.1 = 0
        · rw [pe hp]
          unfold lread
          rw [hz]
          dsimp only
          rw [if_pos hc]
          unfold lclose
          rw [if_pos (.inl hp)]
          rfl
        · rw [pe2 hp (by rcases hc with rfl | rfl <;> decide)]
          exact amp hp hc false
      by_cases h64 : c = 64
      · subst h64
        rw [if_neg (by decide)]
        show _ = kEnd (kM z st ps) (partEnd z p a)
        unfold lread
        rw [hz]
        dsimp only
        rw [if_neg hc, if_pos rfl]
        by_cases hp : p.1 = 0
        · rw [if_pos (.inr hp), pe hp]
          rfl
        · rw [if_neg (by simp [hp])]
          unfold partEnd
          rw [if_neg hp, hz, if_pos rfl]
          unfold filled
          by_cases hr : run z (a + 1) = []
          · rw [if_pos hr, if_pos hr]
            rfl
          · rw [if_neg hr, if_neg hr]
            unfold lfill
            by_cases hw : (run z (a + 1)).take 1 = [48] ∨ within (run z (a + 1)) (max 1 p.1) 24 = false
            · rw [if_pos hw, if_pos hw]
              rfl
            · rw [if_neg hw, if_neg hw]
              have : within (run z (a + 1)) (max 1 p.1) 24 = true := by
                cases hx : within (run z (a + 1)) (max 1 p.1) 24 with
                | true => rfl
                | false => exact absurd (.inr hx) hw
              obtain ⟨w1, w2, w3, w4⟩ := within_iff.mp this
              have g := bd_ge z (a + 1)
              exact (ih st ps (fillTo p (num (run z (a + 1)))) (bd z (a + 1)) f' (by omega) (bd_le (by omega)) hst (by omega)).2 (by show num _ ≠ 0; omega)
      · unfold lread
        rw [hz]
        dsimp only
        rw [if_neg hc, if_neg h64, if_neg (by decide)]
        have stop : isStart c ≠ true → kI z st ps (.ok (p, a)) = .bad a := fun hs => by
          show kEnd (kM z st ps) (partEnd z p a) = _
          by_cases hp : p.1 = 0
          · rw [pe hp]; rfl
          · rw [pe2 hp h64]
            exact kM_stop z st ps p a hl (by rw [hz]; exact fun e => hc (.inr (Option.some.inj e))) (by rw [hz]; exact fun e => hc (.inl (Option.some.inj e)))
        by_cases hd : c ∈ DG
        case neg =>
          have r0 : run z a = [] := run_stop fun c' h' => by rw [hz] at h'; cases h'; exact hd
          have b0 : bd z a = a := bd_eq.mpr r0
          rw [r0, b0, hz]
          unfold ltimes
          rw [if_pos rfl]
          dsimp only
          by_cases hs : c ∈ SG
          · have st1 : isStart c = true := by unfold isStart; rw [decide_eq_true hs]; rfl
            have n40 : c ≠ 40 := fun e => by subst e; revert hs; decide
            have io : c ∈ OPS := by
              simp only [List.mem_cons, List.not_mem_nil, or_false] at hs ⊢
              omega
            rw [if_pos st1, if_neg (by simp [io, n40]), if_neg n40]
            rw [rdItem_item]
            unfold item
            rw [r0, b0, hz, if_neg (by simp)]
            dsimp only
            rw [if_neg (by simp [hs]), if_neg (by simp), if_pos n40]
            exact (ih st ps _ (a + 1) f' (by omega) (by omega) hst (by omega)).1
          · have st0 : isStart c ≠ true := by unfold isStart; rw [decide_eq_false hs, decide_eq_false hd]; decide
            rw [if_neg st0, stop st0]
            by_cases h40 : c = 40
            · rw [if_pos (.inr ⟨h40, .inl rfl⟩)]
            · have io : c ∉ OPS := by
                simp only [List.mem_cons, List.not_mem_nil, or_false] at hs ⊢
                omega
              rw [if_pos (.inl io)]
        · have st1 : isStart c = true := by unfold isStart; rw [decide_eq_true hd, Bool.or_true]
          have r1 : run z a ≠ [] := by rw [run_step hz hd]; simp
          have gb := bd_ge z a
          have lb := bd_le ha
          rw [if_pos st1]
          unfold ltimes
          rw [if_neg r1]
          have hitem : rdItem z (6 - st.length) a = item (rpOf z (6 - st.length)) z a := rdItem_item z _ ▸ rfl
          rw [hitem]
          unfold item
          by_cases h0 : (run z a).take 1 = [48]
          · rw [if_pos h0, if_pos h0]
            rfl
          rw [if_neg h0, if_neg h0]
          cases hb : z[bd z a]? with
          | none =>
            rw [if_pos rfl]
            rfl
          | some h =>
            dsimp only
            by_cases io : h ∈ OPS
            case neg =>
              have i1 : h ∉ SG ∧ h ≠ 40 := by
                simp only [List.mem_cons, List.not_mem_nil, or_false] at io ⊢
                omega
              rw [if_pos (show (!decide (h ∈ OPS)) = true by rw [decide_eq_false io]; rfl), if_pos i1]
              rfl
            have i1 : ¬ (h ∉ SG ∧ h ≠ 40) := by
              simp only [List.mem_cons, List.not_mem_nil, or_false] at io ⊢
              omega
            rw [if_neg (show ¬ (!decide (h ∈ OPS)) = true by rw [decide_eq_true io]; decide), if_neg i1]
            cases hw : within (run z a) 2 24 with
            | false =>
              rw [if_pos rfl, if_pos ⟨r1, rfl⟩]
              rfl
            | true =>
              rw [if_neg (show ¬ true = false by decide), if_neg (fun z => by cases z.2)]
              dsimp only
              have et : timesOf (run z a) = num (run z a) := if_neg r1
              have hlb := (List.getElem?_eq_some_iff.mp hb).1
              rw [et]
              by_cases h40 : h = 40
              case neg =>
                rw [if_neg (by simp [io, h40]), if_neg h40, if_pos h40]
                exact (ih st ps _ (bd z a + 1) f' (by omega) (by omega) hst (by omega)).1
              rw [if_neg (show ¬ (h ≠ 40) from fun z => z h40)]
              by_cases h6 : st.length = 6
              · rw [if_pos (.inr ⟨h40, .inr h6⟩), h6]
                rfl
              · rw [if_neg (by simp [io, r1, h6]), if_pos h40]
                obtain ⟨d, hd'⟩ : ∃ d, 6 - st.length = d + 1 := ⟨5 - st.length, by omega⟩
                rw [(ih ((num (run z a), ps, p) :: st) [] (0, []) (bd z a + 1) f' (by omega) (by omega) (by simp; omega) (by omega)).1]
                have hd2 : 6 - ((num (run z a), ps, p) :: st).length = d := by simp; omega
                rw [hd2, hd']
                show _ = kEnd _ (goOn _ (close z (num (run z a)) (rd z d (bd z a + 1))))
                rw [kEnd_goOn, rd_more, rPart_eq]
                unfold kI
                have hcl : ∀ (r : Res) (k : Stv → Nat → Fin), kEnd k (close z (num (run z a)) r) = kEnd (fun s e => if z[e]? = some 41 then k (rep s (num (run z a))) (e + 1) else .bad e) r := fun r k => by
                  cases r with
                  | error j => rfl
                  | ok se =>
                    obtain ⟨s, e⟩ := se
                    show kEnd k (if z[e]? = some 41 then _ else _) = (if z[e]? = some 41 then _ else _)
                    split <;> rfl
                rw [hcl, kEnd_goOn, kEnd_goOn]
                congr 1
                funext s e
                congr 1
                funext s' e'
                unfold kM
                rw [hd2]
                congr 1
                funext s2 e2
                rw [kP_cons]
                unfold kI kM
                rw [hd']
    · intro hp
      by_cases hc : c = 38 ∨ c = 41
      · exact amp hp hc true
      have e1 : z[a]? ≠ some 41 := by rw [hz]; exact fun e => hc (.inr (Option.some.inj e))
      have e2 : z[a]? ≠ some 38 := by rw [hz]; exact fun e => hc (.inl (Option.some.inj e))
      rw [kM_stop z st ps p a hl e1 e2]
      unfold lread
      rw [hz]
      dsimp only
      rw [if_neg hc]
      by_cases h64 : c = 64
      · rw [if_pos h64, if_pos (.inl rfl)]
      · rw [if_neg h64, if_pos rfl]
/-- what the whole text tells -/
def told (z : List Nat) : Fin := match rd z 6 0 with
  | .error k => .bad k
  | .ok (s, e) => if e < z.length then .bad e else .done s
theorem lread_told (z : List Nat) (f : Nat) (hf : z.length + 1 ≤ f) : lread z f [] [] (0, []) false 0 = told z := by
  rw [(lread_both z z.length [] [] (0, []) 0 f (by omega) (by omega) (by decide) (by omega)).1]
  unfold told
  rw [rd_more, rPart_eq]
  show kEnd (fun s e => kEnd (kM z [] []) (partEnd z s e)) (rItems z 6 0 (0, [])) = _
  cases rItems z 6 0 (0, []) with
  | error k => rfl
  | ok se =>
    obtain ⟨s, e⟩ := se
    show kEnd (kM z [] []) (partEnd z s e) = match goOn (fun s e => rMore z 6 e [s]) (partEnd z s e) with
      | .error k => Fin.bad k
      | .ok (s, e) => if e < z.length then .bad e else .done s
    cases partEnd z s e with
    | error k => rfl
    | ok se =>
      obtain ⟨s, e⟩ := se
      show kEnd (kP z []) (rMore z 6 e [s]) = match rMore z 6 e [s] with
        | .error k => Fin.bad k
        | .ok (s, e) => if e < z.length then .bad e else .done s
      cases rMore z 6 e [s] with
      | error k => rfl
      | ok se => obtain ⟨s, e⟩ := se; rfl
end Fg
/-! What the walk of the reader with a stack asks. -/
namespace Fg
open PySem PySem.Spec PyProof.Rows L2
def Wf (ps : List Stv) (p : Stv) : Prop := (∀ x ∈ ps, 1 ≤ x.1 ∧ (x.1 ≤ 24 → x.2.length = x.1)) ∧ (p.1 ≤ 24 → p.2.length = p.1)
def wt (ps : List Stv) (p : Stv) : Nat := (lcmL ps + 1) * (p.1 + 1)
def WS : List Fr → Nat
  | [] => 1
  | (t, ps, p) :: r => t * wt ps p * WS r
structure WB (st : List Fr) (ps : List Stv) (p : Stv) (a : Nat) : Prop where
  wf : Wf ps p
  fr : ∀ f ∈ st, Wf f.2.1 f.2.2 ∧ 1 ≤ f.1 ∧ f.1 ≤ 24
  le : WS st * wt ps p ≤ 2 ^ (5 * a + 1)
theorem WS_pos {st : List Fr} (h : ∀ f ∈ st, Wf f.2.1 f.2.2 ∧ 1 ≤ f.1 ∧ f.1 ≤ 24) : 1 ≤ WS st := by
  induction st with
  | nil => exact Nat.le_refl _
  | cons f r ih =>
    obtain ⟨t, ps, p⟩ := f
    have h1 := (h _ List.mem_cons_self).2.1
    have h2 := ih fun f hf => h f (List.mem_cons_of_mem _ hf)
    have h3 : 1 ≤ wt ps p := Nat.mul_pos (Nat.succ_pos _) (Nat.succ_pos _)
    exact Nat.mul_pos (Nat.mul_pos h1 h3) h2
theorem pow_step {a b : Nat} (h : a < b) : 2 ^ (5 * a + 1) * 32 ≤ 2 ^ (5 * b + 1) := by
  have : 2 ^ (5 * a + 1) * 32 = 2 ^ (5 * (a + 1) + 1) := by rw [show 5 * (a + 1) + 1 = (5 * a + 1) + 5 by omega, Nat.pow_add _ _ 5]
  rw [this]
  exact Nat.pow_le_pow_right (by decide) (by omega)
/-- the weight grows by no more than the text -/
theorem WB.grow {st st' : List Fr} {ps ps' : List Stv} {p p' : Stv} {a b : Nat} (h : WB st ps p a) (hab : a < b) (h1 : Wf ps' p') (h2 : ∀ f ∈ st', Wf f.2.1 f.2.2 ∧ 1 ≤ f.1 ∧ f.1 ≤ 24)
    (h3 : WS st' * wt ps' p' ≤ WS st * wt ps p * 32) : WB st' ps' p' b :=
  ⟨h1, h2, Nat.le_trans h3 (Nat.le_trans (Nat.mul_le_mul_right _ h.le) (pow_step hab))⟩
theorem lcm_snoc_le {ps : List Stv} {p : Stv} (h : ∀ x ∈ ps, 1 ≤ x.1 ∧ (x.1 ≤ 24 → x.2.length = x.1)) (hp : p.1 ≠ 0) : lcmL (ps ++ [p]) + 1 ≤ wt ps p := by
  rw [lcmL_snoc]
  have := lcm_le_mul (lcmL_pos fun x hx => (h x hx).1) (show 1 ≤ p.1 by omega)
  unfold wt
  rw [Nat.add_mul, Nat.mul_add]
  omega
theorem wf_snoc {ps : List Stv} {p : Stv} (h : Wf ps p) (hp : p.1 ≠ 0) : ∀ x ∈ ps ++ [p], 1 ≤ x.1 ∧ (x.1 ≤ 24 → x.2.length = x.1) := fun x hx => by
  rcases List.mem_append.mp hx with hx | hx
  · exact h.1 x hx
  · rw [List.mem_singleton.mp hx]; exact ⟨by omega, h.2⟩
theorem WB.amp {st : List Fr} {ps : List Stv} {p : Stv} {a : Nat} (h : WB st ps p a) (hp : p.1 ≠ 0) : WB st (ps ++ [p]) (0, []) (a + 1) := by
  refine h.grow (Nat.lt_succ_self _) ⟨wf_snoc h.wf hp, fun _ => rfl⟩ h.fr ?_
  have := lcm_snoc_le h.wf.1 hp
  have e : wt (ps ++ [p]) (0, []) = lcmL (ps ++ [p]) + 1 := Nat.mul_one _
  rw [e]
  exact Nat.le_trans (Nat.mul_le_mul_left _ this) (Nat.le_mul_of_pos_right _ (by decide))
theorem beh_len {p s : Stv} (hp : p.1 ≤ 24 → p.2.length = p.1) (hs : s.1 ≤ 24 → s.2.length = s.1) : (beh p s).1 ≤ 24 → (beh p s).2.length = (beh p s).1 := fun h => by
  have h : p.1 + s.1 ≤ 24 := h
  show (p.2 ++ s.2).length = p.1 + s.1
  rw [List.length_append, hp (by omega), hs (by omega)]
theorem rep_lenS {s : Stv} {t : Nat} (hs : s.1 ≤ 24 → s.2.length = s.1) (t1 : 1 ≤ t) : (rep s t).1 ≤ 24 → (rep s t).2.length = (rep s t).1 := fun h => by
  have h : s.1 * t ≤ 24 := h
  have : s.1 ≤ s.1 * t := Nat.le_mul_of_pos_right _ t1
  show (rpt t s.2).length = s.1 * t
  rw [rpt_len, hs (by omega), Nat.mul_comm]
theorem WB.close {rest : List Fr} {ps ps' : List Stv} {p p' : Stv} {t a : Nat} (h : WB ((t, ps', p') :: rest) ps p a) (hp : p.1 ≠ 0) : WB rest ps' (beh p' (rep (shown (ps ++ [p])) t)) (a + 1) := by
  obtain ⟨f1, f2, f3⟩ := h.fr _ List.mem_cons_self
  refine h.grow (Nat.lt_succ_self _) ⟨f1.1, beh_len f1.2 (rep_lenS (fun _ => showN_len _ _) f2)⟩ (fun f hf => h.fr f (List.mem_cons_of_mem _ hf)) ?_
  have h1 := lcm_snoc_le h.wf.1 hp
  show WS rest * ((lcmL ps' + 1) * (p'.1 + lcmL (ps ++ [p]) * t + 1)) ≤ t * ((lcmL ps' + 1) * (p'.1 + 1)) * WS rest * wt ps p * 32
  generalize lcmL (ps ++ [p]) = L at *
  generalize wt ps p = W at *
  generalize WS rest = R
  generalize lcmL ps' + 1 = M
  have h2 : p'.1 + L * t + 1 ≤ t * (p'.1 + 1) * W := by
    have a1 : L * t + t ≤ t * W := by
      have := Nat.mul_le_mul_left t h1
      rw [Nat.mul_add, Nat.mul_one, Nat.mul_comm t L] at this
      exact this
    have a2 : t * W ≤ (p'.1 + 1) * (t * W) := Nat.le_mul_of_pos_left _ (Nat.succ_pos _)
    have a3 : (p'.1 + 1) * (t * W) = p'.1 * (t * W) + t * W := by rw [Nat.add_mul, Nat.one_mul]
    have a4 : p'.1 ≤ p'.1 * (t * W) := Nat.le_mul_of_pos_right _ (by have : t ≤ t * W := by omega
                                                                     omega)
    have a5 : t * (p'.1 + 1) * W = (p'.1 + 1) * (t * W) := by rw [Nat.mul_comm t, Nat.mul_assoc]
    rw [a5, a3]
    omega
  calc R * (M * (p'.1 + L * t + 1)) ≤ R * (M * (t * (p'.1 + 1) * W)) := Nat.mul_le_mul_left _ (Nat.mul_le_mul_left _ h2)
    _ = t * (M * (p'.1 + 1)) * R * W := by simp only [Nat.mul_comm, Nat.mul_left_comm, Nat.mul_assoc]
    _ ≤ t * (M * (p'.1 + 1)) * R * W * 32 := Nat.le_mul_of_pos_right _ (by decide)
theorem WB.part {st : List Fr} {ps : List Stv} {p p' : Stv} {a b : Nat} (h : WB st ps p a) (hab : a < b) (hl : p'.1 ≤ 24 → p'.2.length = p'.1) (h1 : p'.1 + 1 ≤ (p.1 + 1) * 32) : WB st ps p' b := by
  refine h.grow hab ⟨h.wf.1, hl⟩ h.fr ?_
  unfold wt
  calc WS st * ((lcmL ps + 1) * (p'.1 + 1)) ≤ WS st * ((lcmL ps + 1) * ((p.1 + 1) * 32)) := Nat.mul_le_mul_left _ (Nat.mul_le_mul_left _ h1)
    _ = WS st * ((lcmL ps + 1) * (p.1 + 1)) * 32 := by simp only [Nat.mul_assoc]
theorem WB.fill {st : List Fr} {ps : List Stv} {p : Stv} {a b n : Nat} (h : WB st ps p a) (hab : a < b) (h1 : p.1 ≤ n) (h2 : n ≤ 24) : WB st ps (fillTo p n) b := by
  refine h.part hab (fun _ => ?_) ?_
  · show (p.2 ++ List.replicate (n - p.1) 46).length = n
    rw [List.length_append, List.length_replicate, h.wf.2 (by omega)]
    omega
  · show n + 1 ≤ _
    rw [Nat.add_mul]; omega
theorem WB.sign {st : List Fr} {ps : List Stv} {p : Stv} {a b c t : Nat} (h : WB st ps p a) (hab : a < b) (t1 : 1 ≤ t) (t2 : t ≤ 24) : WB st ps (beh p (rep (1, [c]) t)) b := by
  refine h.part hab (beh_len h.wf.2 (rep_lenS (fun _ => rfl) t1)) ?_
  show p.1 + 1 * t + 1 ≤ _
  rw [Nat.add_mul]; omega
theorem WB.opn {st : List Fr} {ps : List Stv} {p : Stv} {a b t : Nat} (h : WB st ps p a) (hab : a + 2 ≤ b) (t1 : 1 ≤ t) (t2 : t ≤ 24) : WB ((t, ps, p) :: st) [] (0, []) b := by
  have h0 : WB st ps p (a + 1) := h.grow (Nat.lt_succ_self _) h.wf h.fr (Nat.le_mul_of_pos_right _ (by decide))
  refine ⟨⟨by simp, fun _ => rfl⟩, fun f hf => ?_, ?_⟩
  · rcases List.mem_cons.mp hf with rfl | hf
    · exact ⟨h.wf, t1, t2⟩
    · exact h.fr f hf
  · show t * wt ps p * WS st * 2 ≤ _
    have h1 : t * wt ps p * WS st * 2 = (WS st * wt ps p) * (t * 2) := by simp only [Nat.mul_comm, Nat.mul_left_comm, Nat.mul_assoc]
    rw [h1]
    have h2 : (WS st * wt ps p) * (t * 2) ≤ 2 ^ (5 * a + 1) * (32 * 32) := Nat.mul_le_mul h.le (by omega)
    have h3 : 2 ^ (5 * a + 1) * (32 * 32) = 2 ^ (5 * (a + 2) + 1) := by rw [show 5 * (a + 2) + 1 = (5 * a + 1) + 10 by omega, Nat.pow_add _ _ 10]
    exact Nat.le_trans h2 (h3 ▸ Nat.pow_le_pow_right (by decide) (by omega))
theorem WB.big {st : List Fr} {ps : List Stv} {p : Stv} {a : Nat} (h : WB st ps p a) (hp : p.1 ≠ 0) (ha : a ≤ 1700) : Big (lcmL (ps ++ [p])) := by
  have h1 := lcm_snoc_le h.wf.1 hp
  have h2 : wt ps p ≤ WS st * wt ps p := Nat.le_mul_of_pos_left _ (WS_pos h.fr)
  have h3 : 2 ^ (5 * a + 1) ≤ 2 ^ 8600 := Nat.pow_le_pow_right (by decide) (by omega)
  exact Nat.lt_of_lt_of_le (Nat.lt_of_succ_le (Nat.le_trans h1 (Nat.le_trans h2 h.le))) h3
theorem WB.start : WB [] [] (0, []) 0 := ⟨⟨by simp, fun _ => rfl⟩, by simp, by decide⟩
/-! ### how it stands in the heap -/
def PL (H : Hp) (D : Addr) (ps : List Stv) : Prop := ∃ qs : List Addr, H D = some (.lst (qs.map V.ref)) ∧ PartsAt H qs ps
theorem PL.mono {H H' : Hp} {D : Addr} {ps : List Stv} (h : PL H D ps) (s : Same H H') : PL H' D ps := by
  obtain ⟨qs, h1, h2⟩ := h
  exact ⟨qs, s _ _ h1, h2.mono s⟩
theorem PartsAt.snoc {H : Hp} {qs : List Addr} {ps : List Stv} {q : Addr} {p : Stv} (h : PartsAt H qs ps) (hq : H q = some (Sv p.1 p.2)) : PartsAt H (qs ++ [q]) (ps ++ [p]) := by
  have hl := h.1
  refine ⟨by rw [List.length_append, List.length_append, hl]; rfl, fun i x y h1 h2 => ?_⟩
  by_cases hi : i < qs.length
  · rw [List.getElem?_append_left hi] at h1
    rw [List.getElem?_append_left (by omega)] at h2
    exact h.2 i x y h1 h2
  · rw [List.getElem?_append_right (by omega)] at h1
    rw [List.getElem?_append_right (by omega)] at h2
    have e0 : i - qs.length = 0 := by
      have := (List.getElem?_eq_some_iff.mp h1).1
      rw [List.length_singleton] at this
      omega
    rw [e0] at h1
    rw [show i - ps.length = 0 by omega] at h2
    cases h1; cases h2
    exact hq
def FA (H : Hp) (a : Addr) (f : Fr) : Prop := ∃ D q, H a = some (.tup [.int (f.1 : Int), .ref D, .ref q]) ∧ PL H D f.2.1 ∧ H q = some (Sv f.2.2.1 f.2.2.2)
theorem FA.mono {H H' : Hp} {a : Addr} {f : Fr} (h : FA H a f) (s : Same H H') : FA H' a f := by
  obtain ⟨D, q, h1, h2, h3⟩ := h
  exact ⟨D, q, s _ _ h1, h2.mono s, s _ _ h3⟩
/-- the frames of a stack, the last opened one last -/
inductive FS (H : Hp) : List Addr → List Fr → Prop where
  | nil : FS H [] []
  | cons {as : List Addr} {st : List Fr} {a : Addr} {f : Fr} : FS H as st → FA H a f → FS H (as ++ [a]) (f :: st)
theorem FS.mono {H H' : Hp} {as : List Addr} {st : List Fr} (h : FS H as st) (s : Same H H') : FS H' as st := by
  induction h with
  | nil => exact .nil
  | cons _ h2 ih => exact .cons ih (h2.mono s)
theorem FS.len {H : Hp} {as : List Addr} {st : List Fr} (h : FS H as st) : as.length = st.length := by
  induction h with
  | nil => rfl
  | cons _ _ ih => rw [List.length_append, ih]; rfl
def SL (H : Hp) (D : Addr) (st : List Fr) : Prop := ∃ as : List Addr, H D = some (.lst (as.map V.ref)) ∧ FS H as st
theorem SL.mono {H H' : Hp} {D : Addr} {st : List Fr} (h : SL H D st) (s : Same H H') : SL H' D st := by
  obtain ⟨as, h1, h2⟩ := h
  exact ⟨as, s _ _ h1, h2.mono s⟩
end Fg
namespace Fg
open PySem PySem.Spec PyProof.Rows L2
/-! ### texts put together -/
theorem joinL_len (ls : List (List Nat)) : (TL.joinL [38] ls).length ≤ (ls.map fun l => l.length + 1).sum := by
  induction ls with
  | nil => exact Nat.le_refl _
  | cons p r ih =>
    cases r with
    | nil => show p.length ≤ _; rw [List.map_cons, List.sum_cons]; omega
    | cons q r =>
      show (p ++ ([38] ++ TL.joinL [38] (q :: r))).length ≤ _
      rw [List.map_cons, List.sum_cons, List.length_append, List.length_append]
      have : ([38] : List Nat).length = 1 := rfl
      omega
theorem joinL_len1 (ls : List (List Nat)) (h : ls ≠ []) : (TL.joinL [38] ls).length + 1 ≤ (ls.map fun l => l.length + 1).sum := by
  induction ls with
  | nil => exact absurd rfl h
  | cons p r ih =>
    cases r with
    | nil => show p.length + 1 ≤ _; rw [List.map_cons, List.sum_cons]; omega
    | cons q r =>
      have := ih (by simp)
      show (p ++ ([38] ++ TL.joinL [38] (q :: r))).length + 1 ≤ _
      rw [List.map_cons, List.sum_cons, List.length_append, List.length_append]
      have : ([38] : List Nat).length = 1 := rfl
      omega
theorem join_sep (sep : List Nat) (ls : List (List Nat)) : Txt.join ⟨sep.toArray⟩ (ls.map fun l => (⟨l.toArray⟩ : Str)) = ⟨(TL.joinL sep ls).toArray⟩ := by
  refine TL.ext_tl ?_
  rw [TL.join_eq, TL.tl_join, List.map_map]
  show TL.joinL sep.toArray.toList (ls.map fun l => l.toArray.toList) = (TL.joinL sep ls).toArray.toList
  simp
theorem i_joinG {K : PySem.W.Frag} {H : Hp} {Q : VK} {p : Addr} {sep : List Nat} {ls : List (List Nat)} (hs : SqL K H p (ls.map S)) (hz : (ls.map List.length).sum + ls.length * sep.length ≤ 100000) (q : Q (S (TL.joinL sep ls)) H) : rJoinP K (S sep) [.ref p] H Q := by
  refine ⟨⟨sep.toArray⟩, p, ls.map fun l => (⟨l.toArray⟩ : Str), rfl, rfl, .inl ?_, ?_, ?_⟩
  · rw [List.map_map]; exact hs
  · rw [List.map_map]
    have e : (ls.map ((·.length) ∘ fun l => (⟨l.toArray⟩ : Str))) = ls.map List.length := List.map_congr_left fun l _ => str_len l
    rw [e, List.length_map]
    have e2 : (⟨sep.toArray⟩ : Str).length = sep.length := str_len sep
    show (ls.map List.length).sum + ls.length * (⟨sep.toArray⟩ : Str).length ≤ _
    rw [e2]
    exact Nat.le_trans hz (by decide)
  · rw [join_sep]; exact q
theorem sum_len1 (ls : List (List Nat)) : (ls.map fun l => l.length + 1).sum = (ls.map List.length).sum + ls.length := by
  induction ls with
  | nil => rfl
  | cons p r ih => rw [List.map_cons, List.map_cons, List.sum_cons, List.sum_cons, ih, List.length_cons]; omega
theorem upd_comm {H : Hp} {a b : Addr} {o o' : HO} (h : a ≠ b) : upd (upd H a o) b o' = upd (upd H b o') a o := by
  funext c
  by_cases h1 : c = b
  · rw [h1, upd_same, upd_ne (Ne.symm h), upd_same]
  · rw [upd_ne h1]
    by_cases h2 : c = a
    · rw [h2, upd_same, upd_same]
    · rw [upd_ne h2, upd_ne h2, upd_ne h1]
def ones (n : Nat) : List V := List.replicate n (.int 1)
theorem ones_succ (n : Nat) : ones n ++ [.int 1] = ones (n + 1) := by
  unfold ones
  rw [List.replicate_succ', ]
theorem dec_len (n : Nat) : (dec n).length ≤ 2 := by
  unfold dec
  split <;> simp
end Fg
/-! Rhythm texts as trees: how they are written, what they stand for, that the reader reads them. -/
namespace Fg
open PySem PySem.Spec PyProof.Rows L2
abbrev Sg := Nat × Nat
/-- what stands in a group, of items of a level -/
def Gr : Nat → Type
  | 0 => Empty
  | d + 1 => List (List (Sg ⊕ (Nat × Gr d)) × Nat)
abbrev ItG (G : Type) := Sg ⊕ (Nat × G)
abbrev PtG (G : Type) := List (ItG G) × Nat
section
variable {G : Type} (sg : G → Stv) (wg : G → List Nat) (vg : G → Prop)
def stI : ItG G → Stv
  | .inl (t, c) => rep (1, [c]) (max 1 t)
  | .inr (t, g) => rep (sg g) (max 1 t)
def stIs (is : List (ItG G)) : Stv := is.foldl (fun p i => beh p (stI sg i)) (0, [])
def stP (p : PtG G) : Stv := if 0 < p.2 then fillTo (stIs sg p.1) p.2 else stIs sg p.1
def stPs (ps : List (PtG G)) : Stv := shown (ps.map (stP sg))
def wN (t : Nat) : List Nat := if 0 < t then dec t else []
def wI : ItG G → List Nat
  | .inl (t, c) => wN t ++ [c]
  | .inr (t, g) => wN t ++ ([40] ++ (wg g ++ [41]))
def wIs (is : List (ItG G)) : List Nat := (is.map (wI wg)).flatten
def wF (f : Nat) : List Nat := if 0 < f then 64 :: dec f else []
def wP (p : PtG G) : List Nat := wIs wg p.1 ++ wF p.2
def wPs (ps : List (PtG G)) : List Nat := TL.joinL [38] (ps.map (wP wg))
def vI : ItG G → Prop
  | .inl (t, c) => c ∈ SG ∧ (t = 0 ∨ (2 ≤ t ∧ t ≤ 24))
  | .inr (t, g) => 2 ≤ t ∧ t ≤ 24 ∧ vg g
def vP (p : PtG G) : Prop := p.1 ≠ [] ∧ (∀ i ∈ p.1, vI vg i) ∧ (p.2 = 0 ∨ ((stIs sg p.1).1 ≤ p.2 ∧ p.2 ≤ 24))
def vPs (ps : List (PtG G)) : Prop := ps ≠ [] ∧ ∀ p ∈ ps, vP sg vg p
end
def stG : (d : Nat) → Gr d → Stv
  | 0, _ => (0, [])
  | d + 1, ps => stPs (stG d) ps
def wG : (d : Nat) → Gr d → List Nat
  | 0, _ => []
  | d + 1, ps => wPs (wG d) ps
def vG : (d : Nat) → Gr d → Prop
  | 0, _ => False
  | d + 1, ps => vPs (stG d) (vG d) ps
/-! ### positive, and of their length -/
def Pos (s : Stv) : Prop := 1 ≤ s.1 ∧ (s.1 ≤ 24 → s.2.length = s.1)
section
variable {G : Type} {sg : G → Stv} {wg : G → List Nat} {vg : G → Prop}
theorem Pos.rep {s : Stv} {t : Nat} (h : Pos s) (ht : 1 ≤ t) : Pos (rep s t) := by
  refine ⟨Nat.mul_pos h.1 ht, fun e => ?_⟩
  have e : s.1 * t ≤ 24 := e
  have : s.1 ≤ s.1 * t := Nat.le_mul_of_pos_right _ ht
  show (rpt t s.2).length = s.1 * t
  rw [rpt_len, h.2 (by omega), Nat.mul_comm]
theorem stI_pos (hg : ∀ g, vg g → Pos (sg g)) {i : ItG G} (h : vI vg i) : Pos (stI sg i) := by
  cases i with
  | inl x => exact Pos.rep (s := (1, [x.2])) ⟨Nat.le_refl _, fun _ => rfl⟩ (by omega)
  | inr x => exact (hg _ h.2.2).rep (by omega)
theorem foldl_beh (is : List (ItG G)) : ∀ p : Stv, is.foldl (fun p i => beh p (stI sg i)) p = beh p (stIs sg is) := by
  induction is with
  | nil => intro p; show p = beh p (0, []); simp [beh]
  | cons i r ih =>
    intro p
    unfold stIs
    rw [List.foldl_cons, List.foldl_cons, ih, ih]
    simp [beh, Nat.add_assoc]
theorem stIs_cons (i : ItG G) (r : List (ItG G)) : stIs sg (i :: r) = beh (stI sg i) (stIs sg r) := by
  conv => lhs; unfold stIs
  rw [List.foldl_cons, foldl_beh]
  simp [beh]
theorem stIs_len (hg : ∀ g, vg g → Pos (sg g)) : ∀ {is : List (ItG G)}, (∀ i ∈ is, vI vg i) → ((stIs sg is).1 ≤ 24 → (stIs sg is).2.length = (stIs sg is).1) ∧ (is ≠ [] → 1 ≤ (stIs sg is).1)
  | [], _ => ⟨fun _ => rfl, fun h => absurd rfl h⟩
  | i :: r, h => by
    rw [stIs_cons]
    have h1 := stI_pos hg (h i List.mem_cons_self)
    have h2 := stIs_len hg (is := r) fun i hi => h i (List.mem_cons_of_mem _ hi)
    refine ⟨fun e => ?_, fun _ => Nat.le_trans h1.1 (Nat.le_add_right _ _)⟩
    have e : (stI sg i).1 + (stIs sg r).1 ≤ 24 := e
    show ((stI sg i).2 ++ (stIs sg r).2).length = (stI sg i).1 + (stIs sg r).1
    rw [List.length_append, h1.2 (by omega), h2.1 (by omega)]
theorem stP_pos (hg : ∀ g, vg g → Pos (sg g)) {p : PtG G} (h : vP sg vg p) : Pos (stP sg p) := by
  obtain ⟨h1, h2, h3⟩ := h
  have hs := stIs_len hg h2
  unfold stP
  by_cases hf : 0 < p.2
  · rw [if_pos hf]
    have h4 : (stIs sg p.1).1 ≤ p.2 ∧ p.2 ≤ 24 := h3.resolve_left (by omega)
    refine ⟨hf, fun _ => ?_⟩
    show ((stIs sg p.1).2 ++ List.replicate _ 46).length = p.2
    rw [List.length_append, List.length_replicate, hs.1 (by omega)]
    omega
  · rw [if_neg hf]
    exact ⟨hs.2 h1, hs.1⟩
theorem stPs_pos (hg : ∀ g, vg g → Pos (sg g)) {ps : List (PtG G)} (h : vPs sg vg ps) : Pos (stPs sg ps) := by
  refine ⟨lcmL_pos fun p hp => ?_, fun _ => showN_len _ _⟩
  obtain ⟨q, hq, rfl⟩ := List.mem_map.mp hp
  exact (stP_pos hg (h.2 q hq)).1
end
theorem stG_pos : ∀ d (g : Gr d), vG d g → Pos (stG d g)
  | 0, g, h => nomatch g
  | d + 1, ps, h => stPs_pos (stG_pos d) h
/-! ### a text that stands at a place -/
def Tx (z : List Nat) (a : Nat) (w : List Nat) : Prop := ∀ i < w.length, z[a + i]? = w[i]?
theorem Tx.left {z u v : List Nat} {a : Nat} (h : Tx z a (u ++ v)) : Tx z a u := fun i hi => by
  rw [h i (by rw [List.length_append]; omega), List.getElem?_append_left hi]
theorem Tx.right {z u v : List Nat} {a : Nat} (h : Tx z a (u ++ v)) : Tx z (a + u.length) v := fun i hi => by
  rw [Nat.add_assoc, h (u.length + i) (by rw [List.length_append]; omega), List.getElem?_append_right (by omega)]
  congr 1
  omega
theorem Tx.head {z r : List Nat} {a c : Nat} (h : Tx z a (c :: r)) : z[a]? = some c := h 0 (by rw [List.length_cons]; omega)
theorem Tx.tail {z r : List Nat} {a c : Nat} (h : Tx z a (c :: r)) : Tx z (a + 1) r := fun i hi => by
  rw [Nat.add_assoc, Nat.add_comm 1 i, h (i + 1) (by rw [List.length_cons]; omega)]
  rfl
theorem Tx.le {z w : List Nat} {a : Nat} (h : Tx z a w) (ha : a ≤ z.length) : a + w.length ≤ z.length := by
  by_cases hw : w.length = 0
  · omega
  · have := h (w.length - 1) (by omega)
    rw [List.getElem?_eq_getElem (show w.length - 1 < w.length by omega)] at this
    have := (List.getElem?_eq_some_iff.mp this).1
    omega
theorem run_tx {z : List Nat} : ∀ {u : List Nat} {a : Nat}, (∀ c ∈ u, c ∈ DG) → Tx z a u → (∀ c, z[a + u.length]? = some c → c ∉ DG) → run z a = u
  | [], a, _, _, h => run_stop (by simpa using h)
  | c :: r, a, hd, ht, h => by
    rw [run_step ht.head (hd c List.mem_cons_self), run_tx (fun c hc => hd c (List.mem_cons_of_mem _ hc)) ht.tail (by
      intro c' hc'
      exact h c' (by rw [List.length_cons, ← hc']; congr 1; omega))]
theorem dec_facts : ∀ t : Nat, t ≤ 24 → (∀ c ∈ dec t, c ∈ DG) ∧ (1 ≤ t → (dec t).take 1 ≠ [48]) ∧ num (dec t) = t ∧ 1 ≤ (dec t).length ∧ (dec t).length ≤ 2 := by decide
/-! ### the reader at such a text -/
section
variable {G : Type} {sg : G → Stv} {wg : G → List Nat} {vg : G → Prop} {z : List Nat} {k : Nat}
/-- groups are read -/
def GrOk (sg : G → Stv) (wg : G → List Nat) (vg : G → Prop) (z : List Nat) (k : Nat) : Prop := ∀ g, vg g → ∀ a, Tx z a (wg g) → z[a + (wg g).length]? = some 41 → ∃ f, rpOf z k = some f ∧ f a = .ok (sg g, a + (wg g).length)
theorem item_tx (hg : GrOk sg wg vg z k) {i : ItG G} {a : Nat} (hv : vI vg i) (ht : Tx z a (wI wg i)) : rdItem z k a = .ok (stI sg i, a + (wI wg i).length) := by
  rw [rdItem_item]
  -- the number ahead
  have numb : ∀ (t c : Nat) (r : List Nat), (t = 0 ∨ (2 ≤ t ∧ t ≤ 24)) → c ∉ DG → Tx z a (wN t ++ (c :: r)) → run z a = wN t ∧ bd z a = a + (wN t).length ∧ z[bd z a]? = some c ∧ Tx z (bd z a + 1) r ∧ ¬ (run z a).take 1 = [48] ∧ ¬ (run z a ≠ [] ∧ within (run z a) 2 24 = false) ∧ timesOf (run z a) = max 1 t := fun t c r h hc htx => by
    have h0 : z[a + (wN t).length]? = some c := htx.right.head
    have hr : run z a = wN t := by
      refine run_tx (fun x hx => ?_) htx.left (fun x hx => by rw [h0] at hx; cases hx; exact hc)
      unfold wN at hx
      split at hx
      · exact (dec_facts t (by omega)).1 x hx
      · simp at hx
    have hb : bd z a = a + (wN t).length := by unfold bd; rw [hr]
    refine ⟨hr, hb, by rw [hb, h0], by rw [hb]; exact htx.right.tail, ?_, ?_, ?_⟩
    · rw [hr]
      unfold wN
      split
      · exact (dec_facts t (by omega)).2.1 (by omega)
      · simp
    · rw [hr]
      unfold wN
      split
      · obtain ⟨_, _, h3, h4, h5⟩ := dec_facts t (by omega)
        have : within (dec t) 2 24 = true := within_iff.mpr ⟨h4, h5, by omega, by omega⟩
        rw [this]; simp
      · simp
    · rw [hr]
      unfold wN timesOf
      split
      · obtain ⟨_, _, h3, h4, h5⟩ := dec_facts t (by omega)
        rw [if_neg (fun e => by rw [e] at h4; exact absurd h4 (by decide)), h3]
        omega
      · rw [if_pos rfl]; omega
  cases i with
  | inl x =>
    obtain ⟨t, c⟩ := x
    obtain ⟨hc, h⟩ := hv
    have hd : c ∉ DG := by
      revert hc
      simp only [List.mem_cons, List.not_mem_nil, or_false]
      omega
    have h40 : c ≠ 40 := fun e => by subst e; revert hc; decide
    obtain ⟨n1, n2, n3, n4, n5, n6, n7⟩ := numb t c [] h hd ht
    unfold item
    rw [if_neg n5, n3]
    dsimp only
    rw [if_neg (fun z => z.1 hc), if_neg n6, if_pos h40, n7, n2]
    show Except.ok (stI sg (.inl (t, c)), _) = _
    have : (wI wg (.inl (t, c))).length = (wN t).length + 1 := by show (wN t ++ [c]).length = _; rw [List.length_append]; rfl
    rw [this, Nat.add_assoc]
  | inr x =>
    obtain ⟨t, g⟩ := x
    obtain ⟨h1, h2, h3⟩ := hv
    obtain ⟨n1, n2, n3, n4, n5, n6, n7⟩ := numb t 40 (wg g ++ [41]) (.inr ⟨h1, h2⟩) (by decide) ht
    obtain ⟨f, e1, e2⟩ := hg g h3 (bd z a + 1) n4.left n4.right.head
    unfold item
    rw [if_neg n5, n3]
    dsimp only
    rw [if_neg (fun z => z.2 rfl), if_neg n6, if_neg (fun z => z rfl), n7, e1]
    dsimp only
    rw [e2]
    unfold close
    dsimp only
    rw [if_pos n4.right.head]
    have : (wI wg (.inr (t, g))).length = (wN t).length + 1 + (wg g).length + 1 := by
      show (wN t ++ ([40] ++ (wg g ++ [41]))).length = _
      simp only [List.length_append, List.length_singleton]
      omega
    rw [this, n2]
    show Except.ok (stI sg (.inr (t, g)), _) = _
    congr 2
    omega
theorem wI_start {i : ItG G} (hv : vI vg i) : ∃ c r, wI wg i = c :: r ∧ isStart c = true := by
  have key : ∀ (t : Nat) (x : Nat) (r : List Nat), (t = 0 ∨ (2 ≤ t ∧ t ≤ 24)) → (t = 0 → isStart x = true) → ∃ c r', wN t ++ (x :: r) = c :: r' ∧ isStart c = true := fun t x r h hx => by
    unfold wN
    split
    · obtain ⟨d1, _, _, h4, _⟩ := dec_facts t (by omega)
      cases hd : dec t with
      | nil => rw [hd] at h4; exact absurd h4 (by decide)
      | cons c r' =>
        refine ⟨c, _, rfl, ?_⟩
        have := d1 c (by rw [hd]; exact List.mem_cons_self)
        unfold isStart
        rw [decide_eq_true this, Bool.or_true]
    · exact ⟨x, r, rfl, hx (by omega)⟩
  cases i with
  | inl x =>
    refine key x.1 x.2 [] hv.2 fun _ => ?_
    unfold isStart
    rw [decide_eq_true hv.1]
    rfl
  | inr x => exact key x.1 40 _ (.inr ⟨hv.1, hv.2.1⟩) fun e => by have := hv.1; omega
theorem items_tx (hg : GrOk sg wg vg z k) : ∀ {is : List (ItG G)} {a : Nat} (p : Stv), a ≤ z.length → (∀ i ∈ is, vI vg i) → Tx z a (wIs wg is) → rItems z k a p = rItems z k (a + (wIs wg is).length) (is.foldl (fun p i => beh p (stI sg i)) p)
  | [], a, p, ha, _, _ => rfl
  | i :: r, a, p, ha, hv, ht => by
    have hi := hv i List.mem_cons_self
    have e : wIs wg (i :: r) = wI wg i ++ wIs wg r := by unfold wIs; rw [List.map_cons, List.flatten_cons]
    rw [e] at ht ⊢
    obtain ⟨c, r', hc, hs⟩ := wI_start (wg := wg) hi
    have hz : z[a]? = some c := by have := ht.left; rw [hc] at this; exact this.head
    rw [rItems_eq ha, hz]
    dsimp only
    rw [if_pos hs, item_tx hg hi ht.left]
    show rItems z k (a + (wI wg i).length) (beh p (stI sg i)) = _
    rw [items_tx hg _ (Tx.le ht.left ha) (fun i hi => hv i (List.mem_cons_of_mem _ hi)) ht.right, List.length_append, List.foldl_cons, Nat.add_assoc]
/-- what may stand behind a part -/
def Beh (o : Option Nat) : Prop := o = none ∨ o = some 38 ∨ o = some 41
theorem part_tx (hg : GrOk sg wg vg z k) (hpos : ∀ g, vg g → Pos (sg g)) {p : PtG G} {a : Nat} (ha : a ≤ z.length) (hv : vP sg vg p) (ht : Tx z a (wP wg p)) (hb : Beh z[a + (wP wg p).length]?) : Fg.part (rdItem z k) z a = .ok (stP sg p, a + (wP wg p).length) := by
  obtain ⟨h1, h2, h3⟩ := hv
  have hs := stIs_len hpos h2
  have hne := hs.2 h1
  rw [rPart_eq]
  unfold wP at ht hb ⊢
  have he : a + (wIs wg p.1).length ≤ z.length := Tx.le ht.left ha
  rw [items_tx hg (0, []) ha h2 ht.left]
  have eI : p.1.foldl (fun p i => beh p (stI sg i)) (0, []) = stIs sg p.1 := rfl
  rw [eI, rItems_eq he]
  have htr := ht.right
  unfold stP
  unfold wF at htr hb ⊢
  by_cases hf : 0 < p.2
  · rw [if_pos hf] at htr hb ⊢
    have hz := htr.head
    rw [hz]
    dsimp only
    rw [if_neg (by decide)]
    show partEnd z (stIs sg p.1) (a + (wIs wg p.1).length) = _
    unfold partEnd
    rw [if_neg (by omega), hz, if_pos rfl]
    have h4 : (stIs sg p.1).1 ≤ p.2 ∧ p.2 ≤ 24 := h3.resolve_left (by omega)
    obtain ⟨d1, d2, d3, d4, d5⟩ := dec_facts p.2 h4.2
    have hr : run z (a + (wIs wg p.1).length + 1) = dec p.2 := run_tx d1 htr.tail (fun c hc => by
      have e : a + (wIs wg p.1).length + 1 + (dec p.2).length = a + (wIs wg p.1 ++ 64 :: dec p.2).length := by rw [List.length_append, List.length_cons]; omega
      rw [e] at hc
      rcases hb with hb | hb | hb <;> rw [hb] at hc <;> cases hc <;> decide)
    unfold filled
    have w1 : within (dec p.2) (max 1 (stIs sg p.1).1) 24 = true := within_iff.mpr ⟨d4, d5, by omega, by omega⟩
    rw [hr, if_neg (fun e => by rw [e] at d4; exact absurd d4 (by decide)), if_neg (fun e => e.elim (d2 hf) (fun e => by rw [w1] at e; cases e)), d3, if_pos hf]
    have e : bd z (a + (wIs wg p.1).length + 1) = a + (wIs wg p.1 ++ 64 :: dec p.2).length := by unfold bd; rw [hr, List.length_append, List.length_cons]; omega
    rw [e]
  · rw [if_neg hf] at hb ⊢
    rw [if_neg hf, List.append_nil] at *
    rcases hb with hb | hb | hb
    all_goals
      rw [hb]
      show partEnd z (stIs sg p.1) (a + (wIs wg p.1).length) = _
      unfold partEnd
      rw [if_neg (by omega), hb, if_neg (by decide)]
theorem more_tx (hg : GrOk sg wg vg z k) (hpos : ∀ g, vg g → Pos (sg g)) : ∀ {ps : List (PtG G)} {a : Nat} (acc : List Stv), a ≤ z.length → (∀ p ∈ ps, vP sg vg p) → Tx z a (ps.flatMap fun p => 38 :: wP wg p) → (z[a + (ps.flatMap fun p => 38 :: wP wg p).length]? = none ∨ z[a + (ps.flatMap fun p => 38 :: wP wg p).length]? = some 41) →
    rMore z k a acc = .ok (shown (acc ++ ps.map (stP sg)), a + (ps.flatMap fun p => 38 :: wP wg p).length)
  | [], a, acc, ha, _, _, he => by
    rw [rMore_eq ha, if_neg (fun e => by
      have he : z[a]? = none ∨ z[a]? = some 41 := he
      rcases he with h | h <;> rw [h] at e <;> cases e), List.map_nil, List.append_nil]
    rfl
  | p :: r, a, acc, ha, hv, ht, he => by
    rw [List.flatMap_cons] at ht he ⊢
    have h0 := ht.left
    have hr := ht.right
    rw [rMore_eq ha, if_pos h0.head]
    have hl := Tx.le h0 ha
    rw [List.length_cons] at hl
    have e1 : a + 1 + (wP wg p).length = a + (38 :: wP wg p).length := by rw [List.length_cons]; omega
    have hb : Beh z[a + 1 + (wP wg p).length]? := by
      rw [e1]
      cases r with
      | nil =>
        rw [List.flatMap_nil, List.append_nil] at he
        rcases he with h | h
        · exact .inl h
        · exact .inr (.inr h)
      | cons p' r' =>
        rw [List.flatMap_cons] at hr
        exact .inr (.inl hr.left.head)
    rw [part_tx hg hpos (by omega) (hv p List.mem_cons_self) h0.tail hb]
    show rMore z k (a + 1 + (wP wg p).length) (acc ++ [stP sg p]) = _
    rw [e1]
    have e2 : a + ((38 :: wP wg p) ++ r.flatMap fun p => 38 :: wP wg p).length = a + (38 :: wP wg p).length + (r.flatMap fun p => 38 :: wP wg p).length := by rw [List.length_append]; omega
    rw [e2] at he ⊢
    rw [more_tx hg hpos (acc ++ [stP sg p]) (by rw [← e1]; omega) (fun p hp => hv p (List.mem_cons_of_mem _ hp)) hr he, List.append_assoc]
    rfl
theorem wPs_cons (p : PtG G) (r : List (PtG G)) : wPs wg (p :: r) = wP wg p ++ r.flatMap fun p => 38 :: wP wg p := by
  induction r generalizing p with
  | nil => show wP wg p = _; rw [List.flatMap_nil, List.append_nil]
  | cons q r ih =>
    have : wPs wg (p :: q :: r) = wP wg p ++ ([38] ++ wPs wg (q :: r)) := rfl
    rw [this, ih, List.flatMap_cons]
    rfl
theorem parts_tx (hg : GrOk sg wg vg z k) (hpos : ∀ g, vg g → Pos (sg g)) {ps : List (PtG G)} {a : Nat} (ha : a ≤ z.length) (hv : vPs sg vg ps) (ht : Tx z a (wPs wg ps)) (he : z[a + (wPs wg ps).length]? = none ∨ z[a + (wPs wg ps).length]? = some 41) : rd z k a = .ok (stPs sg ps, a + (wPs wg ps).length) := by
  obtain ⟨h1, h2⟩ := hv
  cases ps with
  | nil => exact absurd rfl h1
  | cons p r =>
    rw [wPs_cons] at ht he ⊢
    have hr := ht.right
    have hb : Beh z[a + (wP wg p).length]? := by
      cases r with
      | nil =>
        rw [List.flatMap_nil, List.append_nil] at he
        rcases he with h | h
        · exact .inl h
        · exact .inr (.inr h)
      | cons p' r' =>
        rw [List.flatMap_cons] at hr
        exact .inr (.inl hr.left.head)
    rw [rd_more, part_tx hg hpos ha (h2 p List.mem_cons_self) ht.left hb]
    show rMore z k (a + (wP wg p).length) [stP sg p] = _
    rw [List.length_append, ← Nat.add_assoc] at he ⊢
    exact more_tx hg hpos [stP sg p] (Tx.le ht.left ha) (fun p hp => h2 p (List.mem_cons_of_mem _ hp)) hr he
end
/-- the reader reads what is written -/
theorem read_ok : ∀ (d k : Nat), d ≤ k → ∀ (ps : Gr (d + 1)), vG (d + 1) ps → ∀ (z : List Nat) (a : Nat), a ≤ z.length → Tx z a (wG (d + 1) ps) → (z[a + (wG (d + 1) ps).length]? = none ∨ z[a + (wG (d + 1) ps).length]? = some 41) → rd z k a = .ok (stG (d + 1) ps, a + (wG (d + 1) ps).length)
  | 0, k, hk, ps, hv, z, a, ha, ht, he => parts_tx (sg := stG 0) (wg := wG 0) (vg := vG 0) (fun g => nomatch g) (fun g => nomatch g) ha hv ht he
  | d + 1, k, hk, ps, hv, z, a, ha, ht, he => by
    obtain ⟨k', rfl⟩ : ∃ k', k = k' + 1 := ⟨k - 1, by omega⟩
    refine parts_tx (sg := stG (d + 1)) (wg := wG (d + 1)) (vg := vG (d + 1)) (fun g hg b hb hc => ⟨rd z k', rfl, ?_⟩) (stG_pos (d + 1)) ha hv ht he
    have hbl : b ≤ z.length := by
      have := (List.getElem?_eq_some_iff.mp hc).1
      omega
    exact read_ok d k' (by omega) g hg z b hbl hb (.inr hc)
theorem told_ok (d : Nat) (hd : d ≤ 6) (ps : Gr (d + 1)) (hv : vG (d + 1) ps) : told (wG (d + 1) ps) = .done (stG (d + 1) ps) := by
  unfold told
  rw [read_ok d 6 hd ps hv _ 0 (by omega) (fun i hi => by rw [Nat.zero_add]) (.inl (List.getElem?_eq_none (by omega)))]
  dsimp only
  rw [if_neg (by omega)]
/-- .. and so it stands for no more than its text -/
theorem big_ok (d : Nat) (hd : d ≤ 6) (ps : Gr (d + 1)) (hv : vG (d + 1) ps) (hl : (wG (d + 1) ps).length ≤ 1700) : Big (stG (d + 1) ps).1 := by
  have h := read_ok d 6 hd ps hv (wG (d + 1) ps) 0 (by omega) (fun i hi => by rw [Nat.zero_add]) (.inl (List.getElem?_eq_none (by omega)))
  exact (rd_gd _ _ _ _ _ (by omega) h).2.2.2.big (by omega)
end Fg
/-! Trees in the heap; the signs they show. -/
namespace Fg
open PySem PySem.Spec PyProof.Rows L2
inductive F2 {α β : Type} (R : α → β → Prop) : List α → List β → Prop where
  | nil : F2 R [] []
  | cons {a : α} {b : β} {as : List α} {bs : List β} : R a b → F2 R as bs → F2 R (a :: as) (b :: bs)
theorem F2.imp {α β : Type} {R R' : α → β → Prop} (h : ∀ a b, R a b → R' a b) : ∀ {as : List α} {bs : List β}, F2 R as bs → F2 R' as bs
  | _, _, .nil => .nil
  | _, _, .cons h1 h2 => .cons (h _ _ h1) (h2.imp h)
theorem F2.len {α β : Type} {R : α → β → Prop} : ∀ {as : List α} {bs : List β}, F2 R as bs → as.length = bs.length
  | _, _, .nil => rfl
  | _, _, .cons _ h2 => by rw [List.length_cons, List.length_cons, h2.len]
theorem F2.get {α β : Type} {R : α → β → Prop} : ∀ {as : List α} {bs : List β}, F2 R as bs → ∀ (i : Nat) (a : α), as[i]? = some a → ∃ b, bs[i]? = some b ∧ R a b
  | _, _, .nil, i, a, h => by simp at h
  | _, _, .cons h1 h2, 0, a, h => by cases h; exact ⟨_, rfl, h1⟩
  | _, _, .cons h1 h2, i + 1, a, h => h2.get i a h
theorem F2.snoc {α β : Type} {R : α → β → Prop} {a : α} {b : β} : ∀ {as : List α} {bs : List β}, F2 R as bs → R a b → F2 R (as ++ [a]) (bs ++ [b])
  | _, _, .nil, h => .cons h .nil
  | _, _, .cons h1 h2, h => .cons h1 (h2.snoc h)
theorem F2.app {α β : Type} {R : α → β → Prop} : ∀ {as : List α} {bs : List β} {cs : List α} {ds : List β}, F2 R as bs → F2 R cs ds → F2 R (as ++ cs) (bs ++ ds)
  | _, _, _, _, .nil, h => h
  | _, _, _, _, .cons h1 h2, h => .cons h1 (h2.app h)
section
variable {G : Type} (rg : Hp → V → G → Prop)
def RI (H : Hp) (v : V) : ItG G → Prop
  | .inl (t, c) => ∃ a, v = .ref a ∧ H a = some (.tup [.int (t : Int), S [c]])
  | .inr (t, g) => ∃ a w, v = .ref a ∧ H a = some (.tup [.int (t : Int), w]) ∧ rg H w g
def RIs (H : Hp) (v : V) (is : List (ItG G)) : Prop := ∃ a vs, v = .ref a ∧ H a = some (.lst vs) ∧ F2 (RI rg H) vs is
def RP (H : Hp) (v : V) (p : PtG G) : Prop := ∃ a w, v = .ref a ∧ H a = some (.tup [w, .int (p.2 : Int)]) ∧ RIs rg H w p.1
def RPs (H : Hp) (v : V) (ps : List (PtG G)) : Prop := ∃ a vs, v = .ref a ∧ H a = some (.lst vs) ∧ F2 (RP rg H) vs ps
def Mn : Prop := ∀ H H' v g, rg H v g → Same H H' → rg H' v g
end
section
variable {G : Type} {rg : Hp → V → G → Prop} {H H' : Hp} {v : V}
theorem RI.mono (m : Mn rg) {i : ItG G} (h : RI rg H v i) (s : Same H H') : RI rg H' v i := by
  cases i with
  | inl x => obtain ⟨a, h1, h2⟩ := h; exact ⟨a, h1, s _ _ h2⟩
  | inr x => obtain ⟨a, w, h1, h2, h3⟩ := h; exact ⟨a, w, h1, s _ _ h2, m _ _ _ _ h3 s⟩
theorem RIs.mono (m : Mn rg) {is : List (ItG G)} (h : RIs rg H v is) (s : Same H H') : RIs rg H' v is := by
  obtain ⟨a, vs, h1, h2, h3⟩ := h
  exact ⟨a, vs, h1, s _ _ h2, h3.imp fun _ _ h => h.mono m s⟩
theorem RP.mono (m : Mn rg) {p : PtG G} (h : RP rg H v p) (s : Same H H') : RP rg H' v p := by
  obtain ⟨a, w, h1, h2, h3⟩ := h
  exact ⟨a, w, h1, s _ _ h2, h3.mono m s⟩
theorem RPs.mono (m : Mn rg) {ps : List (PtG G)} (h : RPs rg H v ps) (s : Same H H') : RPs rg H' v ps := by
  obtain ⟨a, vs, h1, h2, h3⟩ := h
  exact ⟨a, vs, h1, s _ _ h2, h3.imp fun _ _ h => h.mono m s⟩
end
def RG : (d : Nat) → Hp → V → Gr d → Prop
  | 0, _, _, _ => False
  | d + 1, H, v, ps => RPs (RG d) H v ps
theorem RG_mono : ∀ d, Mn (RG d)
  | 0, _, _, _, _, h, _ => h.elim
  | d + 1, H, H', v, ps, h, s => RPs.mono (RG_mono d) h s
/-! ### lengths -/
section
variable {G : Type} {sg : G → Stv} {wg : G → List Nat}
theorem wI_group {t : Nat} {g : G} : (wg g).length ≤ (wI wg (.inr (t, g))).length := by
  show _ ≤ (wN t ++ ([40] ++ (wg g ++ [41]))).length
  simp only [List.length_append]
  omega
theorem wIs_item {is : List (ItG G)} {i : ItG G} (h : i ∈ is) : (wI wg i).length ≤ (wIs wg is).length := by
  unfold wIs
  induction is with
  | nil => simp at h
  | cons x r ih =>
    rw [List.map_cons, List.flatten_cons, List.length_append]
    rcases List.mem_cons.mp h with rfl | h
    · omega
    · have := ih h; omega
theorem wP_items {p : PtG G} : (wIs wg p.1).length ≤ (wP wg p).length := by
  unfold wP
  rw [List.length_append]; omega
theorem flat_part {r : List (PtG G)} {p : PtG G} (h : p ∈ r) : (wP wg p).length ≤ (r.flatMap fun p => 38 :: wP wg p).length := by
  induction r with
  | nil => simp at h
  | cons y r ih =>
    rw [List.flatMap_cons, List.length_append, List.length_cons]
    rcases List.mem_cons.mp h with rfl | h
    · omega
    · have := ih h; omega
theorem wPs_part {ps : List (PtG G)} {p : PtG G} (h : p ∈ ps) : (wP wg p).length ≤ (wPs wg ps).length := by
  cases ps with
  | nil => simp at h
  | cons x r =>
    rw [wPs_cons, List.length_append]
    rcases List.mem_cons.mp h with rfl | h
    · omega
    · have := flat_part (wg := wg) h
      omega
/-! ### counts -/
theorem stIs_sum (is : List (ItG G)) : (stIs sg is).1 = (is.map fun i => (stI sg i).1).sum := by
  induction is with
  | nil => rfl
  | cons i r ih => rw [stIs_cons, List.map_cons, List.sum_cons, ← ih]; rfl
theorem stIs_row (is : List (ItG G)) : (stIs sg is).2 = (is.map fun i => (stI sg i).2).flatten := by
  induction is with
  | nil => rfl
  | cons i r ih => rw [stIs_cons, List.map_cons, List.flatten_cons, ← ih]; rfl
/-! ### the sign at a beat -/
def sgn (sg : G → Stv) (ps : List (PtG G)) (k : Nat) : Nat := firstLit (ps.map fun p => (stP sg p).2.getD (k % (stP sg p).1) 0)
theorem sgn_row {vg : G → Prop} (hpos : ∀ g, vg g → Pos (sg g)) {ps : List (PtG G)} (hv : vPs sg vg ps) (h24 : (stPs sg ps).1 ≤ 24) (k : Nat) : (stPs sg ps).2.getD (k % (stPs sg ps).1) 0 = sgn sg ps k := by
  have hp := (stPs_pos hpos hv).1
  have hk : k % (stPs sg ps).1 < (stPs sg ps).1 := Nat.mod_lt _ hp
  show (showN (ps.map (stP sg)) (lcmL (ps.map (stP sg)))).getD _ 0 = _
  have e : (stPs sg ps).1 = lcmL (ps.map (stP sg)) := rfl
  rw [e] at hk h24 hp ⊢
  unfold showN
  rw [List.getD_eq_getElem?_getD, List.getElem?_map, List.getElem?_range hk]
  show firstLit _ = _
  unfold sgn
  rw [List.map_map]
  congr 1
  refine List.map_congr_left fun p hp' => ?_
  have pos := stP_pos hpos (hv.2 p hp')
  have hd : (stP sg p).1 ∣ lcmL (ps.map (stP sg)) := dvd_lcmL (List.mem_map_of_mem hp')
  have hle : (stP sg p).1 ≤ lcmL (ps.map (stP sg)) := Nat.le_of_dvd hp hd
  have hl := pos.2 (by omega)
  show (rpt (lcmL (ps.map (stP sg)) / (stP sg p).1) (stP sg p).2).getD (k % lcmL (ps.map (stP sg))) 0 = _
  rw [List.getD_eq_getElem?_getD, List.getD_eq_getElem?_getD, rpt_get _ _ _ (by rw [hl, Nat.div_mul_cancel hd]; exact hk), hl, Nat.mod_mod_of_dvd _ hd]
end
end Fg
/-! min(texts, key=f), f a def that hands back (length, text); pairs of a number and a text in order. -/
namespace Fg
open PySem PySem.Spec PyProof.Rows L2
/-- the shorter one, or the one ahead by its signs -/
def slt (i : Int) (l : List Nat) (j : Int) (m : List Nat) : Bool := if i = j then decide (l < m) else decide (i < j)
theorem str_beq (l m : List Nat) : ((⟨l.toArray⟩ : Str) == ⟨m.toArray⟩) = decide (l = m) := by
  rw [Bool.eq_iff_iff, beq_iff_eq, decide_eq_true_eq]
  constructor
  · intro h
    exact List.toArray_inj (congrArg PySem.Str.cps h)
  · rintro rfl; rfl
theorem int_beq (i j : Int) : (i == j) = decide (i = j) := by rw [Bool.eq_iff_iff, beq_iff_eq, decide_eq_true_eq]
theorem rc_pair_lt {A : Around} {s : Shared} {a b : Addr} {i j : Int} {l m : List Nat} {its its2 : List Value} (r1 : Vals [V.int i, S l] its) (r2 : Vals [V.int j, S m] its2) (h1 : s.heap.IsTuple a its.toArray) (h2 : s.heap.IsTuple b its2.toArray) (hu : A.units < cLine) :
    Ob.RcOp .Lt A s (.ref a) (.ref b) (slt i l j m) := by
  obtain ⟨x1, x2, rfl, ⟨t1, rfl⟩, ⟨t2, rfl⟩⟩ := vals2 r1
  obtain ⟨y1, y2, rfl, ⟨u1, rfl⟩, ⟨u2, rfl⟩⟩ := vals2 r2
  have R := Ob.RcOp.tuples_lt (A := A) (s := s) (e := fun n => if n = 0 then decide (i = j) else decide (l = m)) (r := fun n => if n = 0 then decide (i < j) else decide (l < m)) h1 h2 hu
    (fun n g1 g2 => by
      match n, g1, g2 with
      | 0, _, _ =>
        show SeqAt.EqAt A.in1 s (.int i t1) (.int j u1) (decide (i = j))
        rw [← int_beq]; exact SeqAt.EqAt.int_int _ _ _ _
      | 1, _, _ =>
        show SeqAt.EqAt A.in1 s (.str ⟨l.toArray⟩ t2) (.str ⟨m.toArray⟩ u2) (decide (l = m))
        rw [← str_beq]; exact SeqAt.EqAt.str_str _ _ _ _)
    (fun n g1 g2 _ => by
      match n, g1, g2 with
      | 0, _, _ => exact Ob.RcOp.lt_int _ _ _ _
      | 1, _, _ =>
        show Ob.RcOp .Lt A.in1 s (.str ⟨l.toArray⟩ t2) (.str ⟨m.toArray⟩ u2) (decide (l < m))
        exact fun prog w E Q h => lt_str (by simpa using h))
  have e : Ob.lexAt (fun n => if n = 0 then decide (i = j) else decide (l = m)) (fun n => if n = 0 then decide (i < j) else decide (l < m)) (decide (2 < 2)) 0 2 = slt i l j m := by
    rw [Ob.lexAt_succ, Ob.lexAt_succ, Ob.lexAt_zero]
    unfold slt
    by_cases hij : i = j <;> by_cases hs : l = m <;> simp [hij, hs, List.lt_irrefl]
  rw [← e]
  exact R
theorem rc_pair_le {A : Around} {s : Shared} {a b : Addr} {i j : Int} {l m : List Nat} {its its2 : List Value} (r1 : Vals [V.int i, S l] its) (r2 : Vals [V.int j, S m] its2) (h1 : s.heap.IsTuple a its.toArray) (h2 : s.heap.IsTuple b its2.toArray) (hu : A.units < cLine) :
    Ob.RcOp .LtE A s (.ref a) (.ref b) (!slt j m i l) := by
  obtain ⟨x1, x2, rfl, ⟨t1, rfl⟩, ⟨t2, rfl⟩⟩ := vals2 r1
  obtain ⟨y1, y2, rfl, ⟨u1, rfl⟩, ⟨u2, rfl⟩⟩ := vals2 r2
  have R := Ob.RcOp.tuples_le (A := A) (s := s) (e := fun n => if n = 0 then decide (i = j) else decide (l = m)) (r := fun n => if n = 0 then decide (i ≤ j) else !decide (m < l)) h1 h2 hu
    (fun n g1 g2 => by
      match n, g1, g2 with
      | 0, _, _ =>
        show SeqAt.EqAt A.in1 s (.int i t1) (.int j u1) (decide (i = j))
        rw [← int_beq]; exact SeqAt.EqAt.int_int _ _ _ _
      | 1, _, _ =>
        show SeqAt.EqAt A.in1 s (.str ⟨l.toArray⟩ t2) (.str ⟨m.toArray⟩ u2) (decide (l = m))
        rw [← str_beq]; exact SeqAt.EqAt.str_str _ _ _ _)
    (fun n g1 g2 _ => by
      match n, g1, g2 with
      | 0, _, _ => exact Ob.RcOp.le_int _ _ _ _
      | 1, _, _ =>
        show Ob.RcOp .LtE A.in1 s (.str ⟨l.toArray⟩ t2) (.str ⟨m.toArray⟩ u2) (!decide (m < l))
        exact fun prog w E Q h => PySem.P.le_str (by simpa using h))
  have e : Ob.lexAt (fun n => if n = 0 then decide (i = j) else decide (l = m)) (fun n => if n = 0 then decide (i ≤ j) else !decide (m < l)) (decide (2 ≤ 2)) 0 2 = !slt j m i l := by
    rw [Ob.lexAt_succ, Ob.lexAt_succ, Ob.lexAt_zero]
    unfold slt
    by_cases hij : i = j
    · subst hij
      by_cases hs : l = m
      · subst hs; simp [List.lt_irrefl]
      · simp [hs]
    · simp only [if_pos rfl, decide_eq_true_eq, if_neg hij, if_neg (Ne.symm hij)]
      rw [Bool.eq_iff_iff]
      simp
      exact fun h => absurd h hij
  rw [← e]
  exact R
def rLePS (K : PySem.W.Frag) : R2 := fun x y H Q => ∃ (a b : Addr) (i j : Int) (l m : List Nat), x = .ref a ∧ y = .ref b ∧ SqT K H a [.int i, S l] ∧ SqT K H b [.int j, S m] ∧ Q (.bl (!slt j m i l)) H
theorem op_lePS {X : Cx} (hu : X.A.units < cLine) : OpR X (compareOp .LtE) (rLePS X.K) := by
  intro pins s σ H x y v u Q I rx ry h
  obtain ⟨a, b, i, j, l, m, rfl, rfl, ha, hb, q⟩ := h
  cases rx
  cases ry
  obtain ⟨its, r1, p1, _⟩ := I.tuple ha
  obtain ⟨its2, r2, p2, _⟩ := I.tuple hb
  exact rc_pair_le r1 r2 p1 p2 hu X.prog X.w _ _ ⟨.bl _, H, I, rfl, q⟩
theorem opLePS (K : PySem.W.Frag) {X : Cx} (hu : X.A.units < cLine) (h : X.K = K := by rfl) : OpR X (compareOp .LtE) (rLePS K) := h ▸ op_lePS hu
/-! ### temporaries of the machine -/
structure Tmp (X : Cx) (pins : List (Addr × Obj)) (it : Addr) : Prop where
  loc : it ≠ X.env.locals
  fs : it ∉ X.fs
  sz : X.s_0.heap.objs.size ≤ it
  cell : ∀ x c, X.env.cells.lookup x = some c → c ≠ it
  pin : ∀ p ∈ X.pn ++ pins, p.1 ≠ it
section
variable {X : Cx} {pins ps : List (Addr × Obj)} {σ : L2.St} {H : Hp} {s : Shared} {it : Addr} {o o' : Obj} {h' : Heap}
theorem Tmp.new (I : Inv X pins σ H s) (h : s.heap.objs.size ≤ it) : Tmp X pins it := by
  refine ⟨Nat.ne_of_gt (Nat.lt_of_lt_of_le I.lt h), I.nofs h, Nat.le_trans I.sz h, fun x c e => ?_, fun p hp => ?_⟩
  · obtain ⟨v, o, ho, _⟩ := I.cell x c e
    exact Nat.ne_of_lt (Nat.lt_of_lt_of_le (Heap.lt_size ho) h)
  · exact Nat.ne_of_lt (Nat.lt_of_lt_of_le (Heap.lt_size (I.pin p hp).1) h)
theorem Tmp.more (t : Tmp X ps it) (h : ∀ p ∈ pins, p.1 ≠ it) : Tmp X (pins ++ ps) it := ⟨t.loc, t.fs, t.sz, t.cell, fun p hp => by
  rcases List.mem_append.mp hp with hp | hp
  · exact t.pin p (List.mem_append_left _ hp)
  · rcases List.mem_append.mp hp with hp | hp
    · exact h p hp
    · exact t.pin p (List.mem_append_right _ hp)⟩
/-- a temporary has changed -/
theorem inv_tmp {t' : Nat} (I : Inv X ((it, o) :: ps) σ H s) (t : Tmp X ps it) (k : ∀ b u, b ≠ it → s.heap.get? b = some u → h'.get? b = some u) (hn : h'.get? it = some o') (hd : ∀ v, o'.data ≠ .cell v) : Inv X ((it, o') :: ps) σ H { s with heap := h', toks := t' } := by
  have e0 := I.pin (it, o) (List.mem_append_right _ List.mem_cons_self)
  have I1 : Inv X ps σ H s := I.pins_of fun p hp => I.pin p (List.mem_append_right _ (List.mem_cons_of_mem _ hp))
  have I2 : Inv X ps σ H { s with heap := h', toks := t' } := I1.turned k e0.2.1 t.loc (.inr t.sz) t.cell t.pin
  refine I2.pins_of fun p hp => ?_
  rcases List.mem_cons.mp hp with rfl | hp
  · exact ⟨hn, e0.2.1, t.loc, t.fs, hd⟩
  · exact I2.pin p (List.mem_append_right _ hp)
theorem inv_unpin (I : Inv X ((it, o) :: ps) σ H s) : Inv X ps σ H s := I.pins_of fun p hp => I.pin p (List.mem_append_right _ (List.mem_cons_of_mem _ hp))
theorem inv_swap {q : Addr × Obj} (I : Inv X ((it, o) :: q :: ps) σ H s) : Inv X (q :: (it, o) :: ps) σ H s := I.pins_of fun p hp => I.pin p (List.mem_append_right _ (by
  rcases List.mem_cons.mp hp with rfl | hp
  · exact List.mem_cons_of_mem _ List.mem_cons_self
  · rcases List.mem_cons.mp hp with rfl | hp
    · exact List.mem_cons_self
    · exact List.mem_cons_of_mem _ (List.mem_cons_of_mem _ hp)))
end
/-! ### min(xs, key=f) -/
/-- m is ahead of all -/
def lt2 (a b : List Nat) : Prop := slt (a.length : Int) a (b.length : Int) b = true
def KeyOk (p : P1) (H : Hp) (xs : List (List Nat)) : Prop := ∀ H' x, Same H H' → x ∈ xs → ∀ Q' : VK, (∀ q, H' q = none → Q' (.ref q) (upd H' q (.tup [.int (x.length : Int), S x]))) → p (S x) H' Q' E0
section
variable {X : Cx} {pins : List (Addr × Obj)} {σ : L2.St} {H : Hp} {f a I S' : Addr} {fd : FuncData} {px : Str} {p : P1} {k : Nat} {xs : List (List Nat)} {R : Result → Shared → Prop}
theorem mk_loop (F : FnOk X.prog X.w X.K X.mg X.base CX0 k f fd [px] (sp1 p)) (hb : Binds X.K fd [px] []) (hr : Room (k + 1) X.A) (hs : SqL X.K H a (xs.map S)) (hk : KeyOk p H xs) (tI : Tmp X pins I) (tS : Tmp X pins S') (hIS : I ≠ S') (hIa : I ≠ a)
    (hR : ∀ (m : List Nat) (v : Value) H' s', m ∈ xs → (∀ y ∈ xs, ¬ lt2 y m) → RelV (S m) v → Inv X pins σ H' s' → Same H H' → R (.ok (.ret v)) s') :
    ∀ (r j i : Nat) (s : Shared) (H1 : Hp) (m : List Nat) (vb : Value) (q : Addr) (c : Nat) (oI : Obj), xs.length - (j + 1) = r → j + 1 ≤ xs.length → Inv X ((S', seqObj "list" #[vb, .ref q] c) :: (I, oI) :: pins) σ H1 s → Same H H1 → RelV (S m) vb → H1 q = some (.tup [.int (m.length : Int), S m]) →
      s.heap.IsListIter I a (j + 1) → xs[i]? = some m → i ≤ j → (∀ j' y, j' ≤ j → xs[j']? = some y → ¬ lt2 y m) →
      codeAny (model X.prog X.w) X.A (.builtin "min.loop" ⟨[.ref I, .ref f, .ref S'], []⟩) R s := by
  have hname : (toString "min" ++ toString ".loop" : String) = "min.loop" := by decide
  intro r
  induction r with
  | zero =>
    intro j i s H1 m vb q c oI hr' hj J sm rv hq hit hm hij hbest
    obtain ⟨its, rvs, pl, hz⟩ := J.list (sm.seq hs)
    have hlen : its.length = xs.length := by have := rvs.length; rw [List.length_map] at this; exact this.symm
    have W := Walks.list (prog := X.prog) (w := X.w) (A := X.A.in1) hr.hd I a (Ne.symm hIa) its.toArray
    have hsz : its.toArray.size = xs.length := by rw [List.size_toArray]; exact hlen
    have nS := J.pin _ (List.mem_append_right _ List.mem_cons_self)
    refine codeAny_builtin PySem.F.entry_min_loop ?_
    rw [Around.under_plainId PySem.F.plain_min_loop _]
    show wpAny _ X.A.in1 (seqItems? (.ref S') >>= _) _ _ _
    refine wpAny_bind (wpAny_seqItems nS.1 rfl ?_)
    show wpAny _ X.A.in1 (tryCatch (pyNext (.ref I)) _ >>= _) _ _ _
    refine wpAny_bind (wpAny_tryCatch (W.done _ _ _ ⟨by rw [hsz, show xs.length = j + 1 by omega]; exact hit, pl.isList⟩ fun h' tk' hk' => ?_))
    have J1 : Inv X pins σ H1 { s with heap := h', toks := tk' } := (inv_unpin (inv_unpin J)).turned (fun b u hb e => hk' b u (fun z => hb (by simpa using z)) e) (J.pin (I, oI) (List.mem_append_right _ (List.mem_cons_of_mem _ List.mem_cons_self))).2.1 tI.loc (.inr tI.sz) tI.cell tI.pin
    have hS1 := hk' S' _ (by simpa using Ne.symm hIS) nS.1
    have s1 := Heap.SameBut.update h' S' (Obj.mapSeq fun _ => (#[] : Array Value))
    show wpAny _ X.A.in1 (updateSeq S' (fun _ => #[]) >>= _) _ _ _
    refine wpAny_bind ?_
    refine wpAny_updateSeq hS1 rfl (wpAny_bind (wpAny_letGo (wpAny_pure ?_)))
    refine hR m vb H1 _ (List.mem_of_getElem? hm) (fun y hy => ?_) rv (J1.turned (fun b u hb e => (s1.2 b hb).trans e) nS.2.1 tS.loc (.inr tS.sz) tS.cell tS.pin) sm
    obtain ⟨j', hj', e⟩ := List.mem_iff_getElem.mp hy
    exact hbest j' y (by omega) (by rw [List.getElem?_eq_getElem hj', e])
  | succ r ih =>
    intro j i s H1 m vb q c oI hr' hj J sm rv hq hit hm hij hbest
    obtain ⟨its, rvs, pl, hz⟩ := J.list (sm.seq hs)
    have hlen : its.length = xs.length := by have := rvs.length; rw [List.length_map] at this; exact this.symm
    have W := Walks.list (prog := X.prog) (w := X.w) (A := X.A.in1) hr.hd I a (Ne.symm hIa) its.toArray
    have hsz : its.toArray.size = xs.length := by rw [List.size_toArray]; exact hlen
    have nS := J.pin _ (List.mem_append_right _ List.mem_cons_self)
    have hlt : j + 1 < xs.length := by omega
    refine codeAny_builtin PySem.F.entry_min_loop ?_
    rw [Around.under_plainId PySem.F.plain_min_loop _]
    show wpAny _ X.A.in1 (seqItems? (.ref S') >>= _) _ _ _
    refine wpAny_bind (wpAny_seqItems nS.1 rfl ?_)
    show wpAny _ X.A.in1 (tryCatch (pyNext (.ref I)) _ >>= _) _ _ _
    refine wpAny_bind (wpAny_tryCatch (W.item (j + 1) _ _ _ (by rw [hsz]; exact hlt) ⟨hit, pl.isList⟩ fun v h' tk' hP hst' hk' => ?_))
    have hv : its[j + 1]? = some v := by simpa using hP
    obtain ⟨oI', hoI', hoc, hod⟩ := id hst'.1
    obtain ⟨x, hx⟩ : ∃ x, xs[j + 1]? = some x := ⟨_, List.getElem?_eq_getElem hlt⟩
    have rx : RelV (S x) v := by
      obtain ⟨u, hu, ru⟩ := rvs.get (i := j + 1) (x := S x) (by rw [List.getElem?_map, hx]; rfl)
      rw [hv] at hu
      cases hu
      exact ru
    have J1 : Inv X ((I, oI') :: (S', seqObj "list" #[vb, .ref q] c) :: pins) σ H1 { s with heap := h', toks := tk' } :=
      inv_tmp (inv_swap J) (tI.more (pins := [(S', seqObj "list" #[vb, .ref q] c)]) (fun p hp => by rw [List.mem_singleton.mp hp]; exact Ne.symm hIS)) (fun b u hb e => hk' b u (fun z => hb (by simpa using z)) e) hoI' (fun v z => by rw [hod] at z; cases z)
    show wpAny _ X.A.in1 (tryCatch (holding [v] (call (.ref f) [v])) _ >>= _) _ _ _
    have hmx : x ∈ xs := List.mem_of_getElem? hx
    have turn : wpAny (model X.prog X.w) X.A.in1 (call (.ref f) [v]) (EP X ((I, oI') :: (S', seqObj "list" #[vb, .ref q] c) :: pins) σ (fun y H2 => ∃ q2, H1 q2 = none ∧ y = .ref q2 ∧ H2 = upd H1 q2 (.tup [.int (x.length : Int), S x]))) (fun _ _ => False) { s with heap := h', toks := tk' } := by
      refine wpAny_call (codeAny_mono (F.run X.A.in1 X.stack _ H1 ⟨[v], []⟩ [v] [S x] _ E0 hr.in1 J1.env0.in1 (hb _ [v] J1.kIn rfl) (.cons rx .nil) ⟨S x, rfl, hk H1 x sm hmx (fun y H2 => ∃ q2, H1 q2 = none ∧ y = .ref q2 ∧ H2 = upd H1 q2 (.tup [.int (x.length : Int), S x])) fun q2 n2 => ⟨q2, n2, rfl, rfl⟩⟩) fun r' s' hq' => ?_)
      cases r' with
      | error e => exact False.elim hq'
      | ok fl =>
        cases fl with
        | ret u => exact J1.after hq'
        | next => exact False.elim hq'
        | brk => exact False.elim hq'
        | cont => exact False.elim hq'
    refine wpAny_bind (wpAny_tryCatch (wpAny_holding (wpAny_mono turn (fun u s2 he => ?_) fun _ _ hF => hF.elim)))
    obtain ⟨y, H2, J2, ry, q2, n2, rfl, rfl⟩ := he
    obtain rfl : u = Value.ref q2 := ry
    have hq2 : (upd H1 q2 (.tup [.int (x.length : Int), S x])) q = some (.tup [.int (m.length : Int), S m]) := (upd_ne (ne_of_none hq n2)).trans hq
    have nS2 := J2.pin (S', seqObj "list" #[vb, .ref q] c) (List.mem_append_right _ (List.mem_cons_of_mem _ List.mem_cons_self))
    have nI2 := J2.pin (I, oI') (List.mem_append_right _ List.mem_cons_self)
    have hit2 : s2.heap.IsListIter I a (j + 1 + 1) := ⟨oI', nI2.1, hoc, hod⟩
    obtain ⟨i1, r1, p1, _⟩ := J2.tuple (xs := [.int (x.length : Int), S x]) (SqT.of upd_same)
    obtain ⟨i2, r2, p2, _⟩ := J2.tuple (xs := [.int (m.length : Int), S m]) (SqT.of hq2)
    have hu : X.A.in1.units < cLine := hr.in1.units0
    have sm2 : Same H (upd H1 q2 (.tup [.int (x.length : Int), S x])) := sm.trans (same_upd n2)
    have irr : ∀ y : List Nat, ¬ lt2 y y := fun y h => by
      unfold lt2 slt at h
      rw [if_pos rfl] at h
      exact List.lt_irrefl _ (of_decide_eq_true h)
    show wpAny _ X.A.in1 (tryCatch (holding [v, .ref q2] (richCompare .Lt (.ref q2) (.ref q) >>= _)) _ >>= _) _ _ _
    refine wpAny_bind (wpAny_tryCatch (wpAny_holding (wpAny_bind (rc_pair_lt r1 r2 p1 p2 hu X.prog X.w _ _ ?_))))
    refine wpAny_bind (wpAny_holding (wpAny_truthy_bool ?_))
    refine wpAny_bind (wpAny_letGo (wpAny_pure ?_))
    by_cases hb' : slt (x.length : Int) x (m.length : Int) m = true
    · have s1 := Heap.SameBut.update s2.heap S' (Obj.mapSeq fun _ => #[v, .ref q2])
      obtain ⟨c2, hc2⟩ : ∃ c2, (s2.heap.update S' (Obj.mapSeq fun _ => #[v, .ref q2])).get? S' = some (seqObj "list" #[v, .ref q2] c2) := ⟨_, get?_update_seq nS2.1 fun _ => #[v, .ref q2]⟩
      rw [hb']
      simp only [if_true]
      refine wpAny_bind ?_
      refine wpAny_updateSeq nS2.1 rfl (wpAny_bind (wpAny_letGo ?_))
      rw [hname]
      refine wpAny_pure ⟨plainId_quiet PySem.F.plain_min_loop _, ih (j + 1) (j + 1) _ _ x v q2 c2 oI' (by omega) hlt (inv_tmp (inv_swap J2) (t' := s2.toks) (tS.more (pins := [(I, oI')]) (fun p hp => by rw [List.mem_singleton.mp hp]; exact hIS)) (fun b u hb e => (s1.2 b hb).trans e) hc2 (fun v z => by cases z)) sm2 rx upd_same ⟨oI', (s1.2 I hIS).trans nI2.1, hoc, hod⟩ hx (Nat.le_refl _) fun j' y hj' hy => ?_⟩
      by_cases e : j' = j + 1
      · subst e
        rw [hx] at hy
        cases hy
        exact irr x
      · have h1 := hbest j' y (by omega) hy
        intro h2
        refine h1 ?_
        unfold lt2 slt at h2 h1 ⊢
        unfold slt at hb'
        split at h2 <;> split at hb' <;> (try rw [decide_eq_true_eq] at *)
        · rw [if_pos (by omega), decide_eq_true_eq]; exact List.lt_trans h2 hb'
        · rw [if_neg (by omega), decide_eq_true_eq]; omega
        · rw [if_neg (by omega), decide_eq_true_eq]; omega
        · rw [if_neg (by omega), decide_eq_true_eq]; omega
    · simp only [Bool.not_eq_true] at hb'
      rw [hb']
      simp only [Bool.false_eq_true, if_false]
      refine wpAny_bind (wpAny_letGo ?_)
      rw [hname]
      refine wpAny_pure ⟨plainId_quiet PySem.F.plain_min_loop _, ih (j + 1) i _ _ m vb q c oI' (by omega) hlt (inv_swap J2) sm2 rv hq2 hit2 hm (by omega) fun j' y hj' hy => ?_⟩
      by_cases e : j' = j + 1
      · subst e
        rw [hx] at hy
        cases hy
        unfold lt2
        rw [hb']
        decide
      · exact hbest j' y (by omega) hy
end
section
variable {X : Cx} {f : Addr} {fd : FuncData} {px : Str} {p : P1} {k : Nat}
/-- what is asked of the list -/
def rMinV (K : PySem.W.Frag) (p : P1) : V → Hp → VK → Prop := fun v H Q => ∃ (a : Addr) (xs : List (List Nat)), v = .ref a ∧ SqL K H a (xs.map S) ∧ xs ≠ [] ∧ KeyOk p H xs ∧ ∀ m H', m ∈ xs → (∀ y ∈ xs, ¬ lt2 y m) → Same H H' → Q (S m) H'
theorem min_run (F : FnOk X.prog X.w X.K X.mg X.base CX0 k f fd [px] (sp1 p)) (hb : Binds X.K fd [px] []) (hr : Room (k + 1) X.A) {pins : List (Addr × Obj)} {σ : L2.St} {H : Hp} {s : Shared} {Q : VK} {v : V} {u : Value} (I : Inv X pins σ H s) (ru : RelV v u) (h : rMinV X.K p v H Q) :
    wpAny (model X.prog X.w) X.A (call (.builtin "min") [u] [(Str.ofString "key", .ref f)]) (EP X pins σ Q) X.xe s := by
  obtain ⟨a, xs, rfl, hs, hne, hk, q⟩ := h
  obtain rfl : u = Value.ref a := ru
  have hname : (toString "min" ++ toString ".loop" : String) = "min.loop" := by decide
  obtain ⟨its, rvs, pl, hz⟩ := I.list hs
  have hlen : its.length = xs.length := by have := rvs.length; rw [List.length_map] at this; exact this.symm
  have hpos : 0 < xs.length := List.length_pos_iff.mpr hne
  have hL := pl.isList
  obtain ⟨ol, hol, _⟩ := id hL
  have hll : a < s.heap.objs.size := Heap.lt_size hol
  refine kmk_tree PySem.F.kind_min PySem.F.plain_min PySem.F.entry_min (kmk_min_key _ _) ?_
  show wpAny _ X.A.in1 (Builtin.Builtins.bindParams "min" ["key", "default"] 0 ⟨[], [(Str.ofString "key", .ref f)]⟩ >>= _) _ _ s
  refine wpAny_bind (wpAny_of_eq (show Builtin.Builtins.bindParams "min" ["key", "default"] 0 ⟨[], [(Str.ofString "key", .ref f)]⟩ = pure [some (.ref f), none] from rfl) ?_)
  refine wpAny_bind (wpAny_pure ?_)
  refine wpAny_bind (wpAny_pyIter_list hL ?_)
  refine wpAny_bind (wpAny_newList ?_ (Nat.zero_le _))
  rw [hname]
  have e1 : (s.heap.push { cls := .type "list_iterator", data := .fields #[.ref a, .int 0 0] }).objs.size = s.heap.objs.size + 1 := Heap.size_push ..
  -- the two temporaries
  have tI : Tmp X pins s.heap.objs.size := Tmp.new I (Nat.le_refl _)
  have tS : Tmp X pins (s.heap.push { cls := .type "list_iterator", data := .fields #[.ref a, .int 0 0] }).objs.size := Tmp.new I (by rw [e1]; exact Nat.le_succ _)
  have hIS : s.heap.objs.size ≠ (s.heap.push { cls := .type "list_iterator", data := .fields #[.ref a, .int 0 0] }).objs.size := by rw [e1]; exact Nat.ne_of_lt (Nat.lt_succ_self _)
  have gI : ((s.heap.push { cls := .type "list_iterator", data := .fields #[.ref a, .int 0 0] }).push (seqObj "list" #[] 0)).get? s.heap.objs.size = some { cls := .type "list_iterator", data := .fields #[.ref a, .int 0 0] } :=
    Heap.get?_push_of_some _ (Heap.get?_push_size _ rfl)
  have gS : ((s.heap.push { cls := .type "list_iterator", data := .fields #[.ref a, .int 0 0] }).push (seqObj "list" #[] 0)).get? (s.heap.push { cls := .type "list_iterator", data := .fields #[.ref a, .int 0 0] }).objs.size = some (seqObj "list" #[] 0) := Heap.get?_push_size _ rfl
  have kp : ∀ b u, s.heap.get? b = some u → ((s.heap.push { cls := .type "list_iterator", data := .fields #[.ref a, .int 0 0] }).push (seqObj "list" #[] 0)).get? b = some u := fun b u e => Heap.get?_push_of_some _ (Heap.get?_push_of_some _ e)
  have J0 : Inv X pins σ H { s with heap := (s.heap.push { cls := .type "list_iterator", data := .fields #[.ref a, .int 0 0] }).push (seqObj "list" #[] 0) } := I.kept (t' := s.toks) kp
  generalize hSd : (s.heap.push { cls := .type "list_iterator", data := .fields #[.ref a, .int 0 0] }).objs.size = S' at *
  generalize hId : s.heap.objs.size = It at *
  have J : Inv X ((S', seqObj "list" #[] 0) :: (It, { cls := .type "list_iterator", data := .fields #[.ref a, .int 0 0] }) :: pins) σ H { s with heap := (s.heap.push { cls := .type "list_iterator", data := .fields #[.ref a, .int 0 0] }).push (seqObj "list" #[] 0) } := by
    refine J0.pins_of fun p hp => ?_
    rcases List.mem_cons.mp hp with rfl | hp
    · exact ⟨gS, I.hok.fresh (by rw [hId, e1]; exact Nat.le_succ _), tS.loc, tS.fs, fun v z => by cases z⟩
    · rcases List.mem_cons.mp hp with rfl | hp
      · exact ⟨gI, I.hok.fresh (by rw [hId]; exact Nat.le_refl _), tI.loc, tI.fs, fun v z => by cases z⟩
      · exact J0.pin p (List.mem_append_right _ hp)
  have hIa : It ≠ a := Nat.ne_of_gt hll
  refine wpAny_pure ⟨plainId_quiet PySem.F.plain_min_loop _, ?_⟩
  obtain ⟨its2, rvs2, pl2, hz2⟩ := J.list hs
  have hlen2 : its2.length = xs.length := by have := rvs2.length; rw [List.length_map] at this; exact this.symm
  have W := Walks.list (prog := X.prog) (w := X.w) (A := X.A.in1) hr.hd It a (Ne.symm hIa) its2.toArray
  have hsz : its2.toArray.size = xs.length := by rw [List.size_toArray]; exact hlen2
  refine codeAny_builtin PySem.F.entry_min_loop ?_
  rw [Around.under_plainId PySem.F.plain_min_loop _]
  show wpAny _ X.A.in1 (seqItems? (.ref S') >>= _) _ _ _
  refine wpAny_bind (wpAny_seqItems gS rfl ?_)
  show wpAny _ X.A.in1 (tryCatch (pyNext (.ref It)) _ >>= _) _ _ _
  refine wpAny_bind (wpAny_tryCatch (W.item 0 _ _ _ (by rw [hsz]; exact hpos) ⟨⟨_, gI, rfl, rfl⟩, pl2.isList⟩ fun v h' tk' hP hst' hk' => ?_))
  have hv : its2[0]? = some v := by simpa using hP
  obtain ⟨oI', hoI', hoc, hod⟩ := id hst'.1
  obtain ⟨x, hx⟩ : ∃ x, xs[0]? = some x := ⟨_, List.getElem?_eq_getElem hpos⟩
  have rx : RelV (S x) v := by
    obtain ⟨u, hu, ru⟩ := rvs2.get (i := 0) (x := S x) (by rw [List.getElem?_map, hx]; rfl)
    rw [hv] at hu
    cases hu
    exact ru
  have J1 := inv_tmp (t' := tk') (h' := h') (o' := oI') (inv_swap J) (tI.more (pins := [(S', seqObj "list" #[] 0)]) (fun p hp => by rw [List.mem_singleton.mp hp]; exact Ne.symm hIS)) (fun b u hb e => hk' b u (fun z => hb (by simpa using z)) e) hoI' (fun v z => by rw [hod] at z; cases z)
  show wpAny _ X.A.in1 (tryCatch (holding [v] (call (.ref f) [v])) _ >>= _) _ _ _
  have turn : wpAny (model X.prog X.w) X.A.in1 (call (.ref f) [v]) (EP X ((It, oI') :: (S', seqObj "list" #[] 0) :: pins) σ (fun y H2 => ∃ q2, H q2 = none ∧ y = .ref q2 ∧ H2 = upd H q2 (.tup [.int (x.length : Int), S x]))) (fun _ _ => False) { s with heap := h', toks := tk' } := by
    refine wpAny_call (codeAny_mono (F.run X.A.in1 X.stack _ H ⟨[v], []⟩ [v] [S x] _ E0 hr.in1 J1.env0.in1 (hb _ [v] J1.kIn rfl) (.cons rx .nil) ⟨S x, rfl, hk H x (Same.refl H) (List.mem_of_getElem? hx) (fun y H2 => ∃ q2, H q2 = none ∧ y = .ref q2 ∧ H2 = upd H q2 (.tup [.int (x.length : Int), S x])) fun q2 n2 => ⟨q2, n2, rfl, rfl⟩⟩) fun r' s' hq' => ?_)
    cases r' with
    | error e => exact False.elim hq'
    | ok fl =>
      cases fl with
      | ret u => exact J1.after hq'
      | next => exact False.elim hq'
      | brk => exact False.elim hq'
      | cont => exact False.elim hq'
  refine wpAny_bind (wpAny_tryCatch (wpAny_holding (wpAny_mono turn (fun u s2 he => ?_) fun _ _ hF => hF.elim)))
  obtain ⟨y, H2, J2, ry, q2, n2, rfl, rfl⟩ := he
  obtain rfl : u = Value.ref q2 := ry
  have nS2 := J2.pin (S', seqObj "list" #[] 0) (List.mem_append_right _ (List.mem_cons_of_mem _ List.mem_cons_self))
  have nI2 := J2.pin (It, oI') (List.mem_append_right _ List.mem_cons_self)
  have s1 := Heap.SameBut.update s2.heap S' (Obj.mapSeq fun _ => #[v, .ref q2])
  obtain ⟨c2, hc2⟩ : ∃ c2, (s2.heap.update S' (Obj.mapSeq fun _ => #[v, .ref q2])).get? S' = some (seqObj "list" #[v, .ref q2] c2) := ⟨_, get?_update_seq nS2.1 fun _ => #[v, .ref q2]⟩
  show wpAny _ X.A.in1 (updateSeq S' (fun _ => #[v, .ref q2]) >>= _) _ _ _
  refine wpAny_bind ?_
  refine wpAny_updateSeq nS2.1 rfl ?_
  rw [hname]
  refine wpAny_pure ⟨plainId_quiet PySem.F.plain_min_loop _, mk_loop F hb hr hs hk tI tS hIS hIa (fun m v H' s' hm hb rv J' sm => ⟨S m, H', J', rv, q m H' hm hb sm⟩) _ 0 0 _ _ x v q2 c2 oI' rfl hpos (inv_tmp (inv_swap J2) (t' := s2.toks) (tS.more (pins := [(It, oI')]) (fun p hp => by rw [List.mem_singleton.mp hp]; exact hIS)) (fun b u hb e => (s1.2 b hb).trans e) hc2 (fun v z => by cases z)) (same_upd n2) rx upd_same ⟨oI', (s1.2 _ hIS).trans nI2.1, hoc, hod⟩ hx (Nat.le_refl _) fun j' y hj' hy => ?_⟩
  have e : j' = 0 := by omega
  subst e
  rw [hx] at hy
  cases hy
  intro h
  unfold lt2 slt at h
  rw [if_pos rfl] at h
  exact List.lt_irrefl _ (of_decide_eq_true h)
/-- min(e, key=x) -/
def tMinK (K : PySem.W.Frag) (p : P1) (te : TE) : TE := fun σ H Q => te σ H fun v H1 => rMinV K p v H1 Q
theorem pe_minK (K : PySem.W.Frag) {x : Str} {e : Expr} {te : TE} {pp px' kpos pos : PySem.Pos} (G : OK X.prog X.w X.K X.mg X.base CX0 k x [px] (sp1 p)) (hr : Room (k + 1) X.A) (hmin : X.mg "min" = none) (he : PE X e te) (hK : X.K = K := by rfl) (hg : Gl X "min" := by rfl) (hx : Gl X x := by rfl) (hd : (x == ("__debug__" : Str)) = false := by decide)
    (hse : starEach [e] X.env = (false, eval e X.env) :: starEach [] X.env := by rfl) (hes : backTo pos (starEach [e] X.env) = (false, eval e X.env) :: backTo pos (starEach [] X.env) := by rfl) (hpl : (backTo pos (starEach [e] X.env)).any (·.1) = false := by rfl)
    (hall : (backToKw pos (keywordEach [⟨some "key", .Name x px', kpos⟩] X.env)).all (·.1.isSome) = true := by rfl) (hnone : (backToKw pos (keywordEach [⟨some "key", .Name x px', kpos⟩] X.env)).any (·.1.isNone) = false := by rfl)
    (hks : (backToKw pos (keywordEach [⟨some "key", .Name x px', kpos⟩] X.env)).filterMap (·.1) = [Str.ofString "key"] := by rfl) :
    PE X (.Call (.Name "min" pp) [e] [⟨some "key", .Name x px', kpos⟩] pos) (tMinK K p te) := by
  subst hK
  obtain ⟨f, fd, F, hm, hk, hb⟩ := G
  refine ⟨fun pins s σ H Q I h => ?_⟩
  refine wpAny_Call_Name_kw (ld_blt I hg hmin boot_min ?_)
  have kf : PK X [⟨some "key", .Name x px', kpos⟩] (tCons (tC (.ref f)) tNil) := pk_cons (pe_glob hx hm rfl hd) pk_nil
  refine PyProof.Rows.callWith_kw (thn ((pa_cons (hs := hse) he pa_nil).run pos pins s σ H (fun vs H1 => match vs with | [v] => rMinV X.K p v H1 Q | _ => False) I h) fun us s1 ⟨vs, H1, I1, r1, q1⟩ => thn (kf.run pos pins s1 σ H1 (fun zs H2 => zs = [.ref f] ∧ H2 = H1) I1 ⟨rfl, rfl⟩) fun ws s2 ⟨zs, H2, I2, r2, ez, eh⟩ => ?_) hes hpl hall hnone
  subst ez eh
  rw [hks]
  match vs, q1, r1 with
  | [v], q1, r1 =>
    cases r1 with
    | cons ru rn =>
      cases rn
      cases r2 with
      | cons rf rn2 =>
        cases rn2
        cases rf
        exact min_run F hb hr I2 ru q1
end
theorem i_minK {K : PySem.W.Frag} {p : P1} {σ : L2.St} {H : Hp} {Q : VK} {te : TE} (q : te σ H fun v H1 => rMinV K p v H1 Q) : tMinK K p te σ H Q := q
theorem i_lePS {K : PySem.W.Frag} {H : Hp} {Q : VK} {a b : Addr} {i j : Int} {l m : List Nat} (h1 : SqT K H a [.int i, S l]) (h2 : SqT K H b [.int j, S m]) (q : Q (.bl (!slt j m i l)) H) : rLePS K (.ref a) (.ref b) H Q := ⟨a, b, i, j, l, m, rfl, rfl, h1, h2, q⟩
end Fg
/-! The shortest text of a round, in plain Lean. -/
namespace Fg
open PySem PySem.Spec PyProof.Rows L2
/-! ### the order: length, then signs -/
theorem lt2_iff {a b : List Nat} : lt2 a b ↔ a.length < b.length ∨ (a.length = b.length ∧ a < b) := by
  unfold lt2 slt
  by_cases h : a.length = b.length
  · rw [if_pos (by omega), decide_eq_true_eq]
    constructor
    · exact fun x => .inr ⟨h, x⟩
    · rintro (x | x)
      · omega
      · exact x.2
  · rw [if_neg (by omega), decide_eq_true_eq]
    constructor
    · exact fun x => .inl (by omega)
    · rintro (x | x)
      · omega
      · exact absurd x.1 h
theorem lt2_irrefl (a : List Nat) : ¬ lt2 a a := fun h => by
  rcases lt2_iff.mp h with h | h
  · exact Nat.lt_irrefl _ h
  · exact List.lt_irrefl _ h.2
theorem lt2_trans {a b c : List Nat} (h : lt2 a b) (h' : lt2 b c) : lt2 a c := by
  rw [lt2_iff] at *
  rcases h with h | h <;> rcases h' with h' | h'
  · exact .inl (by omega)
  · exact .inl (by omega)
  · exact .inl (by omega)
  · exact .inr ⟨by omega, List.lt_trans h.2 h'.2⟩
theorem lt2_tri {a b : List Nat} (h : ¬ lt2 a b) (h' : ¬ lt2 b a) : a = b := by
  rw [lt2_iff] at *
  have e : a.length = b.length := by omega
  exact List.le_antisymm (fun z => h' (.inr ⟨e.symm, z⟩)) (fun z => h (.inr ⟨e, z⟩))
/-- not ahead, then not ahead -/
theorem le2_trans {a b c : List Nat} (h : ¬ lt2 b a) (h' : ¬ lt2 c b) : ¬ lt2 c a := fun z => by
  by_cases e : lt2 a b
  · exact h' (lt2_trans z e)
  · have := lt2_tri e h
    subst this
    exact h' z
theorem lt_app_left {a b : List Nat} : ∀ c : List Nat, c ++ a < c ++ b ↔ a < b
  | [] => Iff.rfl
  | x :: c => by
    rw [List.cons_append, List.cons_append, List.cons_lt_cons_iff]
    simp [lt_app_left c]
theorem lt_app_right {c : List Nat} : ∀ {a b : List Nat}, a.length = b.length → (a ++ c < b ++ c ↔ a < b)
  | [], [], _ => by simp [List.lt_irrefl]
  | [], b :: r, h => by simp at h
  | a :: r, [], h => by simp at h
  | a :: r, b :: t, h => by
    rw [List.cons_append, List.cons_append, List.cons_lt_cons_iff, List.cons_lt_cons_iff, lt_app_right (by simpa using h)]
theorem lt2_left {a b c : List Nat} : lt2 (c ++ a) (c ++ b) ↔ lt2 a b := by
  rw [lt2_iff, lt2_iff, lt_app_left, List.length_append, List.length_append]
  constructor
  · rintro (h | ⟨h, h'⟩)
    · exact .inl (by omega)
    · exact .inr ⟨by omega, h'⟩
  · rintro (h | ⟨h, h'⟩)
    · exact .inl (by omega)
    · exact .inr ⟨by omega, h'⟩
theorem lt2_right {a b c : List Nat} : lt2 (a ++ c) (b ++ c) ↔ lt2 a b := by
  rw [lt2_iff, lt2_iff, List.length_append, List.length_append]
  constructor
  · rintro (h | ⟨h, h'⟩)
    · exact .inl (by omega)
    · exact .inr ⟨by omega, (lt_app_right (by omega)).mp h'⟩
  · rintro (h | ⟨h, h'⟩)
    · exact .inl (by omega)
    · exact .inr ⟨by omega, (lt_app_right (by omega)).mpr h'⟩
/-! ### the least one -/
def IsL (A : List Nat → Prop) (m : List Nat) : Prop := A m ∧ ∀ y, A y → ¬ lt2 y m
theorem IsL.uniq {A : List Nat → Prop} {m n : List Nat} (h : IsL A m) (h' : IsL A n) : m = n := lt2_tri (h'.2 m h.1) (h.2 n h'.1)
open Classical in
noncomputable def least (A : List Nat → Prop) : Option (List Nat) := if h : ∃ m, IsL A m then some h.choose else none
theorem least_eq {A : List Nat → Prop} {m : List Nat} (h : IsL A m) : least A = some m := by
  unfold least
  have hx : ∃ m, IsL A m := ⟨m, h⟩
  rw [dif_pos hx, hx.choose_spec.uniq h]
theorem least_mem {A : List Nat → Prop} {m : List Nat} (h : least A = some m) : IsL A m := by
  unfold least at h
  split at h
  · rename_i hx
    have := hx.choose_spec
    rw [Option.some.inj h] at this
    exact this
  · cases h
theorem least_none {A : List Nat → Prop} (h : ∀ t, ¬ A t) : least A = none := by
  unfold least
  rw [dif_neg (fun ⟨m, hm⟩ => h m hm.1)]
theorem least_congr {A B : List Nat → Prop} (h : ∀ t, A t ↔ B t) : least A = least B := by
  have : A = B := funext fun t => propext (h t)
  rw [this]
theorem fin_min : ∀ {xs : List (List Nat)}, xs ≠ [] → ∃ m ∈ xs, ∀ y ∈ xs, ¬ lt2 y m
  | [], h => absurd rfl h
  | [x], _ => ⟨x, List.mem_cons_self, fun y hy => by rw [List.mem_singleton.mp hy]; exact lt2_irrefl x⟩
  | x :: z :: r, _ => by
    obtain ⟨m, hm, hb⟩ := fin_min (xs := z :: r) (by simp)
    by_cases h : lt2 x m
    · refine ⟨x, List.mem_cons_self, fun y hy => ?_⟩
      rcases List.mem_cons.mp hy with rfl | hy
      · exact lt2_irrefl y
      · exact fun z => hb y hy (lt2_trans z h)
    · refine ⟨m, List.mem_cons_of_mem _ hm, fun y hy => ?_⟩
      rcases List.mem_cons.mp hy with rfl | hy
      · exact h
      · exact hb y hy
/-! ### items behind one another -/
inductive Comp (f : List Nat → Option (List Nat)) : List Nat → List Nat → Prop where
  | nil : Comp f [] []
  | cons {a b s t : List Nat} : a ≠ [] → f a = some s → Comp f b t → Comp f (a ++ b) (s ++ t)
section
variable {f g : List Nat → Option (List Nat)} {p t a b s : List Nat}
theorem Comp.congr (h : Comp f p t) (e : ∀ a, a ≠ [] → a.length ≤ p.length → f a = g a) : Comp g p t := by
  induction h with
  | nil => exact .nil
  | cons ha hs hb ih =>
    refine .cons ha (by rw [← e _ ha (by rw [List.length_append]; omega)]; exact hs) (ih fun a ha hl => e a ha (by rw [List.length_append]; omega))
theorem Comp.snoc (h : Comp f b t) (ha : a ≠ []) (hs : f a = some s) : Comp f (b ++ a) (t ++ s) := by
  induction h with
  | nil =>
    have := Comp.cons ha hs .nil
    rw [List.append_nil, List.append_nil] at this
    exact this
  | cons ha' hs' hb ih =>
    rw [List.append_assoc, List.append_assoc]
    exact .cons ha' hs' ih
theorem Comp.first (h : Comp f p t) (hp : p ≠ []) : ∃ a b s t', p = a ++ b ∧ a ≠ [] ∧ f a = some s ∧ Comp f b t' ∧ t = s ++ t' := by
  cases h with
  | nil => exact absurd rfl hp
  | cons ha hs hb => exact ⟨_, _, _, _, rfl, ha, hs, hb, rfl⟩
theorem Comp.empty (h : Comp f p t) (hp : p = []) : t = [] := by
  induction h with
  | nil => rfl
  | cons ha _ _ _ => exact absurd (List.append_eq_nil_iff.mp hp).1 ha
theorem Comp.last (h : Comp f p t) (hp : p ≠ []) : ∃ b a t' s, p = b ++ a ∧ a ≠ [] ∧ f a = some s ∧ Comp f b t' ∧ t = t' ++ s := by
  induction h with
  | nil => exact absurd rfl hp
  | cons ha hs hb ih =>
    rename_i a b s t
    by_cases hb0 : b = []
    · have ht := hb.empty hb0
      subst ht
      subst hb0
      exact ⟨[], a, [], s, by simp, ha, hs, .nil, by simp⟩
    · obtain ⟨b', a', t', s', rfl, ha', hs', hb', rfl⟩ := ih hb0
      exact ⟨a ++ b', a', s ++ t', s', by simp, ha', hs', .cons ha hs hb', by simp⟩
end
/-! ### items, stretches, filled ones -/
def Cand (C : List Nat → List Nat) (p t : List Nat) : Prop := ∃ k u, u ≠ [] ∧ 2 ≤ k ∧ p = rpt k u ∧ ((u.length = 1 ∧ t = dec k ++ u) ∨ t = dec k ++ ([40] ++ (C u ++ [41])))
noncomputable def itS (C : List Nat → List Nat) (p : List Nat) : Option (List Nat) := if p.length = 1 then some p else least (Cand C p)
noncomputable def txS (f : List Nat → Option (List Nat)) (p : List Nat) : List Nat := (least (Comp f p)).getD []
def ClC (T : List Nat → List Nat) (p t : List Nat) : Prop := t = T p ∨ ∃ a j, a ≠ [] ∧ 1 ≤ j ∧ p = a ++ List.replicate j 46 ∧ t = T a ++ (64 :: dec p.length)
noncomputable def clS (f : List Nat → Option (List Nat)) (p : List Nat) : List Nat := (least (ClC (txS f) p)).getD []
noncomputable def cl : Nat → List Nat → List Nat
  | 0 => fun _ => []
  | n + 1 => fun p => if p.length ≤ n then cl n p else clS (itS (cl n)) p
noncomputable def fC (p : List Nat) : List Nat := cl p.length p
noncomputable def fI (p : List Nat) : Option (List Nat) := itS fC p
noncomputable def fT (p : List Nat) : List Nat := txS fI p
theorem cl_stable (p : List Nat) : ∀ n, p.length ≤ n → cl n p = fC p
  | 0, h => by
    unfold fC
    rw [show p.length = 0 by omega]
  | n + 1, h => by
    by_cases e : p.length ≤ n
    · rw [show cl (n + 1) p = cl n p from if_pos e]
      exact cl_stable p n e
    · unfold fC
      rw [show p.length = n + 1 by omega]
theorem itS_congr {C D : List Nat → List Nat} {p : List Nat} (h : ∀ u, u.length < p.length → C u = D u) : itS C p = itS D p := by
  unfold itS
  split
  · rfl
  · refine least_congr fun t => ?_
    have key : ∀ {C D : List Nat → List Nat}, (∀ u, u.length < p.length → C u = D u) → Cand C p t → Cand D p t := fun {C D} h ⟨k, u, hu, hk, hp, ht⟩ => by
      refine ⟨k, u, hu, hk, hp, ht.imp id fun ht => ?_⟩
      rw [ht, h u]
      rw [hp, rpt_len]
      have : 1 ≤ u.length := List.length_pos_iff.mpr hu
      have : 2 * u.length ≤ k * u.length := Nat.mul_le_mul_right _ hk
      omega
    exact ⟨key h, key fun u hu => (h u hu).symm⟩
theorem txS_congr {f g : List Nat → Option (List Nat)} {p : List Nat} (h : ∀ a, a ≠ [] → a.length ≤ p.length → f a = g a) : txS f p = txS g p := by
  unfold txS
  rw [least_congr (B := Comp g p) fun t => ⟨fun x => x.congr h, fun x => x.congr fun a h1 h2 => (h a h1 h2).symm⟩]
theorem fC_eq {p : List Nat} (hp : p ≠ []) : fC p = clS fI p := by
  obtain ⟨n, hn⟩ : ∃ n, p.length = n + 1 := ⟨p.length - 1, by have := List.length_pos_iff.mpr hp; omega⟩
  unfold fC
  rw [hn, show cl (n + 1) p = clS (itS (cl n)) p from if_neg (by omega)]
  have hi : ∀ a : List Nat, a ≠ [] → a.length ≤ p.length → itS (cl n) a = fI a := fun a _ ha => itS_congr fun u hu => cl_stable u n (by omega)
  unfold clS
  have key : ∀ t, ClC (txS (itS (cl n))) p t ↔ ClC (txS fI) p t := fun t => by
    unfold ClC
    rw [txS_congr hi]
    refine or_congr Iff.rfl ⟨?_, ?_⟩
    · rintro ⟨a, j, ha, hj, he, ht⟩
      refine ⟨a, j, ha, hj, he, ?_⟩
      rw [ht, txS_congr (p := a) fun b h1 h2 => hi b h1 (by rw [he, List.length_append]; omega)]
    · rintro ⟨a, j, ha, hj, he, ht⟩
      refine ⟨a, j, ha, hj, he, ?_⟩
      rw [ht, txS_congr (p := a) fun b h1 h2 => hi b h1 (by rw [he, List.length_append]; omega)]
  rw [least_congr key]
theorem fI_one {c : Nat} : fI [c] = some [c] := by
  unfold fI itS
  exact if_pos rfl
theorem fT_nil : fT [] = [] := by
  unfold fT txS
  have : IsL (Comp fI []) [] := ⟨.nil, fun y hy => by
    cases h : y with
    | nil => exact lt2_irrefl []
    | cons a r => rw [lt2_iff]; simp⟩
  rw [least_eq this]
  rfl
/-- a stretch has its least text -/
theorem fT_least : ∀ (n : Nat) (p : List Nat), p.length ≤ n → IsL (Comp fI p) (fT p)
  | n, [], _ => by
    rw [fT_nil]
    exact ⟨.nil, fun y hy => by
      cases h : y with
      | nil => exact lt2_irrefl []
      | cons a r => rw [lt2_iff]; simp⟩
  | 0, c :: r, h => by simp at h
  | n + 1, c :: r, h => by
    have ih := fT_least n
    have hl : r.length ≤ n := by simpa using h
    -- by the first one
    let xs : List (List Nat) := (List.range (r.length + 1)).filterMap fun i => (fI ((c :: r).take (i + 1))).map (· ++ fT ((c :: r).drop (i + 1)))
    have mem : ∀ a b s, c :: r = a ++ b → a ≠ [] → fI a = some s → s ++ fT b ∈ xs := fun a b s e ha hs => by
      have h1 : 1 ≤ a.length := List.length_pos_iff.mpr ha
      have h2 : a.length ≤ r.length + 1 := by
        have := congrArg List.length e
        rw [List.length_append, List.length_cons] at this
        omega
      refine List.mem_filterMap.mpr ⟨a.length - 1, List.mem_range.mpr (by omega), ?_⟩
      rw [show a.length - 1 + 1 = a.length by omega, e, List.take_left, List.drop_left, hs]
      rfl
    have hne : xs ≠ [] := fun z => by
      have := mem [c] r [c] rfl (by simp) fI_one
      rw [z] at this
      simp at this
    obtain ⟨m, hm, hb⟩ := fin_min hne
    have hL : IsL (Comp fI (c :: r)) m := by
      constructor
      · obtain ⟨i, hi, e⟩ := List.mem_filterMap.mp hm
        have hi := List.mem_range.mp hi
        cases hs : fI ((c :: r).take (i + 1)) with
        | none => rw [hs] at e; cases e
        | some s =>
          rw [hs] at e
          have e : s ++ fT ((c :: r).drop (i + 1)) = m := Option.some.inj e
          rw [← e]
          conv => rw [← List.take_append_drop (i + 1) (c :: r)]
          refine .cons (by simp) hs ?_
          have : ((c :: r).drop (i + 1)).length ≤ n := by rw [List.length_drop, List.length_cons]; omega
          rw [List.take_append_drop]
          exact (ih _ this).1
      · intro t ht
        obtain ⟨a, b, s, t', e, ha, hs, hbt, rfl⟩ := ht.first (by simp)
        have h1 : 1 ≤ a.length := List.length_pos_iff.mpr ha
        have hbl : b.length ≤ n := by
          have := congrArg List.length e
          rw [List.length_append, List.length_cons] at this
          omega
        refine le2_trans (b := s ++ fT b) (hb _ (mem a b s e ha hs)) ?_
        rw [lt2_left]
        exact (ih b hbl).2 t' hbt
    have : fT (c :: r) = m := by
      unfold fT txS
      rw [least_eq hL]
      rfl
    rw [this]
    exact hL
theorem fT_isL (p : List Nat) : IsL (Comp fI p) (fT p) := fT_least p.length p (Nat.le_refl _)
theorem fT_first {p m : List Nat} (hp : p ≠ []) (h1 : ∃ a b s, p = a ++ b ∧ a ≠ [] ∧ fI a = some s ∧ m = s ++ fT b) (h2 : ∀ a b s, p = a ++ b → a ≠ [] → fI a = some s → ¬ lt2 (s ++ fT b) m) : fT p = m := by
  refine (fT_isL p).uniq ⟨?_, fun t ht => ?_⟩
  · obtain ⟨a, b, s, rfl, ha, hs, rfl⟩ := h1
    exact .cons ha hs (fT_isL b).1
  · obtain ⟨a, b, s, t', e, ha, hs, hbt, rfl⟩ := ht.first hp
    refine le2_trans (h2 a b s e ha hs) ?_
    rw [lt2_left]
    exact (fT_isL b).2 t' hbt
theorem fT_last {p m : List Nat} (hp : p ≠ []) (h1 : ∃ b a s, p = b ++ a ∧ a ≠ [] ∧ fI a = some s ∧ m = fT b ++ s) (h2 : ∀ b a s, p = b ++ a → a ≠ [] → fI a = some s → ¬ lt2 (fT b ++ s) m) : fT p = m := by
  refine (fT_isL p).uniq ⟨?_, fun t ht => ?_⟩
  · obtain ⟨b, a, s, rfl, ha, hs, rfl⟩ := h1
    exact (fT_isL b).1.snoc ha hs
  · obtain ⟨b, a, t', s, e, ha, hs, hbt, rfl⟩ := ht.last hp
    refine le2_trans (h2 b a s e ha hs) ?_
    rw [lt2_right]
    exact (fT_isL b).2 t' hbt
theorem fC_isL {p m : List Nat} (hp : p ≠ []) (h : IsL (ClC fT p) m) : fC p = m := by
  rw [fC_eq hp]
  unfold clS
  rw [show ClC (txS fI) p = ClC fT p from rfl, least_eq h]
  rfl
theorem fI_isL {p m : List Nat} (hp : p.length ≠ 1) (h : IsL (Cand fC p) m) : fI p = some m := by
  unfold fI itS
  rw [if_neg hp, least_eq h]
theorem fI_none {p : List Nat} (hp : p.length ≠ 1) (h : ∀ t, ¬ Cand fC p t) : fI p = none := by
  unfold fI itS
  rw [if_neg hp, least_none h]
/-- the dark beats behind -/
theorem fC_exists {p : List Nat} (hp : p ≠ []) : IsL (ClC fT p) (fC p) := by
  -- finitely many
  let xs : List (List Nat) := fT p :: ((List.range p.length).filterMap fun i => if p.drop (i + 1) ≠ [] ∧ p.drop (i + 1) = List.replicate (p.length - (i + 1)) 46 then some (fT (p.take (i + 1)) ++ (64 :: dec p.length)) else none)
  have iff : ∀ t, ClC fT p t ↔ t ∈ xs := fun t => by
    constructor
    · rintro (rfl | ⟨a, j, ha, hj, e, rfl⟩)
      · exact List.mem_cons_self
      · refine List.mem_cons_of_mem _ (List.mem_filterMap.mpr ⟨a.length - 1, ?_, ?_⟩)
        · have h1 : 1 ≤ a.length := List.length_pos_iff.mpr ha
          have := congrArg List.length e
          rw [List.length_append, List.length_replicate] at this
          exact List.mem_range.mpr (by omega)
        · have h1 : 1 ≤ a.length := List.length_pos_iff.mpr ha
          have hl := congrArg List.length e
          rw [List.length_append, List.length_replicate] at hl
          have ed : p.drop (a.length - 1 + 1) = List.replicate j 46 := by rw [show a.length - 1 + 1 = a.length by omega, e, List.drop_left]
          have et : p.take (a.length - 1 + 1) = a := by rw [show a.length - 1 + 1 = a.length by omega, e, List.take_left]
          rw [if_pos ⟨by rw [ed]; intro z; have := congrArg List.length z; simp at this; omega, by rw [ed]; congr 1; omega⟩, et]
    · intro h
      rcases List.mem_cons.mp h with rfl | h
      · exact .inl rfl
      · obtain ⟨i, hi, e⟩ := List.mem_filterMap.mp h
        have hi := List.mem_range.mp hi
        split at e
        · rename_i hc
          refine .inr ⟨p.take (i + 1), p.length - (i + 1), ?_, ?_, ?_, (Option.some.inj e).symm⟩
          · intro z
            have h1 : (p.take (i + 1)).length = i + 1 := by rw [List.length_take]; omega
            rw [z] at h1
            cases h1
          · have := List.length_pos_iff.mpr hc.1
            rw [List.length_drop] at this
            omega
          · rw [← hc.2, List.take_append_drop]
        · cases e
  obtain ⟨m, hm, hb⟩ := fin_min (xs := xs) (by simp [xs])
  have : IsL (ClC fT p) m := ⟨(iff m).mpr hm, fun y hy => hb y ((iff y).mp hy)⟩
  rw [fC_isL hp this]
  exact this
end Fg
/-! The shortest text is read back. -/
namespace Fg
open PySem PySem.Spec PyProof.Rows L2
theorem wN_dec {k : Nat} (h : 2 ≤ k) : wN k = dec k := by unfold wN; rw [if_pos (by omega)]
theorem no38_dec {k : Nat} (h : k ≤ 24) : (38 : Nat) ∉ dec k := fun z => by
  have := (dec_facts k h).1 38 z
  revert this; decide
theorem showN_one {n : Nat} {r : List Nat} (h : r.length = n) (hn : 1 ≤ n) : showN [(n, r)] n = r := by
  unfold showN
  refine List.ext_getElem? fun i => ?_
  rw [List.getElem?_map]
  by_cases hi : i < n
  · rw [List.getElem?_range hi, List.getElem?_eq_getElem (by omega)]
    show some (firstLit [(rpt (n / n) r).getD i 0]) = _
    rw [Nat.div_self (by omega)]
    have e : rpt 1 r = r := by show ([r] : List (List Nat)).flatten = r; simp
    rw [e, List.getD_eq_getElem?_getD, List.getElem?_eq_getElem (by omega)]
    show some (if r[i] = 46 then 46 else r[i]) = _
    split
    · rename_i h46; rw [h46]
    · rfl
  · rw [List.getElem?_eq_none (by simpa using hi), List.getElem?_eq_none (by omega)]
    rfl
theorem stPs_single {G : Type} {sg : G → Stv} {p : PtG G} {n : Nat} {r : List Nat} (h : stP sg p = (n, r)) (hl : r.length = n) (hn : 1 ≤ n) : stPs sg [p] = (n, r) := by
  show shown ([p].map (stP sg)) = _
  rw [List.map_cons, List.map_nil, h]
  have e : lcmL [(n, r)] = n := by show Nat.lcm 1 n = n; simp [Nat.lcm]
  unfold shown
  rw [e, showN_one hl hn]
/-- an item of a stretch, as a tree -/
def TrI (d : Nat) : Prop := ∀ p t, p.length < 2 ^ (d + 1) → p.length ≤ 24 → Row p → p ≠ [] → fI p = some t → ∃ i : ItG (Gr d), vI (vG d) i ∧ wI (wG d) i = t ∧ stI (stG d) i = (p.length, p) ∧ (38 : Nat) ∉ t
def TrP (d : Nat) : Prop := ∀ p, p.length < 2 ^ (d + 1) → p.length ≤ 24 → Row p → p ≠ [] → ∃ q : PtG (Gr d), vP (stG d) (vG d) q ∧ wP (wG d) q = fC p ∧ stP (stG d) q = (p.length, p) ∧ (38 : Nat) ∉ fC p
theorem tr_items {d : Nat} (h : TrI d) : ∀ {p t : List Nat}, Comp fI p t → p.length < 2 ^ (d + 1) → p.length ≤ 24 → Row p → ∃ is : List (ItG (Gr d)), (∀ i ∈ is, vI (vG d) i) ∧ wIs (wG d) is = t ∧ stIs (stG d) is = (p.length, p) ∧ (38 : Nat) ∉ t := by
  intro p t hc
  induction hc with
  | nil => exact fun _ _ _ => ⟨[], by simp, rfl, rfl, by simp⟩
  | cons ha hs hb ih =>
    rename_i a b s t
    intro h1 h2 h3
    rw [List.length_append] at h1 h2
    obtain ⟨i, i1, i2, i3, i4⟩ := h a s (by omega) (by omega) (fun c hc => h3 c (List.mem_append_left _ hc)) ha hs
    obtain ⟨is, j1, j2, j3, j4⟩ := ih (by omega) (by omega) (fun c hc => h3 c (List.mem_append_right _ hc))
    refine ⟨i :: is, fun x hx => ?_, ?_, ?_, ?_⟩
    · rcases List.mem_cons.mp hx with rfl | hx
      · exact i1
      · exact j1 x hx
    · show (wI (wG d) i :: is.map (wI (wG d))).flatten = _
      rw [List.flatten_cons, i2]
      unfold wIs at j2
      rw [j2]
    · rw [stIs_cons, i3, j3, List.length_append]
      rfl
    · intro hx
      rcases List.mem_append.mp hx with hx | hx
      · exact i4 hx
      · exact j4 hx
theorem tr_part {d : Nat} (h : TrI d) : TrP d := by
  intro p h1 h2 h3 hp
  have hl : 1 ≤ p.length := List.length_pos_iff.mpr hp
  obtain ⟨hc, _⟩ := fC_exists hp
  rcases hc with e | ⟨a, j, ha, hj, e, et⟩
  · obtain ⟨is, i1, i2, i3, i4⟩ := tr_items h (fT_isL p).1 h1 h2 h3
    refine ⟨(is, 0), ⟨?_, i1, .inl rfl⟩, ?_, ?_, by rw [e]; exact i4⟩
    · intro z
      have z : is = [] := z
      rw [z] at i3
      have := congrArg Prod.fst i3
      have this : 0 = p.length := this
      omega
    · show wIs (wG d) is ++ wF 0 = _
      rw [e, i2]
      show fT p ++ [] = _
      rw [List.append_nil]
    · show (if 0 < 0 then _ else stIs (stG d) is) = _
      rw [if_neg (by decide)]
      exact i3
  · have hla : a.length < p.length := by
      rw [e, List.length_append, List.length_replicate]; omega
    obtain ⟨is, i1, i2, i3, i4⟩ := tr_items h (fT_isL a).1 (by omega) (by omega) (fun c hc => h3 c (by rw [e]; exact List.mem_append_left _ hc))
    have ha1 : 1 ≤ a.length := List.length_pos_iff.mpr ha
    refine ⟨(is, p.length), ⟨?_, i1, .inr ⟨?_, h2⟩⟩, ?_, ?_, ?_⟩
    · intro z
      have z : is = [] := z
      rw [z] at i3
      have := congrArg Prod.fst i3
      have this : 0 = a.length := this
      omega
    · show (stIs (stG d) is).1 ≤ p.length
      rw [i3]; exact Nat.le_of_lt hla
    · show wIs (wG d) is ++ wF p.length = _
      rw [i2, et]
      unfold wF
      rw [if_pos (by omega)]
    · show (if 0 < p.length then fillTo (stIs (stG d) is) p.length else _) = _
      rw [if_pos (by omega), i3]
      show (p.length, a ++ List.replicate (p.length - a.length) 46) = _
      have : p.length - a.length = j := by rw [e, List.length_append, List.length_replicate]; omega
      rw [this, ← e]
    · rw [et]
      intro hx
      rcases List.mem_append.mp hx with hx | hx
      · exact i4 hx
      · rcases List.mem_cons.mp hx with hx | hx
        · cases hx
        · exact no38_dec h2 hx
theorem tr_step (d : Nat) (sub : ∀ d', d = d' + 1 → TrI d') : TrI d := by
    intro p t h1 h2 h3 hp hI
    have hl : 1 ≤ p.length := List.length_pos_iff.mpr hp
    by_cases e1 : p.length = 1
    · obtain ⟨c, rfl⟩ : ∃ c, p = [c] := List.length_eq_one_iff.mp e1
      rw [fI_one] at hI
      cases hI
      refine ⟨.inl (0, c), ⟨h3 c List.mem_cons_self, .inl rfl⟩, rfl, rfl, ?_⟩
      intro hx
      rw [List.mem_singleton] at hx
      have := h3 c List.mem_cons_self
      rw [← hx] at this
      revert this; decide
    · unfold fI itS at hI
      rw [if_neg e1] at hI
      obtain ⟨⟨k, u, hu, hk, hpu, ht⟩, _⟩ := least_mem hI
      have hul : 1 ≤ u.length := List.length_pos_iff.mpr hu
      have hlen : p.length = k * u.length := by rw [hpu, rpt_len]
      have hku : k ≤ k * u.length := Nat.le_mul_of_pos_right _ hul
      have h2u : 2 * u.length ≤ k * u.length := Nat.mul_le_mul_right _ hk
      have hk24 : k ≤ 24 := by omega
      rcases ht with ⟨hu1, ht⟩ | ht
      · obtain ⟨c, rfl⟩ : ∃ c, u = [c] := List.length_eq_one_iff.mp hu1
        have hcm : c ∈ p := by
          rw [hpu]
          obtain ⟨k', rfl⟩ : ∃ k', k = k' + 1 := ⟨k - 1, by omega⟩
          rw [rpt_succ]
          exact List.mem_append_left _ List.mem_cons_self
        have hc := h3 c hcm
        refine ⟨.inl (k, c), ⟨hc, .inr ⟨hk, hk24⟩⟩, ?_, ?_, ?_⟩
        · show wN k ++ [c] = t
          rw [wN_dec hk, ht]
        · show rep (1, [c]) (max 1 k) = _
          rw [show max 1 k = k by omega]
          show (1 * k, rpt k [c]) = _
          rw [← hpu, hlen, hu1, Nat.mul_one, Nat.one_mul]
        · rw [ht]
          intro hx
          rcases List.mem_append.mp hx with hx | hx
          · exact no38_dec hk24 hx
          · rw [List.mem_singleton] at hx
            rw [← hx] at hc
            revert hc; decide
      · cases d with
        | zero =>
          have h1 : p.length < 2 := h1
          omega
        | succ d =>
          have hrow : Row u := fun c hc => h3 c (by
            rw [hpu]
            obtain ⟨k', rfl⟩ : ∃ k', k = k' + 1 := ⟨k - 1, by omega⟩
            rw [rpt_succ]
            exact List.mem_append_left _ hc)
          have h1' : p.length < 2 * 2 ^ (d + 1) := by rw [← Nat.pow_succ']; exact h1
          obtain ⟨q, q1, q2, q3, q4⟩ := tr_part (sub d rfl) u (by omega) (by omega) hrow hu
          refine ⟨.inr (k, [q]), ⟨hk, hk24, ⟨by simp, fun x hx => by rw [List.mem_singleton.mp hx]; exact q1⟩⟩, ?_, ?_, ?_⟩
          · show wN k ++ ([40] ++ (wPs (wG d) [q] ++ [41])) = t
            rw [wN_dec hk, ht]
            show dec k ++ ([40] ++ (wP (wG d) q ++ [41])) = _
            rw [q2]
          · show rep (stPs (stG d) [q]) (max 1 k) = _
            rw [stPs_single q3 rfl hul, show max 1 k = k by omega]
            show (u.length * k, rpt k u) = _
            rw [← hpu, hlen, Nat.mul_comm]
          · rw [ht]
            intro hx
            rcases List.mem_append.mp hx with hx | hx
            · exact no38_dec hk24 hx
            · rcases List.mem_append.mp hx with hx | hx
              · rw [List.mem_singleton] at hx; cases hx
              · rcases List.mem_append.mp hx with hx | hx
                · exact q4 hx
                · rw [List.mem_singleton] at hx; cases hx
theorem tr_item : ∀ d, TrI d
  | 0 => tr_step 0 fun d' e => nomatch e
  | d + 1 => tr_step (d + 1) fun d' e => by
    cases e
    exact tr_item d
/-- the folded text is read back as its round, and has no & -/
theorem fold_back {p : List Nat} (h : p.length ≤ 24) (hr : Row p) (hp : p ≠ []) : told (fC p) = .done (p.length, p) ∧ (38 : Nat) ∉ fC p := by
  obtain ⟨q, q1, q2, q3, q4⟩ := tr_part (tr_item 4) p (by show p.length < 32; omega) h hr hp
  have := told_ok 4 (by decide) [q] ⟨by simp, fun x hx => by rw [List.mem_singleton.mp hx]; exact q1⟩
  rw [show wG 5 [q] = wP (wG 4) q from rfl, q2, show stG 5 [q] = stPs (stG 4) [q] from rfl, stPs_single q3 rfl (List.length_pos_iff.mpr hp)] at this
  exact ⟨this, q4⟩
/-- .. and is not long -/
theorem tx_len : ∀ (n : Nat) (p : List Nat), p.length ≤ n → (fT p).length ≤ p.length
  | n, [], _ => by rw [fT_nil]; exact Nat.le_refl _
  | 0, c :: r, h => by simp at h
  | n + 1, c :: r, h => by
    have hr := tx_len n r (by simpa using h)
    have h1 := (fT_isL (c :: r)).2 ([c] ++ fT r) (.cons (a := [c]) (by simp) fI_one (fT_isL r).1)
    rw [lt2_iff] at h1
    rw [List.length_append, List.length_singleton] at h1
    rw [List.length_cons]
    omega
theorem fT_len (p : List Nat) : (fT p).length ≤ p.length := tx_len p.length p (Nat.le_refl _)
theorem fC_len {p : List Nat} (hp : p ≠ []) : (fC p).length ≤ p.length := by
  have h1 := (fC_exists hp).2 (fT p) (.inl rfl)
  rw [lt2_iff] at h1
  have := fT_len p
  omega
theorem fI_len {p t : List Nat} (hp : p ≠ []) (h24 : p.length ≤ 24) (h : fI p = some t) : t.length ≤ 30 := by
  by_cases e1 : p.length = 1
  · unfold fI itS at h
    rw [if_pos e1] at h
    cases h; omega
  · unfold fI itS at h
    rw [if_neg e1] at h
    obtain ⟨⟨k, u, hu, hk, hpu, ht⟩, _⟩ := least_mem h
    have hlen : p.length = k * u.length := by rw [hpu, rpt_len]
    have hul : 1 ≤ u.length := List.length_pos_iff.mpr hu
    have h2u : 2 * u.length ≤ k * u.length := Nat.mul_le_mul_right _ hk
    have hd : (dec k).length ≤ 2 := by unfold dec; split <;> simp
    rcases ht with ⟨hu1, ht⟩ | ht
    · rw [ht, List.length_append]; omega
    · have := fC_len hu
      rw [ht]
      simp only [List.length_append, List.length_singleton]
      omega
theorem Row.take {l : List Nat} (h : Row l) (n : Nat) : Row (l.take n) := fun c hc => h c (List.mem_of_mem_take hc)
theorem Row.drop {l : List Nat} (h : Row l) (n : Nat) : Row (l.drop n) := fun c hc => h c (List.mem_of_mem_drop hc)
theorem Row.app {l m : List Nat} (h : Row l) (h2 : Row m) : Row (l ++ m) := fun c hc => (List.mem_append.mp hc).elim (h c) (h2 c)
theorem Row.one {c : Nat} (h : c ∈ SG) : Row [c] := fun x hx => by rw [List.mem_singleton.mp hx]; exact h
theorem Row.rep {l : List Nat} (h : Row l) (n : Nat) : Row (List.replicate n l).flatten := fun c hc => by
  obtain ⟨m, hm, hc⟩ := List.mem_flatten.mp hc
  rw [(List.mem_replicate.mp hm).2] at hc
  exact h c hc
theorem rep_len (n : Nat) (l : List Nat) : (List.replicate n l).flatten.length = n * l.length := by
  simp [List.length_flatten]
/-! ### the better one of two -/
def bet (o : Option (List Nat)) (t : List Nat) : List Nat := match o with
  | none => t
  | some s => if slt (t.length : Int) t (s.length : Int) s = true then t else s
def Lo (A : List Nat → Prop) : Option (List Nat) → Prop
  | none => ∀ t, ¬ A t
  | some m => IsL A m
theorem Lo.more {A B : List Nat → Prop} {o : Option (List Nat)} {t : List Nat} (h : Lo A o) (e : ∀ x, B x ↔ (A x ∨ x = t)) : Lo B (some (bet o t)) := by
  cases o with
  | none => exact ⟨(e t).mpr (.inr rfl), fun y hy => by
      rcases (e y).mp hy with hy | rfl
      · exact absurd hy (h y)
      · exact lt2_irrefl y⟩
  | some s =>
    obtain ⟨h1, h2⟩ := h
    show IsL B (if slt (t.length : Int) t (s.length : Int) s = true then t else s)
    by_cases hc : lt2 t s
    · rw [if_pos (show slt (t.length : Int) t (s.length : Int) s = true from hc)]
      refine ⟨(e t).mpr (.inr rfl), fun y hy => ?_⟩
      rcases (e y).mp hy with hy | rfl
      · exact fun z => h2 y hy (lt2_trans z hc)
      · exact lt2_irrefl y
    · rw [if_neg (show ¬ slt (t.length : Int) t (s.length : Int) s = true from hc)]
      refine ⟨(e s).mpr (.inl h1), fun y hy => ?_⟩
      rcases (e y).mp hy with hy | rfl
      · exact h2 y hy
      · exact hc
theorem Lo.same {A B : List Nat → Prop} {o : Option (List Nat)} (h : Lo A o) (e : ∀ x, B x ↔ A x) : Lo B o := by
  cases o with
  | none => exact fun t ht => h t ((e t).mp ht)
  | some s => exact ⟨(e s).mpr h.1, fun y hy => h.2 y ((e y).mp hy)⟩
theorem bet_len {o : Option (List Nat)} {t : List Nat} {n : Nat} (h : ∀ s, o = some s → s.length ≤ n) (ht : t.length ≤ n) : (bet o t).length ≤ n := by
  unfold bet
  split
  · exact ht
  · split
    · exact ht
    · exact h _ rfl
end Fg
/-! Dicts by what they answer: keys that are texts, keys that are pairs of numbers. -/
namespace Fg
open PySem PySem.Spec PyProof.Rows L2
abbrev kS (l : List Nat) : Key := .inr ⟨l.toArray⟩
theorem kS_inj {l m : List Nat} : kS l = kS m ↔ l = m := by
  constructor
  · intro h
    exact List.toArray_inj (congrArg PySem.Str.cps (Sum.inr.inj h))
  · rintro rfl; rfl
theorem kV_S (l : List Nat) : kV (kS l) = S l := rfl
theorem putK_len {κ : Type} [DecidableEq κ] (kvs : List (κ × V)) (k : κ) (v : V) : (putK kvs k v).length ≤ kvs.length + 1 := by
  unfold putK
  split
  · rw [List.length_map]; omega
  · rw [List.length_append, List.length_singleton]; exact Nat.le_refl _
/-- at a a dict of at most n entries, which answers g -/
def TD (n : Nat) (H : Hp) (a : Addr) (g : List Nat → Option V) : Prop := ∃ kvs : List (Key × V), H a = some (.dK kvs) ∧ kvs.length ≤ n ∧ ∀ l, valV kvs (kS l) = g l
def PD (n : Nat) (H : Hp) (a : Addr) (g : Int → Int → Option V) : Prop := ∃ kvs : List (List Key × V), H a = some (.dT kvs) ∧ kvs.length ≤ n ∧ ∀ i j, valV kvs [.inl i, .inl j] = g i j
def setT (g : List Nat → Option V) (k : List Nat) (v : V) : List Nat → Option V := fun l => if l = k then some v else g l
def setP (g : Int → Int → Option V) (i j : Int) (v : V) : Int → Int → Option V := fun a b => if a = i ∧ b = j then some v else g a b
section
variable {n : Nat} {H H' : Hp} {a b : Addr} {g : List Nat → Option V} {f : Int → Int → Option V} {l : List Nat} {v : V} {Q : VK} {i j : Int}
theorem TD.at (h : TD n H a g) (e : H' a = H a) : TD n H' a g := by
  obtain ⟨kvs, h1, h2⟩ := h
  exact ⟨kvs, e.trans h1, h2⟩
theorem PD.at (h : PD n H a f) (e : H' a = H a) : PD n H' a f := by
  obtain ⟨kvs, h1, h2⟩ := h
  exact ⟨kvs, e.trans h1, h2⟩
theorem TD.mono (h : TD n H a g) (s : Same H H') : TD n H' a g := by
  obtain ⟨kvs, h1, h2⟩ := h
  exact ⟨kvs, s _ _ h1, h2⟩
theorem PD.mono (h : PD n H a f) (s : Same H H') : PD n H' a f := by
  obtain ⟨kvs, h1, h2⟩ := h
  exact ⟨kvs, s _ _ h1, h2⟩
theorem TD.some (h : TD n H a g) : ∃ o, H a = some o := by
  obtain ⟨kvs, h1, h2⟩ := h
  exact ⟨_, h1⟩
theorem PD.some (h : PD n H a f) : ∃ o, H a = some o := by
  obtain ⟨kvs, h1, h2⟩ := h
  exact ⟨_, h1⟩
theorem TD.new : TD 0 (upd H a (.dK [])) a (fun _ => none) := ⟨[], upd_same, Nat.le_refl _, fun _ => rfl⟩
theorem PD.new : PD 0 (upd H a (.dT [])) a (fun _ _ => none) := ⟨[], upd_same, Nat.le_refl _, fun _ _ => rfl⟩
theorem td_get {P : V → Prop} (h : TD n H a g) (e : g l = some v) (q : P v) : ∃ a' v', V.ref a = .ref a' ∧ DGet H a' (S l) (some v') ∧ P v' := by
  obtain ⟨kvs, h1, h2, h3⟩ := h
  refine ⟨a, v, rfl, ?_, q⟩
  have := DGet.k (k := kS l) h1
  rw [h3, e] at this
  exact this
theorem td_ask {P : Option V → Prop} (h : TD n H a g) (q : P (g l)) : ∃ a' o, V.ref a = .ref a' ∧ DGet H a' (S l) o ∧ P o := by
  obtain ⟨kvs, h1, h2, h3⟩ := h
  refine ⟨a, g l, rfl, ?_, q⟩
  have := DGet.k (k := kS l) h1
  rw [h3] at this
  exact this
theorem td_put {P : Hp → Prop} (h : TD n H a g) (hn : n ≤ 100000) (q : ∀ o, TD (n + 1) (upd H a o) a (setT g l v) → P (upd H a o)) : ∃ a' H4, V.ref a = .ref a' ∧ DPut H a' (S l) v H4 ∧ P H4 := by
  obtain ⟨kvs, h1, h2, h3⟩ := h
  refine ⟨a, _, rfl, DPut.k (k := kS l) h1 (by rw [sizeLine_eq]; omega), q _ ⟨_, upd_same, Nat.le_trans (putK_len _ _ _) (by omega), fun m => ?_⟩⟩
  rw [valV_put, h3]
  unfold setT
  by_cases e : m = l
  · rw [if_pos e, if_pos (by rw [e])]
  · rw [if_neg e, if_neg (fun z => e (kS_inj.mp z))]
theorem pd_get (h : PD n H a f) (hb : H b = some (.tup [.int i, .int j])) {P : V → Prop} (e : f i j = some v) (q : P v) : ∃ a' v', V.ref a = .ref a' ∧ DGet H a' (.ref b) (some v') ∧ P v' := by
  obtain ⟨kvs, h1, h2, h3⟩ := h
  refine ⟨a, v, rfl, ?_, q⟩
  have := DGet.t (k := [.inl i, .inl j]) h1 hb
  rw [h3, e] at this
  exact this
theorem pd_put {P : Hp → Prop} (h : PD n H a f) (hb : H b = some (.tup [.int i, .int j])) (hn : n ≤ 100000) (q : ∀ o, PD (n + 1) (upd H a o) a (setP f i j v) → P (upd H a o)) : ∃ a' H4, V.ref a = .ref a' ∧ DPut H a' (.ref b) v H4 ∧ P H4 := by
  obtain ⟨kvs, h1, h2, h3⟩ := h
  refine ⟨a, _, rfl, DPut.t (k := [.inl i, .inl j]) h1 hb (by rw [sizeLine_eq]; omega), q _ ⟨_, upd_same, Nat.le_trans (putK_len _ _ _) (by omega), fun x y => ?_⟩⟩
  rw [valV_put, h3]
  unfold setP
  by_cases e : x = i ∧ y = j
  · rw [if_pos (by rw [e.1, e.2]), if_pos e]
  · rw [if_neg (fun z => e (by injection z with z1 z2; injection z2 with z2 z3; exact ⟨Sum.inl.inj z1, Sum.inl.inj z2⟩)), if_neg e]
end
section
variable {σ : L2.St} {H : Hp} {Q : VK} {td ty tv : TE} {D : Ends}
theorem i_dget (q : td σ H fun x H1 => ty σ H1 fun y H2 => ∃ a v, x = .ref a ∧ DGet H2 a y (some v) ∧ Q v H2) : tDGet td ty σ H Q := q
theorem i_din (q : ty σ H fun y H1 => td σ H1 fun x H2 => ∃ a o, x = .ref a ∧ DGet H2 a y o ∧ Q (.bl o.isSome) H2) : tDIn ty td σ H Q := q
theorem i_dnotin (q : ty σ H fun y H1 => td σ H1 fun x H2 => ∃ a o, x = .ref a ∧ DGet H2 a y o ∧ Q (.bl (!o.isSome)) H2) : tDNotIn ty td σ H Q := q
theorem i_dput (q : tv σ H fun v H1 => td σ H1 fun x H2 => ty σ H2 fun y H3 => ∃ a H4, x = .ref a ∧ DPut H3 a y v H4 ∧ D.nx σ H4) : sDPut td ty tv D σ H := q
theorem i_dnewK (q : ∀ p, H p = none → Q (.ref p) (upd H p (.dK []))) : tDNewK σ H Q := q
theorem i_dnewT (q : ∀ p, H p = none → Q (.ref p) (upd H p (.dT []))) : tDNewT σ H Q := q
/-- {l: v}, texts -/
theorem i_disp1 {l : List Nat} {v : V} {tk tv : TE} (hk : ∀ H (R : VK), R (S l) H → tk σ H R) (hv : ∀ H (R : VK), R v H → tv σ H R) (q : ∀ p o, H p = none → TD 1 (upd H p o) p (setT (fun _ => none) l v) → Q (.ref p) (upd H p o)) : tDisp [(tk, tv)] σ H Q := by
  intro p np
  refine hk _ _ (hv _ _ ⟨upd_same, [(kS l, v)], rfl, (by decide : 1 ≤ 15), ?_⟩)
  rw [upd_upd]
  refine q p _ np ⟨_, upd_same, Nat.le_refl 1, fun m => ?_⟩
  show valV (putK [] (kS l) v) (kS m) = _
  rw [valV_put]
  unfold setT
  by_cases e : m = l
  · rw [if_pos e, if_pos (by rw [e])]
  · rw [if_neg e, if_neg (fun z => e (kS_inj.mp z))]
    rfl
end
/-! a value as a test, the written part named -/
def tTru (K : PySem.W.Frag) (te : TE) : TT := fun σ H Q => te σ H fun x H' => ∃ k, TruV K x H' k ∧ Q k H'
section
variable {K : PySem.W.Frag} {σ : L2.St} {H : Hp} {te : TE} {a : Addr} {xs : List V} {l : List Nat} {P : Bool → Prop} {Q : Bool → Hp → Prop}
theorem i_tru (q : te σ H fun x H' => ∃ k, TruV K x H' k ∧ Q k H') : tTru K te σ H Q := q
theorem i_truL (h : H a = some (.lst xs)) (q : P (!xs.isEmpty)) : ∃ k, TruV K (.ref a) H k ∧ P k := ⟨_, .inl ⟨xs, .inl (.inl h), rfl⟩, q⟩
theorem i_truL0 (h : H a = some (.lst [])) (q : P false) : ∃ k, TruV K (.ref a) H k ∧ P k := ⟨_, .inl ⟨[], .inl (.inl h), rfl⟩, q⟩
theorem i_truL1 (h : H a = some (.lst xs)) (hne : xs ≠ []) (q : P true) : ∃ k, TruV K (.ref a) H k ∧ P k := ⟨_, .inl ⟨xs, .inl (.inl h), by cases xs with
  | nil => exact absurd rfl hne
  | cons _ _ => rfl⟩, q⟩
theorem i_truT (h : H a = some (.tup xs)) (q : P (!xs.isEmpty)) : ∃ k, TruV K (.ref a) H k ∧ P k := ⟨_, .inr (.inl ⟨xs, .inl (.inl h), rfl⟩), q⟩
end
theorem ptTruth (K : PySem.W.Frag) {X : Cx} {e : Expr} {te : TE} (he : PE X e te) (h1 : ∀ whole, isTrue e X.env whole = (do let v ← whole; standAt e.pos; holding [v] (truthy v))) (h : X.K = K := by rfl) : PT X e (tTru K te) := h ▸ pt_truth he h1
end Fg
namespace K06
open PySem PySem.Spec PyProof.Rows L2 Fg
def topS (i : Nat) : Stmt := PySem.Challenge.pw_falseglim_k06_whole_shortest_text.main.body.getD i (.Pass ⟨0, 0, 0, 0⟩)
abbrev s_wrong_sign : Stmt := topS 8
theorem sc_wrong_sign : FnScope ["row", "place", "sign"] ["row"] (defScope s_wrong_sign) := ⟨rfl, rfl, rfl, by decide +kernel, rfl, by decide +kernel, by decide +kernel⟩
abbrev s_check_round : Stmt := topS 9
theorem sc_check_round : FnScope ["thing", "place"] ["thing"] (defScope s_check_round) := ⟨rfl, rfl, rfl, by decide +kernel, rfl, by decide +kernel, by decide +kernel⟩
abbrev s_shortlex : Stmt := topS 10
theorem sc_shortlex : FnScope ["row"] ["row"] (defScope s_shortlex) := ⟨rfl, rfl, rfl, by decide +kernel, rfl, by decide +kernel, by decide +kernel⟩
abbrev s_least_text : Stmt := topS 12
theorem sc_least_text : FnScope ["texts"] ["texts"] (defScope s_least_text) := ⟨rfl, rfl, rfl, by decide +kernel, rfl, by decide +kernel, by decide +kernel⟩
abbrev s_closed_text : Stmt := topS 13
theorem sc_closed_text : FnScope ["part", "texts", "found", "cut"] ["part", "texts"] (defScope s_closed_text) := ⟨rfl, rfl, rfl, by decide +kernel, rfl, by decide +kernel, by decide +kernel⟩
abbrev s_item_text : Stmt := topS 14
theorem sc_item_text : FnScope ["part", "texts", "found", "many", "times"] ["part", "texts"] (defScope s_item_text) := ⟨rfl, rfl, rfl, by decide +kernel, rfl, by decide +kernel, by decide +kernel⟩
abbrev s_items_text : Stmt := topS 15
theorem sc_items_text : FnScope ["part", "items", "texts", "found", "cut"] ["part", "items", "texts"] (defScope s_items_text) := ⟨rfl, rfl, rfl, by decide +kernel, rfl, by decide +kernel, by decide +kernel⟩
abbrev s_fold_round : Stmt := topS 16
theorem sc_fold_round : FnScope ["row", "items", "texts", "many", "low", "part"] ["row"] (defScope s_fold_round) := ⟨rfl, rfl, rfl, by decide +kernel, rfl, by decide +kernel, by decide +kernel⟩
abbrev s_common_beats : Stmt := topS 20
theorem sc_common_beats : FnScope ["first", "second", "one", "two"] ["first", "second"] (defScope s_common_beats) := ⟨rfl, rfl, rfl, by decide +kernel, rfl, by decide +kernel, by decide +kernel⟩
abbrev s_repeated : Stmt := topS 21
theorem sc_repeated : FnScope ["stretch", "times", "beats"] ["stretch", "times"] (defScope s_repeated) := ⟨rfl, rfl, rfl, by decide +kernel, rfl, by decide +kernel, by decide +kernel⟩
abbrev s_put_behind : Stmt := topS 22
theorem sc_put_behind : FnScope ["stretch", "other", "beats"] ["stretch", "other"] (defScope s_put_behind) := ⟨rfl, rfl, rfl, by decide +kernel, rfl, by decide +kernel, by decide +kernel⟩
abbrev s_first_lit : Stmt := topS 23
theorem sc_first_lit : FnScope ["signs", "sign"] ["signs"] (defScope s_first_lit) := ⟨rfl, rfl, rfl, by decide +kernel, rfl, by decide +kernel, by decide +kernel⟩
abbrev s_shown_together : Stmt := topS 24
theorem sc_shown_together : FnScope ["parts", "beats", "part", "rows", "beat", "row"] ["parts"] (defScope s_shown_together) := ⟨rfl, rfl, rfl, by decide +kernel, rfl, by decide +kernel, by decide +kernel⟩
abbrev s_behind_digits : Stmt := topS 25
theorem sc_behind_digits : FnScope ["text", "at"] ["text", "at"] (defScope s_behind_digits) := ⟨rfl, rfl, rfl, by decide +kernel, rfl, by decide +kernel, by decide +kernel⟩
abbrev s_is_within : Stmt := topS 26
theorem sc_is_within : FnScope ["run", "low", "high"] ["run", "low", "high"] (defScope s_is_within) := ⟨rfl, rfl, rfl, by decide +kernel, rfl, by decide +kernel, by decide +kernel⟩
abbrev s_read_item : Stmt := topS 27
theorem sc_read_item : FnScope ["text", "at", "opened", "low", "run", "times", "stretch"] ["text", "at", "opened"] (defScope s_read_item) := ⟨rfl, rfl, rfl, by decide +kernel, rfl, by decide +kernel, by decide +kernel⟩
abbrev s_read_filled : Stmt := topS 28
theorem sc_read_filled : FnScope ["text", "at", "part", "behind", "run", "beats"] ["text", "at", "part"] (defScope s_read_filled) := ⟨rfl, rfl, rfl, by decide +kernel, rfl, by decide +kernel, by decide +kernel⟩
abbrev s_read_part : Stmt := topS 29
theorem sc_read_part : FnScope ["text", "at", "opened", "part", "item"] ["text", "at", "opened"] (defScope s_read_part) := ⟨rfl, rfl, rfl, by decide +kernel, rfl, by decide +kernel, by decide +kernel⟩
abbrev s_read_parts : Stmt := topS 30
theorem sc_read_parts : FnScope ["text", "at", "opened", "part", "parts"] ["text", "at", "opened"] (defScope s_read_parts) := ⟨rfl, rfl, rfl, by decide +kernel, rfl, by decide +kernel, by decide +kernel⟩
abbrev s_read_round : Stmt := topS 31
theorem sc_read_round : FnScope ["text", "stretch", "at"] ["text"] (defScope s_read_round) := ⟨rfl, rfl, rfl, by decide +kernel, rfl, by decide +kernel, by decide +kernel⟩
abbrev s_L_draw : Stmt := topS 33
theorem sc_L_draw : FnScope ["_law_script", "_law_cells", "_law_cell"] ["_law_script"] (defScope s_L_draw) := ⟨rfl, rfl, rfl, by decide +kernel, rfl, by decide +kernel, by decide +kernel⟩
abbrev s_L_mix : Stmt := topS 34
theorem sc_L_mix : FnScope ["_law_cell", "_law_turn", "_law_one", "_law_two"] ["_law_cell", "_law_turn"] (defScope s_L_mix) := ⟨rfl, rfl, rfl, by decide +kernel, rfl, by decide +kernel, by decide +kernel⟩
abbrev s_L_pick : Stmt := topS 35
theorem sc_L_pick : FnScope ["_law_draw_here", "_law_many", "_law_cell", "_law_digit", "_law_found"] ["_law_draw_here", "_law_many"] (defScope s_L_pick) := ⟨rfl, rfl, rfl, by decide +kernel, rfl, by decide +kernel, by decide +kernel⟩
abbrev s_L_is_int : Stmt := topS 36
theorem sc_L_is_int : FnScope ["_law_thing"] ["_law_thing"] (defScope s_L_is_int) := ⟨rfl, rfl, rfl, by decide +kernel, rfl, by decide +kernel, by decide +kernel⟩
abbrev s_L_sign : Stmt := topS 37
theorem sc_L_sign : FnScope ["_law_draw_here"] ["_law_draw_here"] (defScope s_L_sign) := ⟨rfl, rfl, rfl, by decide +kernel, rfl, by decide +kernel, by decide +kernel⟩
abbrev s_L_round : Stmt := topS 38
theorem sc_L_round : FnScope ["_law_draw_here", "_law_most", "_law_turn"] ["_law_draw_here", "_law_most"] (defScope s_L_round) := ⟨rfl, rfl, rfl, by decide +kernel, rfl, by decide +kernel, by decide +kernel⟩
abbrev s_L_bent : Stmt := topS 39
theorem sc_L_bent : FnScope ["_law_draw_here", "_law_row_here", "_law_place", "_law_kind"] ["_law_draw_here", "_law_row_here"] (defScope s_L_bent) := ⟨rfl, rfl, rfl, by decide +kernel, rfl, by decide +kernel, by decide +kernel⟩
abbrev s_L_row : Stmt := topS 40
theorem sc_L_row : FnScope ["_law_draw_here", "_law_row_here", "_law_turn", "_law_kind"] ["_law_draw_here"] (defScope s_L_row) := ⟨rfl, rfl, rfl, by decide +kernel, rfl, by decide +kernel, by decide +kernel⟩
abbrev s_L_better : Stmt := topS 41
theorem sc_L_better : FnScope ["_law_one", "_law_two"] ["_law_one", "_law_two"] (defScope s_L_better) := ⟨rfl, rfl, rfl, by decide +kernel, rfl, by decide +kernel, by decide +kernel⟩
abbrev s_L_one_item : Stmt := topS 42
theorem sc_L_one_item : FnScope ["_law_row_here", "_law_low", "_law_high", "_law_filled", "_law_many", "_law_best", "_law_size", "_law_times"] ["_law_row_here", "_law_low", "_law_high", "_law_filled"] (defScope s_L_one_item) := ⟨rfl, rfl, rfl, by decide +kernel, rfl, by decide +kernel, by decide +kernel⟩
abbrev s_L_table : Stmt := topS 43
theorem sc_L_table : FnScope ["_law_row_here", "_law_single", "_law_items", "_law_filled", "_law_many", "_law_low", "_law_high", "_law_best", "_law_cut"] ["_law_row_here"] (defScope s_L_table) := ⟨rfl, rfl, rfl, by decide +kernel, rfl, by decide +kernel, by decide +kernel⟩
abbrev s_L_told : Stmt := topS 44
theorem sc_L_told : FnScope ["_law_kind", "_law_thing", "e"] ["_law_kind", "_law_thing"] (defScope s_L_told) := ⟨rfl, rfl, rfl, by decide +kernel, rfl, by decide +kernel, by decide +kernel⟩
abbrev s_L_bad_round : Stmt := topS 45
theorem sc_L_bad_round : FnScope ["_law_draw_here", "_law_row_here", "_law_menu", "_law_place", "_law_later", "_law_bad"] ["_law_draw_here", "_law_row_here"] (defScope s_L_bad_round) := ⟨rfl, rfl, rfl, by decide +kernel, rfl, by decide +kernel, by decide +kernel⟩
abbrev s_law : Stmt := topS 46
theorem sc_law : FnScope ["_law_script", "_law_draw_here", "_law_rows", "_law_row_here", "_law_told_here", "_law_bad"] ["_law_script"] (defScope s_law) := ⟨rfl, rfl, rfl, by decide +kernel, rfl, by decide +kernel, by decide +kernel⟩
abbrev s_BadRound : Stmt := inClass (topS 2) 0
theorem sc_BadRound : FnScope ["self", "number"] ["self", "number"] (defScope s_BadRound) := ⟨rfl, rfl, rfl, by decide +kernel, rfl, by decide +kernel, by decide +kernel⟩
abbrev s_BadText : Stmt := inClass (topS 3) 0
theorem sc_BadText : FnScope ["self", "at"] ["self", "at"] (defScope s_BadText) := ⟨rfl, rfl, rfl, by decide +kernel, rfl, by decide +kernel, by decide +kernel⟩
abbrev s_TooLong : Stmt := inClass (topS 4) 0
theorem sc_TooLong : FnScope ["self", "number"] ["self", "number"] (defScope s_TooLong) := ⟨rfl, rfl, rfl, by decide +kernel, rfl, by decide +kernel, by decide +kernel⟩
/-- what the top has written -/
structure Txt (K : PySem.W.Frag) (mg : Str → Option Value) (C_GlimError : Addr) (C_BadRound : Addr) (C_BadText : Addr) (C_TooLong : Addr) : Prop where
  d_wrong_sign : DefIn K mg "wrong_sign" s_wrong_sign ["row"]
  d_check_round : DefIn K mg "check_round" s_check_round ["thing"]
  d_shortlex : DefIn K mg "shortlex" s_shortlex ["row"]
  d_least_text : DefIn K mg "least_text" s_least_text ["texts"]
  d_closed_text : DefIn K mg "closed_text" s_closed_text ["part", "texts"]
  d_item_text : DefIn K mg "item_text" s_item_text ["part", "texts"]
  d_items_text : DefIn K mg "items_text" s_items_text ["part", "items", "texts"]
  d_fold_round : DefIn K mg "fold_round" s_fold_round ["row"]
  d_common_beats : DefIn K mg "common_beats" s_common_beats ["first", "second"]
  d_repeated : DefIn K mg "repeated" s_repeated ["stretch", "times"]
  d_put_behind : DefIn K mg "put_behind" s_put_behind ["stretch", "other"]
  d_first_lit : DefIn K mg "first_lit" s_first_lit ["signs"]
  d_shown_together : DefIn K mg "shown_together" s_shown_together ["parts"]
  d_behind_digits : DefIn K mg "behind_digits" s_behind_digits ["text", "at"]
  d_is_within : DefIn K mg "is_within" s_is_within ["run", "low", "high"]
  d_read_item : DefIn K mg "read_item" s_read_item ["text", "at", "opened"]
  d_read_filled : DefIn K mg "read_filled" s_read_filled ["text", "at", "part"]
  d_read_part : DefIn K mg "read_part" s_read_part ["text", "at", "opened"]
  d_read_parts : DefIn K mg "read_parts" s_read_parts ["text", "at", "opened"]
  d_read_round : DefIn K mg "read_round" s_read_round ["text"]
  d_L_draw : DefIn K mg "_law_draw" s_L_draw ["_law_script"]
  d_L_mix : DefIn K mg "_law_mix" s_L_mix ["_law_cell", "_law_turn"]
  d_L_pick : DefIn K mg "_law_pick" s_L_pick ["_law_draw_here", "_law_many"]
  d_L_is_int : DefIn K mg "_law_is_int" s_L_is_int ["_law_thing"]
  d_L_sign : DefIn K mg "_law_sign" s_L_sign ["_law_draw_here"]
  d_L_round : DefIn K mg "_law_round" s_L_round ["_law_draw_here", "_law_most"]
  d_L_bent : DefIn K mg "_law_bent" s_L_bent ["_law_draw_here", "_law_row_here"]
  d_L_row : DefIn K mg "_law_row" s_L_row ["_law_draw_here"]
  d_L_better : DefIn K mg "_law_better" s_L_better ["_law_one", "_law_two"]
  d_L_one_item : DefIn K mg "_law_one_item" s_L_one_item ["_law_row_here", "_law_low", "_law_high", "_law_filled"]
  d_L_table : DefIn K mg "_law_table" s_L_table ["_law_row_here"]
  d_L_told : DefIn K mg "_law_told" s_L_told ["_law_kind", "_law_thing"]
  d_L_bad_round : DefIn K mg "_law_bad_round" s_L_bad_round ["_law_draw_here", "_law_row_here"]
  d_law : DefIn K mg "law" s_law ["_law_script"]
  b_ValueError : mg "ValueError" = none
  b_abs : mg "abs" = none
  b_bool : mg "bool" = none
  b_enumerate : mg "enumerate" = none
  b_int : mg "int" = none
  b_isinstance : mg "isinstance" = none
  b_len : mg "len" = none
  b_max : mg "max" = none
  b_min : mg "min" = none
  b_range : mg "range" = none
  b_str : mg "str" = none
  b_sum : mg "sum" = none
  g_SIGNS : ∃ t, mg "SIGNS" = some (.str ⟨([46, 103, 114, 119] : List Nat).toArray⟩ t)
  g_MOST_ROUND : ∃ t, mg "MOST_ROUND" = some (.int 24 t)
  g_DIGITS : ∃ t, mg "DIGITS" = some (.str ⟨([48, 49, 50, 51, 52, 53, 54, 55, 56, 57] : List Nat).toArray⟩ t)
  g_MOST_OPEN : ∃ t, mg "MOST_OPEN" = some (.int 6 t)
  c_GlimError : mg "GlimError" = some (.ref C_GlimError)
  c_BadRound : mg "BadRound" = some (.ref C_BadRound)
  c_BadText : mg "BadText" = some (.ref C_BadText)
  c_TooLong : mg "TooLong" = some (.ref C_TooLong)
  o_BadRound : OexC K C_BadRound
  nf_BadRound : PySem.W.findIn K (.ref C_BadRound) "number" = some none
  i_BadRound : ∃ fI fd, PySem.W.findIn K (.ref C_BadRound) "__init__" = some (some (.ref fI)) ∧ PySem.W.typeIn K (.ref fI) = some (.type "function") ∧ Fun K "__init__" "BadRound.__init__" s_BadRound fI fd ∧ Binds K fd ["self", "number"] []
  e_BadRound : ExcD K C_BadRound
  o_BadText : OexC K C_BadText
  nf_BadText : PySem.W.findIn K (.ref C_BadText) "at" = some none
  i_BadText : ∃ fI fd, PySem.W.findIn K (.ref C_BadText) "__init__" = some (some (.ref fI)) ∧ PySem.W.typeIn K (.ref fI) = some (.type "function") ∧ Fun K "__init__" "BadText.__init__" s_BadText fI fd ∧ Binds K fd ["self", "at"] []
  e_BadText : ExcD K C_BadText
  o_TooLong : OexC K C_TooLong
  nf_TooLong : PySem.W.findIn K (.ref C_TooLong) "number" = some none
  i_TooLong : ∃ fI fd, PySem.W.findIn K (.ref C_TooLong) "__init__" = some (some (.ref fI)) ∧ PySem.W.typeIn K (.ref fI) = some (.type "function") ∧ Fun K "__init__" "TooLong.__init__" s_TooLong fI fd ∧ Binds K fd ["self", "number"] []
  e_TooLong : ExcD K C_TooLong
  k_BadRound_BadRound : PySem.W.kitOne K (.ref C_BadRound) (.ref C_BadRound) = some true
  k_BadRound_BadText : PySem.W.kitOne K (.ref C_BadRound) (.ref C_BadText) = some false
  k_BadRound_ValueError : PySem.W.kitOne K (.ref C_BadRound) (.type "ValueError") = some true
  m_BadRound_GlimError : PySem.W.exmOne K (.ref C_BadRound) (.ref C_GlimError) = some true
section
variable {P : Program} {w : World} {K : PySem.W.Frag} {mg : Str → Option Value} {base : Heap} {C_GlimError C_BadRound C_BadText C_TooLong : Addr}
theorem okx_BadRound (T : Txt K mg C_GlimError C_BadRound C_BadText C_TooLong) : OKx P w K mg base "BadRound" "number" C_BadRound := by
  obtain ⟨fI, fd, h1, h2, F, hb⟩ := T.i_BadRound
  exact ⟨T.c_BadRound, T.o_BadRound, T.nf_BadRound, fI, fd, h1, h2, ini_ok F sc_BadRound T.o_BadRound T.nf_BadRound (fun cdv A outer s H E => (pss_one (ps_ost (pv 0) (pv 1)))), hb⟩
theorem okx_BadText (T : Txt K mg C_GlimError C_BadRound C_BadText C_TooLong) : OKx P w K mg base "BadText" "at" C_BadText := by
  obtain ⟨fI, fd, h1, h2, F, hb⟩ := T.i_BadText
  exact ⟨T.c_BadText, T.o_BadText, T.nf_BadText, fI, fd, h1, h2, ini_ok F sc_BadText T.o_BadText T.nf_BadText (fun cdv A outer s H E => (pss_one (ps_ost (pv 0) (pv 1)))), hb⟩
theorem okx_TooLong (T : Txt K mg C_GlimError C_BadRound C_BadText C_TooLong) : OKx P w K mg base "TooLong" "number" C_TooLong := by
  obtain ⟨fI, fd, h1, h2, F, hb⟩ := T.i_TooLong
  exact ⟨T.c_TooLong, T.o_TooLong, T.nf_TooLong, fI, fd, h1, h2, ini_ok F sc_TooLong T.o_TooLong T.nf_TooLong (fun cdv A outer s H E => (pss_one (ps_ost (pv 0) (pv 1)))), hb⟩
end
end K06
namespace K06
open PySem PySem.Spec PyProof.Rows L2 Fg
local macro_rules | `(tactic| walk_at "sq") => `(tactic| first
  | assumption
  | exact .inl (.inl (by assumption))
  | exact .inl (.inl upd_same))
local macro_rules | `(tactic| walk_at "st") => `(tactic| first
  | assumption
  | exact .inl (.inl (by assumption))
  | exact .inl (.inl upd_same))
local macro_rules | `(tactic| walk_at "o") => `(tactic| first
  | omega
  | assumption
  | (simp only [List.length_append, List.length_take, List.length_drop, List.length_cons, List.length_nil, List.length_singleton, List.length_map, List.length_range, Int.toNat_natCast] ; omega))
local macro_rules | `(tactic| walk_at "s") => `(tactic| first
  | (with_reducible refine i_seq ?_)
  | (with_reducible refine i_asg ?_)
  | ((with_reducible refine' i_var ?h1 ?_); (case h1 => rfl))
  | (with_reducible refine i_c ?_)
  | ((with_reducible refine' i_gname' ?h1 ?_); (case h1 => (simp only [List.set_cons_zero, List.set_cons_succ]; rfl)))
  | (with_reducible refine i_op ?_)
  | (with_reducible refine i_ifS ?_)
  | (with_reducible refine i_for ?_)
  | (with_reducible refine i_test ?_)
  | (with_reducible refine i_B ?_)
  | (with_reducible refine i_exbl ?_)
  | (with_reducible refine i_exint ?_)
  | (with_reducible refine i_cb ?_)
  | (with_reducible refine i_nil ?_)
  | (with_reducible refine i_cons ?_)
  | (with_reducible refine i_ret ?_)
  | (with_reducible refine i_sl ?_)
  | (with_reducible refine i_nopart ?_)
  | (with_reducible refine i_part ?_)
  | (with_reducible refine i_add_int ?_)
  | (with_reducible refine i_sub ?_)
  | (with_reducible refine i_lt ?_)
  | ((with_reducible refine' i_mod ?h1 ?_); (case h1 => walk_at "o"))
  | ((with_reducible refine' i_fdiv ?h1 ?_); (case h1 => (refine cdiv_small ?_ ?_ <;> walk_at "o")))
  | ((with_reducible refine' i_sl_to ?h1 ?h2 ?_); (case h1 => walk_at "o"); (case h2 => walk_at "o"))
  | ((with_reducible refine' i_sl_from ?h1 ?h2 ?_); (case h1 => walk_at "o"); (case h2 => walk_at "o"))
  | ((with_reducible refine' i_add_str ?h1 ?_); (case h1 => walk_at "o"))
  | ((with_reducible refine' i_mul_int ?h1 ?_); (case h1 => first | (refine mul_small ?_ ?_ <;> walk_at "o") | (refine mul_smallR ?_ ?_ <;> walk_at "o")))
  | (with_reducible refine i_le ?_)
  | (with_reducible refine i_gt ?_)
  | (with_reducible refine i_ge ?_)
  | (with_reducible refine i_eq_int ?_)
  | (with_reducible refine i_eq_str ?_)
  | (with_reducible refine i_ne_int ?_)
  | (with_reducible refine i_ne_str ?_)
  | (with_reducible refine i_eq_bl ?_)
  | (with_reducible refine i_ne_bl ?_)
  | (with_reducible refine i_in_sg ?_)
  | (with_reducible refine i_notIn_sg ?_)
  | (with_reducible refine i_call ?_)
  | (with_reducible refine i_callS ?_)
  | (with_reducible refine i_sp1 ?_)
  | (with_reducible refine i_sp2 ?_)
  | (with_reducible refine i_sp3 ?_)
  | (with_reducible refine i_sp4 ?_)
  | (with_reducible refine i_sp1' ?_)
  | (with_reducible refine i_sp2' ?_)
  | (with_reducible refine i_sp3' ?_)
  | ((with_reducible refine' i_ix_lst ?h1 ?h2 ?_); (case h1 => walk_at "sq"); (case h2 => first | exact atI_nat rfl | rfl))
  | ((with_reducible refine' i_ix_tup ?h1 ?h2 ?_); (case h1 => walk_at "st"); (case h2 => first | exact atI_nat rfl | rfl))
  | (with_reducible refine i_gsub ?_)
  | (with_reducible refine i_par ?_)
  | (with_reducible refine i_lstRg1 ?_)
  | (with_reducible refine i_app ?_)
  | (with_reducible refine i_par2 ?_)
  | ((with_reducible refine' i_aug ?h1 ?_); (case h1 => rfl))
  | (with_reducible refine i_ipI ?_)
  | ((with_reducible refine' i_gtup2 ?h1 ?_); (case h1 => walk_at "st"))
  | (with_reducible refine i_int_bl ?_)
  | (with_reducible refine i_raise ?_)
  | (with_reducible refine i_mkE ?_)
  | (with_reducible refine i_ex1 ?_)
  | (with_reducible refine i_and ?_)
  | (with_reducible refine i_or ?_)
  | (with_reducible refine i_not ?_)
  | (with_reducible refine i_tt ?_)
  | (with_reducible refine i_ff ?_)
  | (with_reducible refine i_nott ?_)
  | (with_reducible refine i_notf ?_)
  | (with_reducible refine i_andV ?_)
  | (with_reducible refine i_orV ?_)
  | (with_reducible refine i_notV ?_)
  | (with_reducible refine i_ifE ?_)
  | (with_reducible refine i_tup ?_)
  | (with_reducible refine i_lst ?_)
  | (with_reducible refine i_un ?_)
  | (with_reducible refine i_neg ?_)
  | (with_reducible refine i_chain ?_)
  | (with_reducible refine i_next ?_)
  | (with_reducible refine i_retN ?_)
  | (with_reducible refine i_drop ?_)
  | (with_reducible refine i_int_int ?_)
  | (with_reducible refine i_abs ?_)
  | (with_reducible refine i_m1c ?_)
  | (with_reducible refine i_is_non ?_)
  | (with_reducible refine i_is_int ?_)
  | (with_reducible refine i_is_bl ?_)
  | (with_reducible refine i_isn_bl ?_)
  | (with_reducible refine i_is_str ?_)
  | (with_reducible refine i_is_ref ?_)
  | (with_reducible refine i_isn_non ?_)
  | (with_reducible refine i_isn_int ?_)
  | (with_reducible refine i_isn_str ?_)
  | (with_reducible refine i_isn_ref ?_)
  | (with_reducible refine i_len_str ?h1 ?_; (case h1 => walk_at "o"))
  | (with_reducible refine i_dget ?_)
  | (with_reducible refine i_tru ?_)
  | (with_reducible refine i_dput ?_)
  | (with_reducible refine i_dnotin ?_)
  | (with_reducible refine i_din ?_)
  | (with_reducible refine i_isi_int_int ?_) | (with_reducible refine i_isi_int_bool ?_) | (with_reducible refine i_isi_int_str ?_) | (with_reducible refine i_isi_int_tuple ?_) | (with_reducible refine i_isi_int_list ?_)
  | (with_reducible refine i_isi_bl_int ?_) | (with_reducible refine i_isi_bl_bool ?_) | (with_reducible refine i_isi_bl_str ?_) | (with_reducible refine i_isi_bl_tuple ?_) | (with_reducible refine i_isi_bl_list ?_)
  | (with_reducible refine i_isi_str_int ?_) | (with_reducible refine i_isi_str_bool ?_) | (with_reducible refine i_isi_str_str ?_) | (with_reducible refine i_isi_str_tuple ?_) | (with_reducible refine i_isi_str_list ?_)
  | (with_reducible refine i_isi_non_int ?_) | (with_reducible refine i_isi_non_bool ?_) | (with_reducible refine i_isi_non_str ?_) | (with_reducible refine i_isi_non_tuple ?_) | (with_reducible refine i_isi_non_list ?_))
local macro_rules | `(tactic| walk_at "go") => `(tactic| (repeat' (walk_at "s")))
local macro_rules | `(tactic| walk_at "n") => `(tactic| simp only [wipe, List.map_cons, List.map_nil, List.set_cons_zero, List.set_cons_succ])
/-! ### draws: the list at a holds a place in the script's cells (at c) and what is left of a great one -/
structure Dd where
  a : Addr
  c : Addr
  ns : List Int
/-- H0: what is known besides -/
def Dr (K : PySem.W.Frag) (d : Dd) (H0 H : Hp) : Prop := Same H0 H ∧ H0 d.a = none ∧ SqL K H0 d.c (d.ns.map V.int) ∧ d.ns.length ≤ 100 ∧ ∃ p b u x s : Int, H d.a = some (.lst [.ref d.c, .int p, .int b, .int u, .int x, .int s]) ∧ 0 ≤ p
section
variable {K : PySem.W.Frag} {d : Dd} {H0 H H' H1 : Hp} {q : Addr} {o o' : HO}
theorem Dr.same (h : Dr K d H0 H) (s : Same H H') : Dr K d H0 H' := by
  obtain ⟨s0, n0, hc, hl, p, b, u, x, sd, ha, hp⟩ := h
  exact ⟨s0.trans s, n0, hc, hl, p, b, u, x, sd, s _ _ ha, hp⟩
theorem Dr.new (h : Dr K d H0 H) (n : H q = none) : Dr K d (upd H0 q o) (upd H q o) := by
  obtain ⟨s0, n0, hc, hl, p, b, u, x, sd, ha, hp⟩ := h
  have nq : d.a ≠ q := ne_of_none ha n
  have s1 : Same H0 (upd H0 q o) := same_upd (s0.free n)
  refine ⟨fun b' o' e => ?_, by rw [upd_ne nq]; exact n0, s1.seq hc, hl, p, b, u, x, sd, by rw [upd_ne nq]; exact ha, hp⟩
  by_cases hb : b' = q
  · rw [hb, upd_same] at e
    rw [hb, upd_same]; exact e
  · rw [upd_ne hb] at e
    rw [upd_ne hb]; exact s0 _ _ e
/-- an object that is known changes -/
theorem Dr.put (h : Dr K d (upd H0 q o) H) (hc : SqL K H0 d.c (d.ns.map V.int)) (n : H0 q = none) : Dr K d (upd H0 q o') (upd H q o') := by
  obtain ⟨s0, n0, _, hl, p, b, u, x, sd, ha, hp⟩ := h
  have nq : d.a ≠ q := fun z => by rw [z, upd_same] at n0; cases n0
  have s1 : Same H0 (upd H0 q o') := same_upd n
  rw [upd_ne nq] at n0
  refine ⟨fun b' o' e => ?_, by rw [upd_ne nq]; exact n0, s1.seq hc, hl, p, b, u, x, sd, by rw [upd_ne nq]; exact ha, hp⟩
  by_cases hb : b' = q
  · rw [hb, upd_same] at e
    rw [hb, upd_same]; exact e
  · rw [upd_ne hb] at e
    rw [upd_ne hb]; exact s0 _ _ (by rw [upd_ne hb]; exact e)
/-- more, or less, is known -/
theorem Dr.know (h : Dr K d H0 H) (s0 : Same H0 H1) (s1 : Same H1 H) (n : H1 d.a = none) : Dr K d H1 H := by
  obtain ⟨_, n0, hc, hl, p, b, u, x, sd, ha, hp⟩ := h
  exact ⟨s1, n, s0.seq hc, hl, p, b, u, x, sd, ha, hp⟩
theorem Dr.less (h : Dr K d (upd H0 q o) H) (hc : SqL K H0 d.c (d.ns.map V.int)) (n : H0 q = none) : Dr K d H0 H := by
  obtain ⟨s0, n0, _, hl, p, b, u, x, sd, ha, hp⟩ := h
  have nq : d.a ≠ q := fun z => by rw [z, upd_same] at n0; cases n0
  rw [upd_ne nq] at n0
  exact ⟨(same_upd n).trans s0, n0, hc, hl, p, b, u, x, sd, ha, hp⟩
theorem Dr.old (h : Dr K d H0 H) (e : H0 q = some o) : H q = some o := h.1 _ _ e
theorem Dr.cells (h : Dr K d H0 H) : SqL K H0 d.c (d.ns.map V.int) := h.2.2.1
theorem Dr.free (h : Dr K d H0 H) (n : H q = none) : H0 q = none := h.1.free n
/-- what a call that leaves all as it was hands back new -/
theorem Dr.got (h : Dr K d H0 H) (n : H q = none) (s : Same H H') (e : H' q = some o) : Dr K d (upd H0 q o) H' := by
  obtain ⟨s0, n0, hc, hl, p, b, u, x, sd, ha, hp⟩ := h
  have nq : d.a ≠ q := ne_of_none ha n
  have s1 : Same H0 (upd H0 q o) := same_upd (s0.free n)
  refine ⟨fun b' o' e' => ?_, by rw [upd_ne nq]; exact n0, s1.seq hc, hl, p, b, u, x, sd, s _ _ ha, hp⟩
  by_cases hb : b' = q
  · rw [hb, upd_same] at e'
    rw [hb, e]; exact e'
  · rw [upd_ne hb] at e'
    exact s _ _ (s0 _ _ e')
end
theorem range_getD (xs : List V) : (List.range xs.length).map (fun i => xs.getD i .non) = xs := by
  refine List.ext_getElem? fun i => ?_
  rw [List.getElem?_map]
  by_cases h : i < xs.length
  · rw [List.getElem?_range h, Option.map_some, List.getD_eq_getElem?_getD, List.getElem?_eq_getElem h]
    rfl
  · rw [List.getElem?_eq_none (by simpa using h), List.getElem?_eq_none (by omega)]
    rfl
def Btw (n many : Int) : Prop := 0 ≤ n ∧ (2 ≤ many → n < many) ∧ (many < 2 → n = 0)
section
variable {P : Program} {w : World} {K : PySem.W.Frag} {mg : Str → Option Value} {base : Heap} {C_GlimError C_BadRound C_BadText C_TooLong : Addr}
def p_L_draw (K : PySem.W.Frag) : P1 := fun v H Q _ => ∃ (a0 : Addr) (ns : List Int), v = .ref a0 ∧ SqL K H a0 (ns.map V.int) ∧ ns.length ≤ 100 ∧ ∀ H0 d H', Same H H0 → Dr K d H0 H' → Q (.ref d.a) H'
theorem ok_L_draw (T : Txt K mg C_GlimError C_BadRound C_BadText C_TooLong) : OK P w K mg base CX0 1 "_law_draw" ["_law_script"] (sp1  (p_L_draw K)) := by
  refine OK.mk (k := 0) T.d_L_draw sc_L_draw len1 fun f cdv A outer s H vs Q E hr h => ?_
  obtain ⟨x, rfl, h⟩ := h
  refine ⟨_, (pss_cons (ps_setLc (i := 1) (own := [("_law_cell", 2)]) (g := gName 2) (tt := tYes) (by rfl) sc_L_draw.nd rfl rfl (sw_true rfl rfl rfl (by decide +kernel)) (piAny K (pv 0)) (blkOk_by (own := [("_law_cell", 2)]) (N := ["_law_script", "_law_cells", "_law_cell"]) (sc := (defScope s_L_draw)) (by decide +kernel)) (fun _ _ _ _ _ => (pg_name (i := 2) sc_L_draw.nd rfl (Or.inl rfl))) (fun _ _ _ _ _ => pts_nil) (fun _ _ _ _ _ => (pv 2))) (pss_one (ps_ret (pe_lst (pa_cons (pv 1) (pa_cons pe_int (pa_cons pe_int (pa_cons pe_int (pa_cons pe_int (pa_cons (pe_op (opAdd K) (pe_op op_modP (pe_callTy call_intP (by rfl) T.b_int (by decide +kernel) (pa_cons (pe_callB (cSum K rfl) (by rfl) T.b_sum (by decide +kernel) (pa_cons (pv 1) pa_nil)) pa_nil)) pe_int) (pe_op op_mulP pe_int (pe_callB (cLen K) (by rfl) T.b_len (by decide +kernel) (pa_cons (pv 1) pa_nil)))) pa_nil)))))))))), ?_⟩
  show (_ : TS) { nx := fun _ H' => Q .non H', rt := Q } [some x, none, none] H
  obtain ⟨a0, ns, rfl, hS, hl, q⟩ := h
  walk_at "go"
  refine c_lst (xs := ns.map V.int) (fun R k => by walk_at "go"; exact k) hS (by rw [List.length_map]; omega) (fun _ => true) (fun i => (ns.map V.int).getD i .non) (fun _ => rfl) (fun i v H2 hi s2 QB k => k H2 (Same.refl H2)) (fun i v H2 hi s2 _ QV k => ?_) (fun Dl H2 n2 s2 d2 => ?_)
  · show (_ : TE) [some (.ref a0), none, some v] H2 QV
    walk_at "go"
    have e : v = (ns.map V.int).getD i .non := by rw [List.getD_eq_getElem?_getD, hi]; rfl
    rw [e]
    exact k H2 (Same.refl H2)
  · rw [kept_all, range_getD] at d2
    walk_at "go"
    refine i_sum (ns := ns) (.inl (.inl d2)) ?_
    walk_at "go"
    refine i_len_lst (.inl (.inl d2)) ?_
    walk_at "go"
    refine i_new (by show 6 ≤ 100000; omega) fun a na => ?_
    walk_at "go"
    exact q H2 ⟨a, Dl, ns⟩ _ s2 ⟨same_upd na, na, .inl (.inl d2), hl, _, _, _, _, _, upd_same, Int.le_refl _⟩
def p_L_mix : P2 := fun x y H Q _ => ∃ a b : Int, x = .int a ∧ y = .int b ∧ ∀ r : Int, Q (.int r) H
theorem ok_L_mix (T : Txt K mg C_GlimError C_BadRound C_BadText C_TooLong) : OK P w K mg base CX0 1 "_law_mix" ["_law_cell", "_law_turn"] (sp2  p_L_mix) := by
  refine OK.mk (k := 0) T.d_L_mix sc_L_mix len2 fun f cdv A outer s H vs Q E hr h => ?_
  obtain ⟨x, y, rfl, h⟩ := h
  refine ⟨_, (pss_cons (ps_set (i := 2) sc_L_mix.nd rfl (Or.inl rfl) (pe_op op_modP (pe_callTy call_intP (by rfl) T.b_int (by decide +kernel) (pa_cons (pe_op (opAdd K) (pe_op (opAdd K) (pe_op op_mulP (pv 0) pe_int) (pe_op op_mulP (pv 1) pe_int)) pe_int) pa_nil)) pe_int)) (pss_cons (ps_set (i := 3) sc_L_mix.nd rfl (Or.inl rfl) (pe_op op_modP (pe_callTy call_intP (by rfl) T.b_int (by decide +kernel) (pa_cons (pe_op (opAdd K) (pe_op (opAdd K) (pe_op op_mulP (pv 2) (pv 2)) (pe_op op_mulP (pv 1) pe_int)) (pv 0)) pa_nil)) pe_int)) (pss_cons (ps_set (i := 3) sc_L_mix.nd rfl (Or.inl rfl) (pe_op op_modP (pe_callTy call_intP (by rfl) T.b_int (by decide +kernel) (pa_cons (pe_op (opAdd K) (pe_op op_mulP (pv 3) (pv 3)) (pv 2)) pa_nil)) pe_int)) (pss_one (ps_ret (pe_op op_fdivP (pv 3) pe_int)))))), ?_⟩
  show (_ : TS) { nx := fun _ H' => Q .non H', rt := Q } [some x, some y, none, none] H
  obtain ⟨c, t, rfl, rfl, q⟩ := h
  walk_at "go"
  have h1 : 0 ≤ (c * 48271 + t * 69621 + 12345) % 2147483647 := Int.emod_nonneg _ (by decide)
  have h2 : (c * 48271 + t * 69621 + 12345) % 2147483647 < 2147483647 := Int.emod_lt_of_pos _ (by decide)
  generalize (c * 48271 + t * 69621 + 12345) % 2147483647 = o at *
  walk_at "go"
  have h3 : 0 ≤ (o * o + t * 7919 + c) % 998244353 := Int.emod_nonneg _ (by decide)
  have h4 : (o * o + t * 7919 + c) % 998244353 < 998244353 := Int.emod_lt_of_pos _ (by decide)
  generalize (o * o + t * 7919 + c) % 998244353 = o2 at *
  walk_at "go"
  exact q _
/-- a number from 0 to less than so many; the draws go on -/
def p_L_pick (K : PySem.W.Frag) : P2 := fun x y H Q _ => ∃ (H0 : Hp) (d : Dd) (many : Int), x = .ref d.a ∧ y = .int many ∧ Dr K d H0 H ∧ many ≤ 10000000000000000000000000000000000000000 ∧ ∀ (n : Int) H', Dr K d H0 H' → Btw n many → Q (.int n) H'
theorem wide_many {b many : Int} (h : 0 < many) (h2 : many ≤ 10000000000000000000000000000000000000000) : CDivW b many := by
  refine wide_div (b := 140) h ?_ (by decide) (by decide)
  have e : (2 : Nat) ^ 140 = 1393796574908163946345982392040522594123776 := by decide +kernel
  rw [e]
  omega
theorem ok_L_pick (T : Txt K mg C_GlimError C_BadRound C_BadText C_TooLong) : OK P w K mg base CX0 2 "_law_pick" ["_law_draw_here", "_law_many"] (sp2  (p_L_pick K)) := by
  refine OK.mk (k := 1) T.d_L_pick sc_L_pick len2 fun f cdv A outer s H vs Q E hr h => ?_
  obtain ⟨x, y, rfl, h⟩ := h
  refine ⟨_, (pss_cons (ps_if (pt_cmpR op_ltP (pv 1) pe_int (nomark _)) (pss_one (ps_ret pe_int)) pss_nil) (Evl.pss_cut (ps_if (pw_and (pt_cmpR (opEq K hr.units) (pe_ix (ixK K) (pv 0) pe_int (fun _ _ => rfl)) pe_int (nomark _)) (pw_and (pt_cmpR op_ltP (pe_ix (ixK K) (pv 0) pe_int (fun _ _ => rfl)) (pe_callB (cLen K) (by rfl) T.b_len (by decide +kernel) (pa_cons (pe_ix (ixK K) (pv 0) pe_int (fun _ _ => rfl)) pa_nil)) (nomark _)) (pw_and1 (pt_cmpR (opEq K hr.units) (pe_ix (ixK K) (pv 0) pe_int (fun _ _ => rfl)) pe_int (nomark _))))).pt (pss_cons (ps_set (i := 2) sc_L_pick.nd rfl (Or.inl rfl) (pe_ix (ixK K) (pe_ix (ixK K) (pv 0) pe_int (fun _ _ => rfl)) (pe_ix (ixK K) (pv 0) pe_int (fun _ _ => rfl)) (fun _ _ => rfl))) (pss_one (ps_if (pw_or (pt_cmpR op_geP (pv 2) (pe_op op_powP pe_int pe_int) (nomark _)) (pw_or1 (pt_cmpR op_leP (pv 2) (pe_un un_neg (pe_op op_powP pe_int pe_int)) (nomark _)))).pt (pss_cons (ps_asg (pe_op op_modP (pe_callTy call_intP (by rfl) T.b_int (by decide +kernel) (pa_cons (pe_callB call_absP (by rfl) T.b_abs (by decide +kernel) (pa_cons (pv 2) pa_nil)) pa_nil)) (pe_op op_powP (pe_op op_powP pe_int pe_int) pe_int)) (pg_sub (pv 0) pe_int set_list)) (pss_one (ps_asg (pe_op (opAdd K) (pe_ix (ixK K) (pv 0) pe_int (fun _ _ => rfl)) pe_int) (pg_sub (pv 0) pe_int set_list)))) pss_nil))) pss_nil) (pss_cons (ps_if (pt_cmpR op_gtP (pe_ix (ixK K) (pv 0) pe_int (fun _ _ => rfl)) pe_int (nomark _)) (pss_cons (ps_set (i := 3) sc_L_pick.nd rfl (Or.inl rfl) (pe_op op_modP (pe_callTy call_intP (by rfl) T.b_int (by decide +kernel) (pa_cons (pe_ix (ixK K) (pv 0) pe_int (fun _ _ => rfl)) pa_nil)) (pv 1))) (pss_cons (ps_asg (pe_op op_fdivP (pe_ix (ixK K) (pv 0) pe_int (fun _ _ => rfl)) (pv 1)) (pg_sub (pv 0) pe_int set_list)) (pss_one (ps_ret (pv 3))))) pss_nil) (pss_cons (ps_if (pt_cmpR op_ltP (pe_ix (ixK K) (pv 0) pe_int (fun _ _ => rfl)) (pe_callB (cLen K) (by rfl) T.b_len (by decide +kernel) (pa_cons (pe_ix (ixK K) (pv 0) pe_int (fun _ _ => rfl)) pa_nil)) (nomark _)) (pss_cons (ps_set (i := 2) sc_L_pick.nd rfl (Or.inl rfl) (pe_ix (ixK K) (pe_ix (ixK K) (pv 0) pe_int (fun _ _ => rfl)) (pe_ix (ixK K) (pv 0) pe_int (fun _ _ => rfl)) (fun _ _ => rfl))) (pss_cons (ps_asg (pe_op (opAdd K) (pe_ix (ixK K) (pv 0) pe_int (fun _ _ => rfl)) pe_int) (pg_sub (pv 0) pe_int set_list)) (pss_cons (ps_set (i := 4) sc_L_pick.nd rfl (Or.inl rfl) (pe_op op_modP (pe_callTy call_intP (by rfl) T.b_int (by decide +kernel) (pa_cons (pe_f (ok_L_mix (K := K) T) (hr.mono (by decide)) pass0 (pa_cons (pe_op (opAdd K) (pv 2) (pe_op op_mulP pe_int (pe_ix (ixK K) (pv 0) pe_int (fun _ _ => rfl)))) (pa_cons (pe_ix (ixK K) (pv 0) pe_int (fun _ _ => rfl)) pa_nil))) pa_nil)) (pv 1))) (Evl.pss_cut (ps_if (pt_cmpR (opEq K hr.units) (pe_ix (ixK K) (pv 0) pe_int (fun _ _ => rfl)) pe_int (nomark _)) (pss_cons (ps_asg pe_int (pg_sub (pv 0) pe_int set_list)) (pss_one (ps_asg (pe_op (opAdd K) (pe_ix (ixK K) (pv 0) pe_int (fun _ _ => rfl)) pe_int) (pg_sub (pv 0) pe_int set_list)))) pss_nil) (pss_one (ps_ret (pv 4))))))) pss_nil) (pss_cons (ps_asg (pe_op (opAdd K) (pe_ix (ixK K) (pv 0) pe_int (fun _ _ => rfl)) pe_int) (pg_sub (pv 0) pe_int set_list)) (pss_one (ps_ret (pe_op op_modP (pe_callTy call_intP (by rfl) T.b_int (by decide +kernel) (pa_cons (pe_f (ok_L_mix (K := K) T) (hr.mono (by decide)) pass0 (pa_cons (pe_ix (ixK K) (pv 0) pe_int (fun _ _ => rfl)) (pa_cons (pe_op (opAdd K) (pe_ix (ixK K) (pv 0) pe_int (fun _ _ => rfl)) pe_int) pa_nil))) pa_nil)) (pv 1))))))))), ?_⟩
  show (_ : TS) { nx := fun _ H' => Q .non H', rt := Q } [some x, some y, none, none, none] H
  obtain ⟨H0, d, many, rfl, rfl, dr, hmax, q⟩ := h
  walk_at "go"
  refine i_dec (fun e => ?_) (fun e => ?_)
  · walk_at "go"
    exact q 0 H dr ⟨Int.le_refl _, fun z => by omega, fun _ => rfl⟩
  walk_at "go"
  have hpos : 0 < many := by omega
  -- a great cell is taken up
  refine i_cut (fun σ H' => ∃ v2 v3 v4, σ = [some (.ref d.a), some (.int many), v2, v3, v4] ∧ Dr K d H0 H') ?_ ?_
  · obtain ⟨a, c, ns⟩ := d
    obtain ⟨s0, n0, hC, hl, p, b, u, x, sd, hA, hp⟩ := id dr
    dsimp only at *
    have hC' : SqL K H c (ns.map V.int) := s0.seq hC
    have skip : ∃ v2 v3 v4, ([some (.ref a), some (.int many), none, none, none] : L2.St) = [some (.ref a), some (.int many), v2, v3, v4] ∧ Dr K ⟨a, c, ns⟩ H0 H := ⟨_, _, _, rfl, dr⟩
    walk_at "go"
    refine i_dec (fun e1 => ?_) (fun e1 => skip)
    walk_at "go"
    refine i_len_lst hC' ?_
    walk_at "go"
    refine i_dec (fun e2 => ?_) (fun e2 => skip)
    walk_at "go"
    refine i_dec (fun e3 => ?_) (fun e3 => skip)
    walk_at "go"
    rw [List.length_map] at e2
    have hpl : p.toNat < ns.length := by omega
    refine i_ix_lst (v := .int ns[p.toNat]) hC' (atI_int hp (by rw [List.getElem?_map, List.getElem?_eq_getElem hpl]; rfl)) ?_
    walk_at "go"
    refine i_pow (by decide +kernel) ?_
    walk_at "go"
    have fin : ∃ v2 v3 v4, ([some (.ref a), some (.int many), some (.int ns[p.toNat]), none, none] : L2.St) = [some (.ref a), some (.int many), v2, v3, v4] ∧ Dr K ⟨a, c, ns⟩ H0 H := ⟨_, _, _, rfl, dr⟩
    refine i_dec (fun e4 => ?_) (fun e4 => ?_)
    case' refine_2 =>
      walk_at "go"
      refine i_pow (by decide +kernel) ?_
      walk_at "go"
      refine i_dec (fun e5 => ?_) (fun e5 => fin)
    all_goals
      walk_at "go"
      refine i_pow (by decide +kernel) ?_
      walk_at "go"
      refine i_pow (by decide +kernel) ?_
      walk_at "go"
      refine i_mod (by decide +kernel) ?_
      walk_at "go"
      refine i_setL 2 hA rfl rfl ?_
      walk_at "go"
      refine i_setL 1 upd_same rfl rfl ?_
      walk_at "go"
      rw [upd_upd]
      exact ⟨_, _, _, rfl, Same.upd s0 n0, n0, hC, hl, _, _, _, _, _, upd_same, by omega⟩
  · rintro σ H1 ⟨v2, v3, v4, rfl, d1⟩
    obtain ⟨a, c, ns⟩ := d
    obtain ⟨s0, n0, hC, hl, p, b, u, x, sd, hA, hp⟩ := id d1
    dsimp only at *
    have hC' : SqL K H1 c (ns.map V.int) := s0.seq hC
    have put : ∀ {p' b' u' x' s' : Int}, 0 ≤ p' → Dr K ⟨a, c, ns⟩ H0 (upd H1 a (.lst [.ref c, .int p', .int b', .int u', .int x', .int s'])) := fun h => ⟨Same.upd s0 n0, n0, hC, hl, _, _, _, _, _, upd_same, h⟩
    have btw : ∀ r : Int, Btw (r % many) many := fun r => ⟨Int.emod_nonneg _ (by omega), fun _ => Int.emod_lt_of_pos _ hpos, fun z => by omega⟩
    walk_at "go"
    refine i_dec (fun e1 => ?_) (fun e1 => ?_)
    · -- a digit of the great one
      walk_at "go"
      refine i_fdiv (wide_many hpos hmax) ?_
      walk_at "go"
      refine i_setL 2 hA rfl rfl ?_
      walk_at "go"
      exact q _ _ (put hp) (btw _)
    walk_at "go"
    refine i_len_lst hC' ?_
    walk_at "go"
    rw [List.length_map]
    refine i_dec (fun e2 => ?_) (fun e2 => ?_)
    · have hpl : p.toNat < ns.length := by omega
      walk_at "go"
      refine i_ix_lst (v := .int ns[p.toNat]) hC' (atI_int hp (by rw [List.getElem?_map, List.getElem?_eq_getElem hpl]; rfl)) ?_
      walk_at "go"
      refine i_setL 3 hA rfl rfl ?_
      walk_at "go"
      refine ⟨_, _, rfl, rfl, fun r => ?_⟩
      walk_at "go"
      refine i_cut (fun σ H' => ∃ v3, σ = [some (.ref a), some (.int many), some (.int ns[p.toNat]), v3, some (.int (r % many))] ∧ Dr K ⟨a, c, ns⟩ H0 H') ?_ ?_
      · walk_at "go"
        refine i_dec (fun e3 => ?_) (fun e3 => ⟨_, rfl, put hp⟩)
        walk_at "go"
        refine i_setL 3 upd_same rfl rfl ?_
        walk_at "go"
        refine i_setL 1 upd_same rfl rfl ?_
        walk_at "go"
        rw [upd_upd, upd_upd]
        exact ⟨_, rfl, put (by omega)⟩
      · rintro σ H2 ⟨v3, rfl, d2⟩
        walk_at "go"
        exact q _ _ d2 (btw _)
    · walk_at "go"
      refine i_setL 4 hA rfl rfl ?_
      walk_at "go"
      refine ⟨_, _, rfl, rfl, fun r => ?_⟩
      walk_at "go"
      exact q _ _ (put hp) (btw _)
end
end K06
namespace K06
open PySem PySem.Spec PyProof.Rows L2 Fg
local macro_rules | `(tactic| walk_at "sq") => `(tactic| first
  | assumption
  | exact .inl (.inl (by assumption))
  | exact .inl (.inl upd_same))
local macro_rules | `(tactic| walk_at "st") => `(tactic| first
  | assumption
  | exact .inl (.inl (by assumption))
  | exact .inl (.inl upd_same))
local macro_rules | `(tactic| walk_at "o") => `(tactic| first
  | omega
  | assumption
  | (simp only [List.length_append, List.length_take, List.length_drop, List.length_cons, List.length_nil, List.length_singleton, List.length_map, List.length_range, Int.toNat_natCast] ; omega))
local macro_rules | `(tactic| walk_at "s") => `(tactic| first
  | (with_reducible refine i_seq ?_)
  | (with_reducible refine i_asg ?_)
  | ((with_reducible refine' i_var ?h1 ?_); (case h1 => rfl))
  | (with_reducible refine i_c ?_)
  | ((with_reducible refine' i_gname' ?h1 ?_); (case h1 => (simp only [List.set_cons_zero, List.set_cons_succ]; rfl)))
  | (with_reducible refine i_op ?_)
  | (with_reducible refine i_ifS ?_)
  | (with_reducible refine i_for ?_)
  | (with_reducible refine i_test ?_)
  | (with_reducible refine i_B ?_)
  | (with_reducible refine i_exbl ?_)
  | (with_reducible refine i_exint ?_)
  | (with_reducible refine i_cb ?_)
  | (with_reducible refine i_nil ?_)
  | (with_reducible refine i_cons ?_)
  | (with_reducible refine i_ret ?_)
  | (with_reducible refine i_sl ?_)
  | (with_reducible refine i_nopart ?_)
  | (with_reducible refine i_part ?_)
  | (with_reducible refine i_add_int ?_)
  | (with_reducible refine i_sub ?_)
  | (with_reducible refine i_lt ?_)
  | ((with_reducible refine' i_mod ?h1 ?_); (case h1 => walk_at "o"))
  | ((with_reducible refine' i_fdiv ?h1 ?_); (case h1 => (refine cdiv_small ?_ ?_ <;> walk_at "o")))
  | ((with_reducible refine' i_sl_to ?h1 ?h2 ?_); (case h1 => walk_at "o"); (case h2 => walk_at "o"))
  | ((with_reducible refine' i_sl_from ?h1 ?h2 ?_); (case h1 => walk_at "o"); (case h2 => walk_at "o"))
  | ((with_reducible refine' i_add_str ?h1 ?_); (case h1 => walk_at "o"))
  | ((with_reducible refine' i_mul_int ?h1 ?_); (case h1 => first | (refine mul_small ?_ ?_ <;> walk_at "o") | (refine mul_smallR ?_ ?_ <;> walk_at "o")))
  | (with_reducible refine i_le ?_)
  | (with_reducible refine i_gt ?_)
  | (with_reducible refine i_ge ?_)
  | (with_reducible refine i_eq_int ?_)
  | (with_reducible refine i_eq_str ?_)
  | (with_reducible refine i_ne_int ?_)
  | (with_reducible refine i_ne_str ?_)
  | (with_reducible refine i_eq_bl ?_)
  | (with_reducible refine i_ne_bl ?_)
  | (with_reducible refine i_in_sg ?_)
  | (with_reducible refine i_notIn_sg ?_)
  | (with_reducible refine i_call ?_)
  | (with_reducible refine i_callS ?_)
  | (with_reducible refine i_sp1 ?_)
  | (with_reducible refine i_sp2 ?_)
  | (with_reducible refine i_sp3 ?_)
  | (with_reducible refine i_sp4 ?_)
  | (with_reducible refine i_sp1' ?_)
  | (with_reducible refine i_sp2' ?_)
  | (with_reducible refine i_sp3' ?_)
  | ((with_reducible refine' i_ix_lst ?h1 ?h2 ?_); (case h1 => walk_at "sq"); (case h2 => first | exact atI_nat rfl | rfl))
  | ((with_reducible refine' i_ix_tup ?h1 ?h2 ?_); (case h1 => walk_at "st"); (case h2 => first | exact atI_nat rfl | rfl))
  | (with_reducible refine i_gsub ?_)
  | (with_reducible refine i_par ?_)
  | (with_reducible refine i_lstRg1 ?_)
  | (with_reducible refine i_app ?_)
  | (with_reducible refine i_par2 ?_)
  | ((with_reducible refine' i_aug ?h1 ?_); (case h1 => rfl))
  | (with_reducible refine i_ipI ?_)
  | ((with_reducible refine' i_gtup2 ?h1 ?_); (case h1 => walk_at "st"))
  | (with_reducible refine i_int_bl ?_)
  | (with_reducible refine i_raise ?_)
  | (with_reducible refine i_mkE ?_)
  | (with_reducible refine i_ex1 ?_)
  | (with_reducible refine i_and ?_)
  | (with_reducible refine i_or ?_)
  | (with_reducible refine i_not ?_)
  | (with_reducible refine i_tt ?_)
  | (with_reducible refine i_ff ?_)
  | (with_reducible refine i_nott ?_)
  | (with_reducible refine i_notf ?_)
  | (with_reducible refine i_andV ?_)
  | (with_reducible refine i_orV ?_)
  | (with_reducible refine i_notV ?_)
  | (with_reducible refine i_ifE ?_)
  | (with_reducible refine i_tup ?_)
  | (with_reducible refine i_lst ?_)
  | (with_reducible refine i_un ?_)
  | (with_reducible refine i_neg ?_)
  | (with_reducible refine i_chain ?_)
  | (with_reducible refine i_next ?_)
  | (with_reducible refine i_retN ?_)
  | (with_reducible refine i_drop ?_)
  | (with_reducible refine i_int_int ?_)
  | (with_reducible refine i_abs ?_)
  | (with_reducible refine i_m1c ?_)
  | (with_reducible refine i_is_non ?_)
  | (with_reducible refine i_is_int ?_)
  | (with_reducible refine i_is_bl ?_)
  | (with_reducible refine i_isn_bl ?_)
  | (with_reducible refine i_is_str ?_)
  | (with_reducible refine i_is_ref ?_)
  | (with_reducible refine i_isn_non ?_)
  | (with_reducible refine i_isn_int ?_)
  | (with_reducible refine i_isn_str ?_)
  | (with_reducible refine i_isn_ref ?_)
  | (with_reducible refine i_len_str ?h1 ?_; (case h1 => walk_at "o"))
  | (with_reducible refine i_dget ?_)
  | (with_reducible refine i_tru ?_)
  | (with_reducible refine i_dput ?_)
  | (with_reducible refine i_dnotin ?_)
  | (with_reducible refine i_din ?_)
  | (with_reducible refine i_isi_int_int ?_) | (with_reducible refine i_isi_int_bool ?_) | (with_reducible refine i_isi_int_str ?_) | (with_reducible refine i_isi_int_tuple ?_) | (with_reducible refine i_isi_int_list ?_)
  | (with_reducible refine i_isi_bl_int ?_) | (with_reducible refine i_isi_bl_bool ?_) | (with_reducible refine i_isi_bl_str ?_) | (with_reducible refine i_isi_bl_tuple ?_) | (with_reducible refine i_isi_bl_list ?_)
  | (with_reducible refine i_isi_str_int ?_) | (with_reducible refine i_isi_str_bool ?_) | (with_reducible refine i_isi_str_str ?_) | (with_reducible refine i_isi_str_tuple ?_) | (with_reducible refine i_isi_str_list ?_)
  | (with_reducible refine i_isi_non_int ?_) | (with_reducible refine i_isi_non_bool ?_) | (with_reducible refine i_isi_non_str ?_) | (with_reducible refine i_isi_non_tuple ?_) | (with_reducible refine i_isi_non_list ?_))
local macro_rules | `(tactic| walk_at "go") => `(tactic| (repeat' (walk_at "s")))
local macro_rules | `(tactic| walk_at "n") => `(tactic| simp only [wipe, List.map_cons, List.map_nil, List.set_cons_zero, List.set_cons_succ])
/-! ### comprehensions whose elements draw -/
section
variable {K : PySem.W.Frag} {σ : L2.St} {H H0 : Hp} {Q : VK} {te : TE} {ta : TA} {j : Nat} {vs : List Nat} {d : Dd}
theorem c_rngD (Pz : Int → Prop) (ha : ∀ R : List V → Hp → Prop, (∀ (z : Int) H1, Dr K d H0 H1 → Pz z → R [.int z] H1) → ta σ H R) (hz : ∀ z, Pz z → 0 ≤ z ∧ z ≤ 100000)
    (Pc : Nat → List V → Prop) (h0 : Pc 0 []) (hl : ∀ i acc, Pc i acc → acc.length ≤ 100000) (hw : ∀ x, wipe ((wipe σ vs).set j (some x)) vs = wipe σ vs)
    (he : ∀ (z : Int) (i : Nat) acc Hk H2, Pz z → (i : Int) < z → Pc i acc → Dr K d Hk H2 → ∀ QV : VK, (∀ y H3, Dr K d Hk H3 → Pc (i + 1) (acc ++ [y]) → QV y H3) → te ((wipe σ vs).set j (some (.int (i : Int)))) H2 QV)
    (q : ∀ (z : Int) Dl H3 acc, Pz z → H0 Dl = none → Pc z.toNat acc → Dr K d (upd H0 Dl (.lst acc)) H3 → Q (.ref Dl) H3) : tLc (iRng1 ta) (gName j) tYes te vs σ H Q := by
  refine ha _ fun z H1 dr pz => ⟨z, rfl, by have := hz z pz; omega, by have := hz z pz; omega, fun Dl nD => ?_⟩
  have n0 : H0 Dl = none := dr.free nD
  refine lc_range (fun i H' => ∃ acc, Pc i acc ∧ Dr K d (upd H0 Dl (.lst acc)) H') ⟨[], h0, dr.new nD⟩ (fun i H' hi p => ?_) (fun H' p => ?_)
  · obtain ⟨acc, pc, dr'⟩ := p
    rw [Int.zero_add]
    refine ⟨hw _, ?_⟩
    refine i_yes (i_tt ?_)
    refine he z i acc _ H' pz (by omega) pc dr' _ fun y H3 dr3 pc' => ⟨acc, dr3.old upd_same, Nat.lt_of_le_of_lt (hl i acc pc) (by decide), _, pc', dr3.put dr.cells n0⟩
  · obtain ⟨acc, pc, dr'⟩ := p
    exact q z Dl H' acc pz n0 pc dr'
end
section
variable {K : PySem.W.Frag} {σ : L2.St} {H H0 : Hp} {Q : VK} {te tl : TE} {j : Nat} {vs : List Nat} {d : Dd} {a : Addr} {xs : List V}
/-- a comprehension over a list that is known, whose elements draw -/
theorem c_lstD (dr : Dr K d H0 H) (hx : H0 a = some (.lst xs)) (ha : ∀ R : VK, R (.ref a) H → tl σ H R) (hn : xs.length ≤ 100000)
    (Pc : Nat → List V → Prop) (h0 : Pc 0 []) (hl : ∀ i acc, Pc i acc → acc.length ≤ 100000) (hw : ∀ x, wipe ((wipe σ vs).set j (some x)) vs = wipe σ vs)
    (he : ∀ (i : Nat) x acc Hk H2, xs[i]? = some x → Pc i acc → Dr K d Hk H2 → ∀ QV : VK, (∀ y H3, Dr K d Hk H3 → Pc (i + 1) (acc ++ [y]) → QV y H3) → te ((wipe σ vs).set j (some x)) H2 QV)
    (q : ∀ Dl H3 acc, H0 Dl = none → Pc xs.length acc → Dr K d (upd H0 Dl (.lst acc)) H3 → Q (.ref Dl) H3) : tLc (iAny K tl) (gName j) tYes te vs σ H Q := by
  refine ha _ (.inl ⟨a, xs, rfl, .inl (.inl (dr.old hx)), fun Dl nD => ?_⟩)
  have n0 : H0 Dl = none := dr.free nD
  have ne : a ≠ Dl := ne_of_none hx n0
  refine lc_list (xs := xs) (fun i H' => ∃ acc, Pc i acc ∧ Dr K d (upd H0 Dl (.lst acc)) H') ⟨[], h0, dr.new nD⟩ (fun i H' _ p => ?_) (fun i x H' hi p => ?_) (fun H' p => ?_)
  · obtain ⟨acc, _, dr'⟩ := p
    exact .inl (.inl (dr'.old ((upd_ne ne).trans hx)))
  · obtain ⟨acc, pc, dr'⟩ := p
    refine ⟨hw _, ?_⟩
    refine i_yes (i_tt ?_)
    refine he i x acc _ H' hi pc dr' _ fun y H3 dr3 pc' => ⟨acc, dr3.old upd_same, Nat.lt_of_le_of_lt (hl i acc pc) (by decide), _, pc', dr3.put dr.cells n0⟩
  · obtain ⟨acc, pc, dr'⟩ := p
    exact q Dl H' acc n0 pc dr'
end
section
variable {K : PySem.W.Frag} {d : Dd} {H0 H : Hp} {q : Addr} {o : HO}
theorem Dr.self (h : Dr K d H0 H) : ∃ o, H d.a = some o := by
  obtain ⟨s0, n0, hc, hl, p, b, u, x, sd, ha, hp⟩ := h
  exact ⟨_, ha⟩
theorem Dr.ne (h : Dr K d H0 H) (n : H q = none) : q ≠ d.a := fun z => by
  obtain ⟨o, e⟩ := h.self
  rw [← z, n] at e
  cases e
/-- what stands is known -/
theorem Dr.learn (h : Dr K d H0 H) (e : H q = some o) (ne : q ≠ d.a) : Dr K d (upd H0 q o) H := by
  obtain ⟨s0, n0, hc, hl, p, b, u, x, sd, ha, hp⟩ := h
  have s1 : Same H0 (upd H0 q o) := fun b' o' e' => by
    by_cases hb : b' = q
    · subst hb
      rw [upd_same]
      have := s0 _ _ e'
      rw [e] at this
      exact this
    · rw [upd_ne hb]; exact e'
  refine ⟨fun b' o' e' => ?_, by rw [upd_ne (Ne.symm ne)]; exact n0, s1.seq hc, hl, p, b, u, x, sd, ha, hp⟩
  by_cases hb : b' = q
  · subst hb
    rw [upd_same] at e'
    rw [e]; exact e'
  · rw [upd_ne hb] at e'
    exact s0 _ _ e'
end
/-- a new object, known or not -/
theorem Dr.skip {K : PySem.W.Frag} {d : Dd} {H0 H : Hp} {q : Addr} {o : HO} (h : Dr K d H0 H) (n : H q = none) : Dr K d H0 (upd H q o) := h.same (same_upd n)
theorem Dr.step {K : PySem.W.Frag} {d : Dd} {Hk H : Hp} {p : Addr} (o : HO) (h : Dr K d Hk H) (n : H p = none) : ∃ Hk', Same Hk Hk' ∧ Hk' p = some o ∧ Dr K d Hk' (upd H p o) := ⟨upd Hk p o, same_upd (h.free n), upd_same, h.new n⟩
theorem Dr.back {K : PySem.W.Frag} {d : Dd} {H0 H1 H H' : Hp} (h : Dr K d H1 H) (dr : Dr K d H0 H') (s : Same H0 H1) : Dr K d H0 H := by
  obtain ⟨s1, n1, hc1, hl, p, b, u, x, sd, ha, hp⟩ := h
  obtain ⟨s0, n0, hc, _⟩ := dr
  exact ⟨s.trans s1, n0, hc, hl, p, b, u, x, sd, ha, hp⟩
section
variable {P : Program} {w : World} {K : PySem.W.Frag} {mg : Str → Option Value} {base : Heap} {C_GlimError C_BadRound C_BadText C_TooLong : Addr}
/-- the kinds of values that laws show about -/
def Kn (H : Hp) (x : V) : Prop := (∃ l, x = S l) ∨ NoStr H x
def isI : V → Bool
  | .int _ => true
  | _ => false
def p_L_is_int : P1 := fun x H Q _ => Kn H x ∧ Q (.bl (isI x)) H
theorem ok_L_is_int (T : Txt K mg C_GlimError C_BadRound C_BadText C_TooLong) : OK P w K mg base CX0 1 "_law_is_int" ["_law_thing"] (sp1  p_L_is_int) := by
  refine OK.mk (k := 0) T.d_L_is_int sc_L_is_int len1 fun f cdv A outer s H vs Q E hr h => ?_
  obtain ⟨x, rfl, h⟩ := h
  refine ⟨_, (pss_one (ps_ret (pe_and (pe_callB (cIsi K) (by rfl) T.b_isinstance (by decide +kernel) (pa_cons (pv 0) (pa_cons (pe_bltn (v := .ty "int") (by rfl) T.b_int (by decide +kernel) rfl) pa_nil))) (pe_one (pe_not (pe_callB (cIsi K) (by rfl) T.b_isinstance (by decide +kernel) (pa_cons (pv 0) (pa_cons (pe_bltn (v := .ty "bool") (by rfl) T.b_bool (by decide +kernel) rfl) pa_nil)))))))), ?_⟩
  show (_ : TS) { nx := fun _ H' => Q .non H', rt := Q } [some x] H
  obtain ⟨h, q⟩ := h
  rcases h with ⟨l, rfl⟩ | rfl | ⟨b, rfl⟩ | ⟨i, rfl⟩ | ⟨a, xs, rfl, h | h⟩
  · walk_at "go"
    exact q
  · walk_at "go"
    exact q
  · walk_at "go"
    exact q
  · walk_at "go"
    exact q
  · walk_at "go"
    refine i_isi_tup_int h ?_
    walk_at "go"
    exact q
  · walk_at "go"
    refine i_isi_lst_int h ?_
    walk_at "go"
    exact q
def p_L_sign (K : PySem.W.Frag) : P1 := fun x H Q _ => ∃ (H0 : Hp) (d : Dd), x = .ref d.a ∧ Dr K d H0 H ∧ ∀ c H', Dr K d H0 H' → c ∈ SG → Q (S [c]) H'
theorem ok_L_sign (T : Txt K mg C_GlimError C_BadRound C_BadText C_TooLong) : OK P w K mg base CX0 3 "_law_sign" ["_law_draw_here"] (sp1  (p_L_sign K)) := by
  refine OK.mk (k := 2) T.d_L_sign sc_L_sign len1 fun f cdv A outer s H vs Q E hr h => ?_
  obtain ⟨x, rfl, h⟩ := h
  refine ⟨_, (pss_one (ps_ret (pe_ix (ixK K) (pe_S [46, 46, 46, 119, 119, 114, 103]) (pe_f (ok_L_pick (K := K) T) (hr.mono (by decide)) pass0 (pa_cons (pv 0) (pa_cons pe_int pa_nil))) (fun _ _ => rfl)))), ?_⟩
  show (_ : TS) { nx := fun _ H' => Q .non H', rt := Q } [some x] H
  obtain ⟨H0, d, rfl, dr, q⟩ := h
  walk_at "go"
  refine ⟨H0, d, 7, rfl, rfl, dr, by decide, fun n H1 dr1 b => ?_⟩
  have b0 := b.1
  have b1 := b.2.1 (by decide)
  have hn : n.toNat < 7 := by omega
  have key : ∀ i < 7, ∃ c, ([46, 46, 46, 119, 119, 114, 103] : List Nat)[i]? = some c ∧ c ∈ SG := by decide
  obtain ⟨c, hc, hs⟩ := key n.toNat hn
  refine i_ix_str (by decide) b0 hc ?_
  walk_at "go"
  exact q c H1 dr1 hs
end
end K06
namespace K06
open PySem PySem.Spec PyProof.Rows L2 Fg
local macro_rules | `(tactic| walk_at "sq") => `(tactic| first
  | assumption
  | exact .inl (.inl (by assumption))
  | exact .inl (.inl upd_same))
local macro_rules | `(tactic| walk_at "st") => `(tactic| first
  | assumption
  | exact .inl (.inl (by assumption))
  | exact .inl (.inl upd_same))
local macro_rules | `(tactic| walk_at "o") => `(tactic| first
  | omega
  | assumption
  | (simp only [List.length_append, List.length_take, List.length_drop, List.length_cons, List.length_nil, List.length_singleton, List.length_map, List.length_range, Int.toNat_natCast] ; omega))
local macro_rules | `(tactic| walk_at "s") => `(tactic| first
  | (with_reducible refine i_seq ?_)
  | (with_reducible refine i_asg ?_)
  | ((with_reducible refine' i_var ?h1 ?_); (case h1 => rfl))
  | (with_reducible refine i_c ?_)
  | ((with_reducible refine' i_gname' ?h1 ?_); (case h1 => (simp only [List.set_cons_zero, List.set_cons_succ]; rfl)))
  | (with_reducible refine i_op ?_)
  | (with_reducible refine i_ifS ?_)
  | (with_reducible refine i_for ?_)
  | (with_reducible refine i_test ?_)
  | (with_reducible refine i_B ?_)
  | (with_reducible refine i_exbl ?_)
  | (with_reducible refine i_exint ?_)
  | (with_reducible refine i_cb ?_)
  | (with_reducible refine i_nil ?_)
  | (with_reducible refine i_cons ?_)
  | (with_reducible refine i_ret ?_)
  | (with_reducible refine i_sl ?_)
  | (with_reducible refine i_nopart ?_)
  | (with_reducible refine i_part ?_)
  | (with_reducible refine i_add_int ?_)
  | (with_reducible refine i_sub ?_)
  | (with_reducible refine i_lt ?_)
  | ((with_reducible refine' i_mod ?h1 ?_); (case h1 => walk_at "o"))
  | ((with_reducible refine' i_fdiv ?h1 ?_); (case h1 => (refine cdiv_small ?_ ?_ <;> walk_at "o")))
  | ((with_reducible refine' i_sl_to ?h1 ?h2 ?_); (case h1 => walk_at "o"); (case h2 => walk_at "o"))
  | ((with_reducible refine' i_sl_from ?h1 ?h2 ?_); (case h1 => walk_at "o"); (case h2 => walk_at "o"))
  | ((with_reducible refine' i_add_str ?h1 ?_); (case h1 => walk_at "o"))
  | ((with_reducible refine' i_mul_int ?h1 ?_); (case h1 => first | (refine mul_small ?_ ?_ <;> walk_at "o") | (refine mul_smallR ?_ ?_ <;> walk_at "o")))
  | (with_reducible refine i_le ?_)
  | (with_reducible refine i_gt ?_)
  | (with_reducible refine i_ge ?_)
  | (with_reducible refine i_eq_int ?_)
  | (with_reducible refine i_eq_str ?_)
  | (with_reducible refine i_ne_int ?_)
  | (with_reducible refine i_ne_str ?_)
  | (with_reducible refine i_eq_bl ?_)
  | (with_reducible refine i_ne_bl ?_)
  | (with_reducible refine i_in_sg ?_)
  | (with_reducible refine i_notIn_sg ?_)
  | (with_reducible refine i_call ?_)
  | (with_reducible refine i_callS ?_)
  | (with_reducible refine i_sp1 ?_)
  | (with_reducible refine i_sp2 ?_)
  | (with_reducible refine i_sp3 ?_)
  | (with_reducible refine i_sp4 ?_)
  | (with_reducible refine i_sp1' ?_)
  | (with_reducible refine i_sp2' ?_)
  | (with_reducible refine i_sp3' ?_)
  | ((with_reducible refine' i_ix_lst ?h1 ?h2 ?_); (case h1 => walk_at "sq"); (case h2 => first | exact atI_nat rfl | rfl))
  | ((with_reducible refine' i_ix_tup ?h1 ?h2 ?_); (case h1 => walk_at "st"); (case h2 => first | exact atI_nat rfl | rfl))
  | (with_reducible refine i_gsub ?_)
  | (with_reducible refine i_par ?_)
  | (with_reducible refine i_lstRg1 ?_)
  | (with_reducible refine i_app ?_)
  | (with_reducible refine i_par2 ?_)
  | ((with_reducible refine' i_aug ?h1 ?_); (case h1 => rfl))
  | (with_reducible refine i_ipI ?_)
  | ((with_reducible refine' i_gtup2 ?h1 ?_); (case h1 => walk_at "st"))
  | (with_reducible refine i_int_bl ?_)
  | (with_reducible refine i_raise ?_)
  | (with_reducible refine i_mkE ?_)
  | (with_reducible refine i_ex1 ?_)
  | (with_reducible refine i_and ?_)
  | (with_reducible refine i_or ?_)
  | (with_reducible refine i_not ?_)
  | (with_reducible refine i_tt ?_)
  | (with_reducible refine i_ff ?_)
  | (with_reducible refine i_nott ?_)
  | (with_reducible refine i_notf ?_)
  | (with_reducible refine i_andV ?_)
  | (with_reducible refine i_orV ?_)
  | (with_reducible refine i_notV ?_)
  | (with_reducible refine i_ifE ?_)
  | (with_reducible refine i_tup ?_)
  | (with_reducible refine i_lst ?_)
  | (with_reducible refine i_un ?_)
  | (with_reducible refine i_neg ?_)
  | (with_reducible refine i_chain ?_)
  | (with_reducible refine i_next ?_)
  | (with_reducible refine i_retN ?_)
  | (with_reducible refine i_drop ?_)
  | (with_reducible refine i_int_int ?_)
  | (with_reducible refine i_abs ?_)
  | (with_reducible refine i_m1c ?_)
  | (with_reducible refine i_is_non ?_)
  | (with_reducible refine i_is_int ?_)
  | (with_reducible refine i_is_bl ?_)
  | (with_reducible refine i_isn_bl ?_)
  | (with_reducible refine i_is_str ?_)
  | (with_reducible refine i_is_ref ?_)
  | (with_reducible refine i_isn_non ?_)
  | (with_reducible refine i_isn_int ?_)
  | (with_reducible refine i_isn_str ?_)
  | (with_reducible refine i_isn_ref ?_)
  | (with_reducible refine i_len_str ?h1 ?_; (case h1 => walk_at "o"))
  | (with_reducible refine i_dget ?_)
  | (with_reducible refine i_tru ?_)
  | (with_reducible refine i_dput ?_)
  | (with_reducible refine i_dnotin ?_)
  | (with_reducible refine i_din ?_)
  | (with_reducible refine i_isi_int_int ?_) | (with_reducible refine i_isi_int_bool ?_) | (with_reducible refine i_isi_int_str ?_) | (with_reducible refine i_isi_int_tuple ?_) | (with_reducible refine i_isi_int_list ?_)
  | (with_reducible refine i_isi_bl_int ?_) | (with_reducible refine i_isi_bl_bool ?_) | (with_reducible refine i_isi_bl_str ?_) | (with_reducible refine i_isi_bl_tuple ?_) | (with_reducible refine i_isi_bl_list ?_)
  | (with_reducible refine i_isi_str_int ?_) | (with_reducible refine i_isi_str_bool ?_) | (with_reducible refine i_isi_str_str ?_) | (with_reducible refine i_isi_str_tuple ?_) | (with_reducible refine i_isi_str_list ?_)
  | (with_reducible refine i_isi_non_int ?_) | (with_reducible refine i_isi_non_bool ?_) | (with_reducible refine i_isi_non_str ?_) | (with_reducible refine i_isi_non_tuple ?_) | (with_reducible refine i_isi_non_list ?_))
local macro_rules | `(tactic| walk_at "go") => `(tactic| (repeat' (walk_at "s")))
local macro_rules | `(tactic| walk_at "n") => `(tactic| simp only [wipe, List.map_cons, List.map_nil, List.set_cons_zero, List.set_cons_succ])
section
variable {P : Program} {w : World} {K : PySem.W.Frag} {mg : Str → Option Value} {base : Heap} {C_GlimError C_BadRound C_BadText C_TooLong : Addr}
def p_common : P2 := fun x y H Q _ => ∃ a b : Nat, x = .int (a : Int) ∧ y = .int (b : Int) ∧ 1 ≤ a ∧ 1 ≤ b ∧ Big a ∧ Big b ∧ Q (.int ((Nat.lcm a b : Nat) : Int)) H
theorem ok_common_beats (T : Txt K mg C_GlimError C_BadRound C_BadText C_TooLong) : OK P w K mg base CX0 1 "common_beats" ["first", "second"] (sp2  p_common) := by
  refine OK.mk (k := 0) T.d_common_beats sc_common_beats len2 fun f cdv A outer s H vs Q E hr h => ?_
  obtain ⟨x, y, rfl, h⟩ := h
  refine ⟨_, (pss_cons (ps_par (i := 2) (j := 3) rfl sc_common_beats.nd rfl rfl (by decide) rfl rfl (pa_cons (pv 0) (pa_cons (pv 1) pa_nil)) (by rfl)) (pss_cons (ps_while PassesOwn.never (pt_cmpR op_gtP (pv 3) pe_int (nomark _)) (pss_one (ps_par (i := 2) (j := 3) rfl sc_common_beats.nd rfl rfl (by decide) rfl rfl (pa_cons (pv 3) (pa_cons (pe_op op_modP (pv 2) (pv 3)) pa_nil)) (by rfl)))) (pss_one (ps_ret (pe_op op_mulP (pe_op op_fdivP (pv 0) (pv 2)) (pv 1)))))), ?_⟩
  show (_ : TS) { nx := fun _ H' => Q .non H', rt := Q } [some x, some y, none, none] H
  obtain ⟨a, b, rfl, rfl, a1, b1, a2, b2, q⟩ := h
  walk_at "go"
  refine i_while (fun m σ H' => ∃ n : Nat, σ = [some (.int (a : Int)), some (.int (b : Int)), some (.int (n : Int)), some (.int (m : Int))] ∧ H' = H ∧ 1 ≤ n ∧ Nat.gcd n m = Nat.gcd a b) b ⟨a, rfl, rfl, a1, rfl⟩ ?_
  rintro m σ H' ⟨n, rfl, rfl, n1, hg⟩
  walk_at "go"
  refine i_dec (fun e => i_turn ?_) (fun e => ?_)
  · walk_at "go"
    refine ⟨n % m, Nat.mod_lt _ (by omega), m, ?_, rfl, by omega, ?_⟩
    · show [_, _, _, some (V.int ((n : Int) % (m : Int)))] = _
      rw [← Int.natCast_emod]
    · rw [← hg, Nat.gcd_comm m, ← Nat.gcd_rec, Nat.gcd_comm]
  · have e0 : m = 0 := by omega
    subst e0
    rw [Nat.gcd_zero_right] at hg
    subst hg
    have g1 : Nat.gcd a b ≤ a := Nat.gcd_le_left _ (by omega)
    have g2 : 1 ≤ Nat.gcd a b := Nat.gcd_pos_of_pos_left _ a1
    have g3 : Big (Nat.gcd a b) := a2.le g1
    walk_at "go"
    refine i_fdiv (g3.div (by omega)) ?_
    walk_at "go"
    rw [← Int.natCast_ediv]
    refine i_mul_int ((a2.le (Nat.div_le_self _ _)).mul b2) ?_
    have e : ((a / Nat.gcd a b : Nat) : Int) * (b : Int) = ((Nat.lcm a b : Nat) : Int) := by
      rw [← Int.natCast_mul]
      congr 1
      unfold Nat.lcm
      rw [Nat.mul_comm (a / _), ← Nat.mul_div_assoc _ (Nat.gcd_dvd_left a b), Nat.mul_comm]
    rw [e]
    exact q
def p_repeated : P2 := fun x y H Q _ => ∃ (a : Addr) (n : Nat) (r : List Nat) (t : Nat), x = .ref a ∧ y = .int (t : Int) ∧ H a = some (Sv n r) ∧ 1 ≤ n ∧ (n ≤ 24 → r.length = n) ∧ 1 ≤ t ∧ t ≤ 1000 ∧ ∀ p, H p = none → Q (.ref p) (upd H p (Sv (n * t) (rpt t r)))
theorem ok_repeated (T : Txt K mg C_GlimError C_BadRound C_BadText C_TooLong) : OK P w K mg base CX0 1 "repeated" ["stretch", "times"] (sp2  p_repeated) := by
  refine OK.mk (k := 0) T.d_repeated sc_repeated len2 fun f cdv A outer s H vs Q E hr h => ?_
  obtain ⟨x, y, rfl, h⟩ := h
  refine ⟨_, (pss_cons (ps_set (i := 2) sc_repeated.nd rfl (Or.inl rfl) (pe_op op_mulP (pe_ix (ixK K) (pv 0) pe_int (fun _ _ => rfl)) (pv 1))) (pss_cons (ps_if (pt_cmpR op_gtP (pv 2) (pe_gI 24 T.g_MOST_ROUND) (nomark _)) (pss_one (ps_ret (pe_tup (pa_cons (pv 2) (pa_cons pe_non pa_nil))))) pss_nil) (pss_one (ps_ret (pe_tup (pa_cons (pv 2) (pa_cons (pe_op op_mulP (pe_ix (ixK K) (pv 0) pe_int (fun _ _ => rfl)) (pv 1)) pa_nil))))))), ?_⟩
  show (_ : TS) { nx := fun _ H' => Q .non H', rt := Q } [some x, some y, none] H
  obtain ⟨a, n, r, t, rfl, rfl, ha, n1, hr, t1, t2, q⟩ := h
  walk_at "go"
  have e : (n : Int) * (t : Int) = ((n * t : Nat) : Int) := (Int.natCast_mul _ _).symm
  rw [e]
  have nt : n ≤ n * t := Nat.le_mul_of_pos_right _ t1
  have tt : t ≤ n * t := Nat.le_mul_of_pos_left _ n1
  unfold Sv at q
  generalize hm : n * t = m at *
  walk_at "go"
  refine i_dec (fun e => ?_) (fun e => ?_)
  · walk_at "go"
    refine i_new (by show 2 ≤ 100000; omega) fun p np => ?_
    rw [if_neg (by omega)] at q
    exact q p np
  · walk_at "go"
    have hn : n ≤ 24 := by omega
    rw [if_pos hn]
    refine i_mul_str ⟨by rw [hr hn]; omega, by omega⟩ ?_
    walk_at "go"
    refine i_new (by show 2 ≤ 100000; omega) fun p np => ?_
    rw [if_pos (by omega)] at q
    exact q p np
def p_behind : P2 := fun x y H Q _ => ∃ (a b : Addr) (n m : Nat) (r s : List Nat), x = .ref a ∧ y = .ref b ∧ H a = some (Sv n r) ∧ H b = some (Sv m s) ∧ (n ≤ 24 → r.length = n) ∧ (m ≤ 24 → s.length = m) ∧ ∀ p, H p = none → Q (.ref p) (upd H p (Sv (n + m) (r ++ s)))
theorem ok_put_behind (T : Txt K mg C_GlimError C_BadRound C_BadText C_TooLong) : OK P w K mg base CX0 1 "put_behind" ["stretch", "other"] (sp2  p_behind) := by
  refine OK.mk (k := 0) T.d_put_behind sc_put_behind len2 fun f cdv A outer s H vs Q E hr h => ?_
  obtain ⟨x, y, rfl, h⟩ := h
  refine ⟨_, (pss_cons (ps_set (i := 2) sc_put_behind.nd rfl (Or.inl rfl) (pe_op (opAdd K) (pe_ix (ixK K) (pv 0) pe_int (fun _ _ => rfl)) (pe_ix (ixK K) (pv 1) pe_int (fun _ _ => rfl)))) (pss_cons (ps_if (pt_cmpR op_gtP (pv 2) (pe_gI 24 T.g_MOST_ROUND) (nomark _)) (pss_one (ps_ret (pe_tup (pa_cons (pv 2) (pa_cons pe_non pa_nil))))) pss_nil) (pss_one (ps_ret (pe_tup (pa_cons (pv 2) (pa_cons (pe_op (opAdd K) (pe_ix (ixK K) (pv 0) pe_int (fun _ _ => rfl)) (pe_ix (ixK K) (pv 1) pe_int (fun _ _ => rfl))) pa_nil))))))), ?_⟩
  show (_ : TS) { nx := fun _ H' => Q .non H', rt := Q } [some x, some y, none] H
  obtain ⟨a, b, n, m, r, s', rfl, rfl, ha, hb, hr, hs, q⟩ := h
  walk_at "go"
  have e : (n : Int) + (m : Int) = ((n + m : Nat) : Int) := (Int.natCast_add _ _).symm
  rw [e]
  unfold Sv at q
  walk_at "go"
  refine i_dec (fun e => ?_) (fun e => ?_)
  · walk_at "go"
    refine i_new (by show 2 ≤ 100000; omega) fun p np => ?_
    rw [if_neg (by omega)] at q
    exact q p np
  · walk_at "go"
    have hn : n ≤ 24 := by omega
    have hm : m ≤ 24 := by omega
    rw [if_pos hn, if_pos hm]
    refine i_add_str (by rw [hr hn, hs hm]; omega) ?_
    walk_at "go"
    refine i_new (by show 2 ≤ 100000; omega) fun p np => ?_
    rw [if_pos (by omega)] at q
    exact q p np
def p_first_lit (K : PySem.W.Frag) : P1 := fun x H Q _ => ∃ (a : Addr) (cs : List Nat), x = .ref a ∧ SqL K H a (cs.map fun c => S [c]) ∧ Q (S [firstLit cs]) H
theorem ok_first_lit (T : Txt K mg C_GlimError C_BadRound C_BadText C_TooLong) : OK P w K mg base CX0 1 "first_lit" ["signs"] (sp1  (p_first_lit K)) := by
  refine OK.mk (k := 0) T.d_first_lit sc_first_lit len1 fun f cdv A outer s H vs Q E hr h => ?_
  obtain ⟨x, rfl, h⟩ := h
  refine ⟨_, (pss_cons (ps_for PassesOwn.never rfl (piAny K (pv 0)) (pg_name (i := 1) sc_first_lit.nd rfl (Or.inl rfl)) (pss_one (ps_if (pt_cmpR (opNe K hr.units) (pv 1) (pe_S [46]) (nomark _)) (pss_one (ps_ret (pv 1))) pss_nil))) (pss_one (ps_ret (pe_S [46])))), ?_⟩
  show (_ : TS) { nx := fun _ H' => Q .non H', rt := Q } [some x, none] H
  obtain ⟨a, cs, rfl, ha, q⟩ := h
  walk_at "go"
  refine i_forL ha (fun i σ H' => ∃ v, σ = [some (.ref a), v] ∧ H' = H ∧ firstLit cs = firstLit (cs.drop i)) ⟨_, rfl, rfl, rfl⟩ ?_ ?_ ?_
  · rintro i σ H' _ ⟨v, rfl, rfl, _⟩
    exact ha
  · rintro i x σ H' hi ⟨v, rfl, rfl, hf⟩
    rw [List.getElem?_map] at hi
    obtain ⟨c, hc, rfl⟩ := Option.map_eq_some_iff.mp hi
    obtain ⟨hl, rfl⟩ := List.getElem?_eq_some_iff.mp hc
    rw [List.drop_eq_getElem_cons hl] at hf
    walk_at "go"
    refine i_decN (fun e => ?_) (fun e => ?_)
    · walk_at "go"
      have e' : cs[i] ≠ 46 := fun z => e (by rw [z])
      rw [show firstLit (cs[i] :: cs.drop (i + 1)) = cs[i] from if_neg e'] at hf
      rw [hf] at q
      exact q
    · walk_at "go"
      have e' : cs[i] = 46 := by simpa using e
      refine ⟨_, rfl, rfl, ?_⟩
      rw [hf]
      exact if_pos e'
  · rintro σ H' ⟨v, rfl, rfl, hf⟩
    walk_at "go"
    rw [List.length_map, List.drop_length] at hf
    rw [hf] at q
    exact q
def p_shown (K : PySem.W.Frag) : P1 := fun x H Q _ => ∃ (a : Addr) (qs : List Addr) (ps : List (Nat × List Nat)), x = .ref a ∧ SqL K H a (qs.map V.ref) ∧ PartsAt H qs ps ∧ ps.length ≤ 90000 ∧ (∀ p ∈ ps, 1 ≤ p.1 ∧ (p.1 ≤ 24 → p.2.length = p.1)) ∧
  Big (lcmL ps) ∧ ∀ p H', Same H H' → H' p = some (Sv (lcmL ps) (showN ps (lcmL ps))) → Q (.ref p) H'
theorem ok_shown_together (T : Txt K mg C_GlimError C_BadRound C_BadText C_TooLong) : OK P w K mg base CX0 2 "shown_together" ["parts"] (sp1  (p_shown K)) := by
  refine OK.mk (k := 1) T.d_shown_together sc_shown_together len1 fun f cdv A outer s H vs Q E hr h => ?_
  obtain ⟨x, rfl, h⟩ := h
  refine ⟨_, (pss_cons (ps_set (i := 1) sc_shown_together.nd rfl (Or.inr rfl) pe_int) (pss_cons (ps_for PassesOwn.never rfl (piAny K (pv 0)) (pg_name (i := 2) sc_shown_together.nd rfl (Or.inl rfl)) (pss_one (ps_set (i := 1) sc_shown_together.nd rfl (Or.inr rfl) (pe_f (ok_common_beats (K := K) T) (hr.mono (by decide)) pass0 (pa_cons (pv 1) (pa_cons (pe_ix (ixK K) (pv 2) pe_int (fun _ _ => rfl)) pa_nil)))))) (pss_cons (ps_if (pt_cmpR op_gtP (pv 1) (pe_gI 24 T.g_MOST_ROUND) (nomark _)) (pss_one (ps_ret (pe_tup (pa_cons (pv 1) (pa_cons pe_non pa_nil))))) pss_nil) (pss_cons (ps_set (i := 3) sc_shown_together.nd rfl (Or.inr rfl) (pe_lc (own := [("part", 2)]) (g := gName 2) (tt := tYes) (by rfl) sc_shown_together.nd (piAny K (pv 0)) (blkOk_by (own := [("part", 2)]) (N := ["parts", "beats", "part", "rows", "beat", "row"]) (sc := (defScope s_shown_together)) (by decide +kernel)) (fun _ _ _ _ _ => (pg_name (i := 2) sc_shown_together.nd rfl (Or.inl rfl))) (fun _ _ _ _ _ => pts_nil) (fun _ _ _ _ _ => (pe_op op_mulP (pe_ix (ixK K) (pv 2) pe_int (fun _ _ => rfl)) (pe_op op_fdivP (pv 1) (pe_ix (ixK K) (pv 2) pe_int (fun _ _ => rfl))))))) (pss_one (ps_ret (pe_tup (pa_cons (pv 1) (pa_cons (peJoin K (pe_S []) (pe_lc (own := [("beat", 4)]) (g := gName 4) (tt := tYes) (by rfl) sc_shown_together.nd (pi_range1 rfl T.b_range (pa_cons (pv 1) pa_nil)) (blkOk_by (own := [("beat", 4)]) (N := ["parts", "beats", "part", "rows", "beat", "row"]) (sc := (defScope s_shown_together)) (by decide +kernel)) (fun _ _ _ _ _ => (pg_name (i := 4) sc_shown_together.nd rfl (Or.inr rfl))) (fun _ _ _ _ _ => pts_nil) (fun _ _ _ _ _ => (pe_f (ok_first_lit (K := K) T) (hr.mono (by decide)) pass0 (pa_cons (pe_lc (own := [("row", 5)]) (g := gName 5) (tt := tYes) (by rfl) sc_shown_together.nd (piAny K (pv 3)) (Fg.blkOk_in (own := [("row", 5)]) (N := ["parts", "beats", "part", "rows", "beat", "row"]) (sc := (defScope s_shown_together)) (by rfl) (by rfl) (by decide +kernel)) (fun _ _ _ _ _ => (pg_name (i := 5) sc_shown_together.nd rfl (Or.inl rfl))) (fun _ _ _ _ _ => pts_nil) (fun _ _ _ _ _ => (pe_ix (ixK K) (pv 5) (pv 4) (fun _ _ => rfl)))) pa_nil))))) pa_nil))))))))), ?_⟩
  show (_ : TS) { nx := fun _ H' => Q .non H', rt := Q } [some x, none, none, none, none, none] H
  obtain ⟨a, qs, ps, rfl, ha, ⟨hlen, hat⟩, h100, hok, hsm, q⟩ := h
  walk_at "go"
  refine i_forL ha (fun i σ H' => ∃ v, σ = [some (.ref a), some (.int ((lcmL (ps.take i) : Nat) : Int)), v, none, none, none] ∧ H' = H) ⟨_, rfl, rfl⟩ ?_ ?_ ?_
  · rintro i σ H' _ ⟨v, rfl, rfl⟩
    exact ha
  · rintro i x σ H' hi ⟨v, rfl, rfl⟩
    rw [List.getElem?_map] at hi
    obtain ⟨qa, hqa, rfl⟩ := Option.map_eq_some_iff.mp hi
    obtain ⟨hl, e⟩ := List.getElem?_eq_some_iff.mp hqa
    have hp : ps[i]? = some ps[i] := List.getElem?_eq_getElem (by omega)
    have hq := hat i qa _ hqa hp
    have ok := hok _ (List.mem_of_getElem? hp)
    have e2 : ps.take (i + 1) = ps.take i ++ [ps[i]] := by rw [List.take_succ, hp]; rfl
    walk_at "go"
    refine ⟨lcmL (ps.take i), ps[i].1, rfl, rfl, lcmL_pos fun p hp => (hok p (List.mem_of_mem_take hp)).1, ok.1, hsm.le (lcmL_take (fun p hp => (hok p hp).1) i), hsm.le (Nat.le_of_dvd (lcmL_pos fun p hp => (hok p hp).1) (dvd_lcmL (List.mem_of_getElem? hp))), ?_⟩
    rw [← lcmL_snoc, ← e2]
    walk_at "go"
    exact ⟨_, rfl, rfl⟩
  · rintro σ H' ⟨v, rfl, rfl⟩
    rw [List.length_map, hlen, List.take_length]
    clear hsm
    have hL1 : 1 ≤ lcmL ps := lcmL_pos fun p hp => (hok p hp).1
    have hdv : ∀ p ∈ ps, p.1 ∣ lcmL ps := fun p hp => dvd_lcmL hp
    unfold Sv at q
    generalize lcmL ps = L at *
    walk_at "go"
    refine i_dec (fun e => ?_) (fun e => ?_)
    · walk_at "go"
      refine i_new (by show 2 ≤ 100000; omega) fun p np => ?_
      rw [if_neg (by omega)] at q
      exact q p _ (same_upd np) upd_same
    have hL : L ≤ 24 := by omega
    rw [if_pos hL] at q
    walk_at "go"
    refine c_lst (K := K) (a := a) (xs := qs.map V.ref) (fun R k => by walk_at "go"; exact k) ha (by rw [List.length_map]; omega) (fun _ => true) (fun i => S (rpt (L / (ps.getD i (1, [])).1) (ps.getD i (1, [])).2)) (fun _ => rfl) (fun i x H2 hi s2 QB k => k H2 (Same.refl H2)) (fun i x H2 hi s2 _ QV k => ?_) (fun Dr H2 n2 s2 d2 => ?_)
    · rw [List.getElem?_map] at hi
      obtain ⟨qa, hqa, rfl⟩ := Option.map_eq_some_iff.mp hi
      obtain ⟨hl, e'⟩ := List.getElem?_eq_some_iff.mp hqa
      have hp : ps[i]? = some ps[i] := List.getElem?_eq_getElem (by omega)
      have hq := s2 _ _ (hat i qa _ hqa hp)
      have hm := List.mem_of_getElem? hp
      have ok := hok _ hm
      have hn : ps[i].1 ≤ L := Nat.le_of_dvd hL1 (hdv _ hm)
      have hr := ok.2 (by omega)
      have ok1 := ok.1
      have e3 : ps.getD i (1, []) = ps[i] := by rw [List.getD_eq_getElem?_getD, hp]; rfl
      rw [e3] at k
      have hdd : L / ps[i].1 * ps[i].1 = L := Nat.div_mul_cancel (hdv _ hm)
      have hdl : L / ps[i].1 ≤ L := Nat.div_le_self _ _
      generalize ps[i] = pp at *
      obtain ⟨n, r⟩ := pp
      dsimp only at *
      show (_ : TE) [some (.ref a), some (.int (L : Int)), some (.ref qa), none, none, none] H2 QV
      walk_at "go"
      rw [if_pos (by omega), ← Int.natCast_ediv]
      refine i_mul_str ⟨by rw [hr, Nat.mul_comm]; omega, by omega⟩ ?_
      exact k H2 (Same.refl H2)
    rw [kept_all, List.length_map, hlen, range_getD_map ps (1, []) (fun (p : Nat × List Nat) => S (rpt (L / p.1) p.2))] at d2
    have e4 : ps.map (fun (p : Nat × List Nat) => S (rpt (L / p.1) p.2)) = (ps.map fun p => rpt (L / p.1) p.2).map S := by rw [List.map_map]; rfl
    rw [e4] at d2
    have hrl : ∀ r ∈ ps.map (fun p => rpt (L / p.1) p.2), r.length = L := fun r hr => by
      obtain ⟨p, hp, rfl⟩ := List.mem_map.mp hr
      have hn : p.1 ≤ L := Nat.le_of_dvd hL1 (hdv _ hp)
      rw [rpt_len, (hok p hp).2 (by omega), Nat.div_mul_cancel (hdv p hp)]
    have e5 : showN ps L = (List.range L).map fun b => firstLit ((ps.map fun p => rpt (L / p.1) p.2).map fun r => r.getD b 0) := by
      unfold showN
      refine List.map_congr_left fun b _ => ?_
      rw [List.map_map]
      rfl
    rw [e5] at q
    have hrs : (ps.map fun p => rpt (L / p.1) p.2).length = ps.length := by rw [List.length_map]
    generalize ps.map (fun (p : Nat × List Nat) => rpt (L / p.1) p.2) = rs at *
    walk_at "go"
    refine c_rng1A L (fun R k => by walk_at "go"; exact k) (by omega) (fun b => S [firstLit (rs.map fun r => r.getD b 0)]) (fun _ => rfl) (fun b H3 hb s3 QV k => ?_) (fun Dj H3 n3 s3 d3 => ?_)
    · show (_ : TE) [some (.ref a), some (.int (L : Int)), v, some (.ref Dr), some (.int (b : Int)), none] H3 QV
      walk_at "go"
      refine c_lst (K := K) (a := Dr) (xs := rs.map S) (fun R k => by walk_at "go"; exact k) (.inl (.inl (s3 _ _ d2))) (by rw [List.length_map]; omega) (fun _ => true) (fun i => S [(rs.getD i []).getD b 0]) (fun _ => rfl) (fun i x H4 hi s4 QB k => k H4 (Same.refl H4)) (fun i x H4 hi s4 _ QV k => ?_) (fun Di H4 n4 s4 d4 => ?_)
      · rw [List.getElem?_map] at hi
        obtain ⟨r, hr, rfl⟩ := Option.map_eq_some_iff.mp hi
        have hl := hrl r (List.mem_of_getElem? hr)
        have e6 : rs.getD i [] = r := by rw [List.getD_eq_getElem?_getD, hr]; rfl
        rw [e6] at k
        show (_ : TE) [some (.ref a), some (.int (L : Int)), v, some (.ref Dr), some (.int (b : Int)), some (S r)] H4 QV
        walk_at "go"
        refine i_ix_str (c := r.getD b 0) (by omega) (by omega) ?_ (k H4 (Same.refl H4))
        rw [Int.toNat_natCast, List.getD_eq_getElem?_getD, List.getElem?_eq_getElem (by omega)]
        rfl
      · rw [kept_all, List.length_map, range_getD_map rs [] (fun r => S [r.getD b 0])] at d4
        walk_at "go"
        refine ⟨Di, rs.map fun r => r.getD b 0, rfl, .inl (.inl (by rw [d4, List.map_map]; rfl)), ?_⟩
        exact k H4 s4
    · have e7 : (List.range L).map (fun b => S [firstLit (rs.map fun r => r.getD b 0)]) = ((List.range L).map fun b => firstLit (rs.map fun r => r.getD b 0)).map fun c => S [c] := by rw [List.map_map]; rfl
      rw [e7] at d3
      walk_at "go"
      refine i_join1 (.inl (.inl d3)) (by rw [List.length_map, List.length_range]; omega) ?_
      walk_at "go"
      refine i_new (by show 2 ≤ 100000; omega) fun p np => ?_
      exact q p _ (s2.trans (s3.trans (same_upd np))) upd_same
def p_behind_digits : P2 := fun x y H Q _ => ∃ (z : List Nat) (a : Nat), x = S z ∧ y = .int (a : Int) ∧ z.length ≤ 100000 ∧ a ≤ z.length ∧ Q (.int ((bd z a : Nat) : Int)) H
theorem ok_behind_digits (T : Txt K mg C_GlimError C_BadRound C_BadText C_TooLong) : OK P w K mg base CX0 1 "behind_digits" ["text", "at"] (sp2  p_behind_digits) := by
  refine OK.mk (k := 0) T.d_behind_digits sc_behind_digits len2 fun f cdv A outer s H vs Q E hr h => ?_
  obtain ⟨x, y, rfl, h⟩ := h
  refine ⟨_, (pss_cons (ps_while PassesOwn.never (pw_and (pt_cmpR op_ltP (pv 1) (pe_callB (cLen K) (by rfl) T.b_len (by decide +kernel) (pa_cons (pv 0) pa_nil)) (nomark _)) (pw_and1 (pt_cmpR (opIn K) (pe_ix (ixK K) (pv 0) (pv 1) (fun _ _ => rfl)) (pe_gS [48, 49, 50, 51, 52, 53, 54, 55, 56, 57] T.g_DIGITS) (by with_unfolding_all rfl)))).pt (pss_one (ps_aug (i := 1) sc_behind_digits.nd rfl (Or.inl rfl) pe_int ip_add))) (pss_one (ps_ret (pv 1)))), ?_⟩
  show (_ : TS) { nx := fun _ H' => Q .non H', rt := Q } [some x, some y] H
  obtain ⟨z, a, rfl, rfl, hz, ha, q⟩ := h
  walk_at "go"
  refine i_while (fun m σ H' => ∃ n : Nat, σ = [some (S z), some (.int (n : Int))] ∧ H' = H ∧ n + m = z.length ∧ bd z n = bd z a) (z.length - a) ⟨a, rfl, rfl, by omega, rfl⟩ ?_
  rintro m σ H' ⟨n, rfl, rfl, hn, hb⟩
  walk_at "go"
  refine i_dec (fun e => ?_) (fun e => ?_)
  · walk_at "go"
    have hl : n < z.length := by omega
    refine i_ix_str (c := z[n]) hz (by omega) (by rw [Int.toNat_natCast]; exact List.getElem?_eq_getElem hl) ?_
    walk_at "go"
    refine i_dec (fun e => i_turn ?_) (fun e => ?_)
    · walk_at "go"
      exact ⟨m - 1, by omega, n + 1, rfl, rfl, by omega, by rw [bd_step (List.getElem?_eq_getElem hl) e, hb]⟩
    · walk_at "go"
      rw [← hb, bd_stop (fun c hc => by rw [List.getElem?_eq_getElem hl] at hc; cases hc; exact e)] at q
      exact q
  · walk_at "go"
    rw [← hb, bd_stop (fun c hc => by rw [List.getElem?_eq_none (by omega)] at hc; cases hc)] at q
    exact q
def p_within : P3 := fun x y u H Q _ => ∃ (r : List Nat) (lo hi : Nat), x = S r ∧ y = .int (lo : Int) ∧ u = .int (hi : Int) ∧ r.length ≤ 100000 ∧ (∀ c ∈ r, c ∈ DG) ∧ Q (.bl (within r lo hi)) H
theorem ok_is_within (T : Txt K mg C_GlimError C_BadRound C_BadText C_TooLong) : OK P w K mg base CX0 1 "is_within" ["run", "low", "high"] (sp3  p_within) := by
  refine OK.mk (k := 0) T.d_is_within sc_is_within len3 fun f cdv A outer s H vs Q E hr h => ?_
  obtain ⟨x, y, z, rfl, h⟩ := h
  refine ⟨_, (pss_one (ps_ret (pe_and (pe_chain op_leP op_leP pe_int (pe_callB (cLen K) (by rfl) T.b_len (by decide +kernel) (pa_cons (pv 0) pa_nil)) pe_int) (pe_one (pe_chain op_leP op_leP (pv 1) (pe_callTy call_intTx (by rfl) T.b_int (by decide +kernel) (pa_cons (pv 0) pa_nil)) (pv 2)))))), ?_⟩
  show (_ : TS) { nx := fun _ H' => Q .non H', rt := Q } [some x, some y, some z] H
  obtain ⟨r, lo, hi, rfl, rfl, rfl, hz, hd, q⟩ := h
  walk_at "go"
  unfold within at q
  have nn : ∀ a b : Nat, decide ((a : Int) ≤ (b : Int)) = decide (a ≤ b) := fun a b => by rw [decide_eq_decide]; omega
  refine i_dec (fun e1 => ?_) (fun e1 => ?_)
  · walk_at "go"
    refine i_dec (fun e2 => ?_) (fun e2 => ?_)
    · walk_at "go"
      refine i_intTx (by omega) (by omega) hd ?_
      walk_at "go"
      rw [decide_eq_true (show 1 ≤ r.length by omega), decide_eq_true (show r.length ≤ 2 by omega), Bool.true_and, Bool.true_and] at q
      rw [nn]
      refine i_bool (fun e => ?_) (fun e => ?_)
      · rw [e, Bool.true_and] at q
        walk_at "go"
        rw [nn]
        exact q
      · rw [e, Bool.false_and] at q
        exact q
    · rw [decide_eq_false (show ¬ r.length ≤ 2 by omega), Bool.and_false, Bool.false_and, Bool.false_and] at q
      walk_at "go"
      exact q
  · rw [decide_eq_false (show ¬ 1 ≤ r.length by omega), Bool.false_and, Bool.false_and, Bool.false_and] at q
    walk_at "go"
    exact q
end
end K06
namespace K06
open PySem PySem.Spec PyProof.Rows L2 Fg
local macro_rules | `(tactic| walk_at "sq") => `(tactic| first
  | assumption
  | exact .inl (.inl (by assumption))
  | exact .inl (.inl upd_same))
local macro_rules | `(tactic| walk_at "st") => `(tactic| first
  | assumption
  | exact .inl (.inl (by assumption))
  | exact .inl (.inl upd_same))
local macro_rules | `(tactic| walk_at "o") => `(tactic| first
  | omega
  | assumption
  | (simp only [List.length_append, List.length_take, List.length_drop, List.length_cons, List.length_nil, List.length_singleton, List.length_map, List.length_range, Int.toNat_natCast] ; omega))
local macro_rules | `(tactic| walk_at "s") => `(tactic| first
  | (with_reducible refine i_seq ?_)
  | (with_reducible refine i_asg ?_)
  | ((with_reducible refine' i_var ?h1 ?_); (case h1 => rfl))
  | (with_reducible refine i_c ?_)
  | ((with_reducible refine' i_gname' ?h1 ?_); (case h1 => (simp only [List.set_cons_zero, List.set_cons_succ]; rfl)))
  | (with_reducible refine i_op ?_)
  | (with_reducible refine i_ifS ?_)
  | (with_reducible refine i_for ?_)
  | (with_reducible refine i_test ?_)
  | (with_reducible refine i_B ?_)
  | (with_reducible refine i_exbl ?_)
  | (with_reducible refine i_exint ?_)
  | (with_reducible refine i_cb ?_)
  | (with_reducible refine i_nil ?_)
  | (with_reducible refine i_cons ?_)
  | (with_reducible refine i_ret ?_)
  | (with_reducible refine i_sl ?_)
  | (with_reducible refine i_nopart ?_)
  | (with_reducible refine i_part ?_)
  | (with_reducible refine i_add_int ?_)
  | (with_reducible refine i_sub ?_)
  | (with_reducible refine i_lt ?_)
  | ((with_reducible refine' i_mod ?h1 ?_); (case h1 => walk_at "o"))
  | ((with_reducible refine' i_fdiv ?h1 ?_); (case h1 => (refine cdiv_small ?_ ?_ <;> walk_at "o")))
  | ((with_reducible refine' i_sl_to ?h1 ?h2 ?_); (case h1 => walk_at "o"); (case h2 => walk_at "o"))
  | ((with_reducible refine' i_sl_from ?h1 ?h2 ?_); (case h1 => walk_at "o"); (case h2 => walk_at "o"))
  | ((with_reducible refine' i_add_str ?h1 ?_); (case h1 => walk_at "o"))
  | ((with_reducible refine' i_mul_int ?h1 ?_); (case h1 => first | (refine mul_small ?_ ?_ <;> walk_at "o") | (refine mul_smallR ?_ ?_ <;> walk_at "o")))
  | (with_reducible refine i_le ?_)
  | (with_reducible refine i_gt ?_)
  | (with_reducible refine i_ge ?_)
  | (with_reducible refine i_eq_int ?_)
  | (with_reducible refine i_eq_str ?_)
  | (with_reducible refine i_ne_int ?_)
  | (with_reducible refine i_ne_str ?_)
  | (with_reducible refine i_eq_bl ?_)
  | (with_reducible refine i_ne_bl ?_)
  | (with_reducible refine i_in_sg ?_)
  | (with_reducible refine i_notIn_sg ?_)
  | (with_reducible refine i_call ?_)
  | (with_reducible refine i_callS ?_)
  | (with_reducible refine i_sp1 ?_)
  | (with_reducible refine i_sp2 ?_)
  | (with_reducible refine i_sp3 ?_)
  | (with_reducible refine i_sp4 ?_)
  | (with_reducible refine i_sp1' ?_)
  | (with_reducible refine i_sp2' ?_)
  | (with_reducible refine i_sp3' ?_)
  | ((with_reducible refine' i_ix_lst ?h1 ?h2 ?_); (case h1 => walk_at "sq"); (case h2 => first | exact atI_nat rfl | rfl))
  | ((with_reducible refine' i_ix_tup ?h1 ?h2 ?_); (case h1 => walk_at "st"); (case h2 => first | exact atI_nat rfl | rfl))
  | (with_reducible refine i_gsub ?_)
  | (with_reducible refine i_par ?_)
  | (with_reducible refine i_lstRg1 ?_)
  | (with_reducible refine i_app ?_)
  | (with_reducible refine i_par2 ?_)
  | ((with_reducible refine' i_aug ?h1 ?_); (case h1 => rfl))
  | (with_reducible refine i_ipI ?_)
  | ((with_reducible refine' i_gtup2 ?h1 ?_); (case h1 => walk_at "st"))
  | (with_reducible refine i_int_bl ?_)
  | (with_reducible refine i_raise ?_)
  | (with_reducible refine i_mkE ?_)
  | (with_reducible refine i_ex1 ?_)
  | (with_reducible refine i_and ?_)
  | (with_reducible refine i_or ?_)
  | (with_reducible refine i_not ?_)
  | (with_reducible refine i_tt ?_)
  | (with_reducible refine i_ff ?_)
  | (with_reducible refine i_nott ?_)
  | (with_reducible refine i_notf ?_)
  | (with_reducible refine i_andV ?_)
  | (with_reducible refine i_orV ?_)
  | (with_reducible refine i_notV ?_)
  | (with_reducible refine i_ifE ?_)
  | (with_reducible refine i_tup ?_)
  | (with_reducible refine i_lst ?_)
  | (with_reducible refine i_un ?_)
  | (with_reducible refine i_neg ?_)
  | (with_reducible refine i_chain ?_)
  | (with_reducible refine i_next ?_)
  | (with_reducible refine i_retN ?_)
  | (with_reducible refine i_drop ?_)
  | (with_reducible refine i_int_int ?_)
  | (with_reducible refine i_abs ?_)
  | (with_reducible refine i_m1c ?_)
  | (with_reducible refine i_is_non ?_)
  | (with_reducible refine i_is_int ?_)
  | (with_reducible refine i_is_bl ?_)
  | (with_reducible refine i_isn_bl ?_)
  | (with_reducible refine i_is_str ?_)
  | (with_reducible refine i_is_ref ?_)
  | (with_reducible refine i_isn_non ?_)
  | (with_reducible refine i_isn_int ?_)
  | (with_reducible refine i_isn_str ?_)
  | (with_reducible refine i_isn_ref ?_)
  | (with_reducible refine i_len_str ?h1 ?_; (case h1 => walk_at "o"))
  | (with_reducible refine i_dget ?_)
  | (with_reducible refine i_tru ?_)
  | (with_reducible refine i_dput ?_)
  | (with_reducible refine i_dnotin ?_)
  | (with_reducible refine i_din ?_)
  | (with_reducible refine i_isi_int_int ?_) | (with_reducible refine i_isi_int_bool ?_) | (with_reducible refine i_isi_int_str ?_) | (with_reducible refine i_isi_int_tuple ?_) | (with_reducible refine i_isi_int_list ?_)
  | (with_reducible refine i_isi_bl_int ?_) | (with_reducible refine i_isi_bl_bool ?_) | (with_reducible refine i_isi_bl_str ?_) | (with_reducible refine i_isi_bl_tuple ?_) | (with_reducible refine i_isi_bl_list ?_)
  | (with_reducible refine i_isi_str_int ?_) | (with_reducible refine i_isi_str_bool ?_) | (with_reducible refine i_isi_str_str ?_) | (with_reducible refine i_isi_str_tuple ?_) | (with_reducible refine i_isi_str_list ?_)
  | (with_reducible refine i_isi_non_int ?_) | (with_reducible refine i_isi_non_bool ?_) | (with_reducible refine i_isi_non_str ?_) | (with_reducible refine i_isi_non_tuple ?_) | (with_reducible refine i_isi_non_list ?_))
local macro_rules | `(tactic| walk_at "go") => `(tactic| (repeat' (walk_at "s")))
local macro_rules | `(tactic| walk_at "n") => `(tactic| simp only [wipe, List.map_cons, List.map_nil, List.set_cons_zero, List.set_cons_succ])
/-- how a reading ends -/
def Out (C : Addr) (H : Hp) (Q : VK) (E : XK) : Res → Prop
  | .error k => Rz E H C "at" (.int (k : Int))
  | .ok (s, e) => ∀ p q H', Same H H' → H' q = some (Sv s.1 s.2) → H' p = some (.tup [.ref q, .int (e : Int)]) → Q (.ref p) H'
def p_rdp (C : Addr) (f : List Nat → Nat → Res) (d : Nat) : P3 := fun x y u H Q E => ∃ (z : List Nat) (a : Nat) (o : Int), x = S z ∧ y = .int (a : Int) ∧ u = .int o ∧ o + (d : Int) = 6 ∧ z.length ≤ 1700 ∧ a ≤ z.length ∧ Out C H Q E (f z a)
/-- the parts behind an opening: never, where no more may be opened -/
def PD (C : Addr) : Nat → P3
  | 0 => fun _ _ _ _ _ _ => False
  | d + 1 => p_rdp C (fun z => rd z d) d
theorem decS {l m : List Nat} : (l = m) = (S l = S m) := propext S_inj.symm
theorem toNat_cast (n : Nat) : ((n : Int)).toNat = n := Int.toNat_natCast n
section
variable {P : Program} {w : World} {K : PySem.W.Frag} {mg : Str → Option Value} {base : Heap} {C_GlimError C_BadRound C_BadText C_TooLong : Addr}
theorem ok_read_item (T : Txt K mg C_GlimError C_BadRound C_BadText C_TooLong) (d : Nat) (R : OK P w K mg base (L2.CX P w) (3 * d + 3) "read_parts" ["text", "at", "opened"] (sp3 (PD C_BadText d))) :
    OK P w K mg base (L2.CX P w) (3 * d + 4) "read_item" ["text", "at", "opened"] (sp3 (p_rdp C_BadText (fun z => rdItem z d) d)) := by
  refine OK.mkX (k := 3 * d + 3) T.d_read_item sc_read_item len3 fun f cdv A outer s H vs Q E hr h => ?_
  obtain ⟨x, y, z, rfl, h⟩ := h
  refine ⟨_, (pss_cons (ps_set (i := 3) sc_read_item.nd rfl (Or.inl rfl) (pv 1)) (pss_cons (ps_set (i := 1) sc_read_item.nd rfl (Or.inl rfl) (pe_f (ok_behind_digits (K := K) T) (hr.mono (by omega)) pass0 (pa_cons (pv 0) (pa_cons (pv 3) pa_nil)))) (pss_cons (ps_set (i := 4) sc_read_item.nd rfl (Or.inl rfl) (pe_slice (slK K) (pv 0) (po_some (pv 3)) (po_some (pv 1)))) (pss_cons (ps_if (pt_cmpR (opEq K hr.units) (pe_slice (slK K) (pv 4) po_none (po_some pe_int)) (pe_S [48]) (nomark _)) (pss_one (ps_raiseP rfl (takes_of rfl rfl rfl rfl) (pmk_E (k := 0) (okx_BadText T) (hr.mono (by omega)) (pa_cons (pv 3) pa_nil)))) pss_nil) (Evl.pss_cut (ps_if (pw_or (pt_cmpR (opEq K hr.units) (pv 1) (pe_callB (cLen K) (by rfl) T.b_len (by decide +kernel) (pa_cons (pv 0) pa_nil)) (nomark _)) (pw_or1 (pw_and (pt_cmpR (opNotIn K) (pe_ix (ixK K) (pv 0) (pv 1) (fun _ _ => rfl)) (pe_gS [46, 103, 114, 119] T.g_SIGNS) (by with_unfolding_all rfl)) (pw_and1 (pt_cmpR (opNe K hr.units) (pe_ix (ixK K) (pv 0) (pv 1) (fun _ _ => rfl)) (pe_S [40]) (nomark _)))).pt)).pt (pss_one (ps_raiseP rfl (takes_of rfl rfl rfl rfl) (pmk_E (k := 0) (okx_BadText T) (hr.mono (by omega)) (pa_cons (pv 1) pa_nil)))) pss_nil) (Evl.pss_cut (ps_if (pw_and (pt_cmpR (opNe K hr.units) (pv 4) (pe_S []) (nomark _)) (pw_and1 (pt_not (pt_val (pe_f (ok_is_within (K := K) T) (hr.mono (by omega)) pass0 (pa_cons (pv 4) (pa_cons pe_int (pa_cons (pe_gI 24 T.g_MOST_ROUND) pa_nil)))))))).pt (pss_one (ps_raiseP rfl (takes_of rfl rfl rfl rfl) (pmk_E (k := 0) (okx_BadText T) (hr.mono (by omega)) (pa_cons (pv 3) pa_nil)))) pss_nil) (Evl.pss_cut (ps_set (i := 5) sc_read_item.nd rfl (Or.inl rfl) (pe_ifExp (pt_cmpR (opEq K hr.units) (pv 4) (pe_S []) (nomark _)) pe_int (pe_callTy call_intTx (by rfl) T.b_int (by decide +kernel) (pa_cons (pv 4) pa_nil)))) (pss_cons (ps_if (pt_cmpR (opNe K hr.units) (pe_ix (ixK K) (pv 0) (pv 1) (fun _ _ => rfl)) (pe_S [40]) (nomark _)) (pss_one (ps_ret (pe_tup (pa_cons (pe_f (ok_repeated (K := K) T) (hr.mono (by omega)) pass0 (pa_cons (pe_tup (pa_cons pe_int (pa_cons (pe_ix (ixK K) (pv 0) (pv 1) (fun _ _ => rfl)) pa_nil))) (pa_cons (pv 5) pa_nil))) (pa_cons (pe_op (opAdd K) (pv 1) pe_int) pa_nil))))) pss_nil) (pss_cons (ps_if (pt_cmpR (opEq K hr.units) (pv 2) (pe_gI 6 T.g_MOST_OPEN) (nomark _)) (pss_one (ps_raiseP rfl (takes_of rfl rfl rfl rfl) (pmk_E (k := 0) (okx_BadText T) (hr.mono (by omega)) (pa_cons (pv 1) pa_nil)))) pss_nil) (pss_cons (ps_asg (pe_f R (hr.mono (by omega)) (passes_call (takes_of rfl rfl rfl rfl) (fun _ _ _ _ h => h)) (pa_cons (pv 0) (pa_cons (pe_op (opAdd K) (pv 1) pe_int) (pa_cons (pe_op (opAdd K) (pv 2) pe_int) pa_nil)))) (pgTup (n := 2) K rfl (pgs_cons (pg_name (i := 6) sc_read_item.nd rfl (Or.inl rfl)) (pgs_cons (pg_name (i := 1) sc_read_item.nd rfl (Or.inl rfl)) pgs_nil)))) (pss_cons (ps_if (pw_or (pt_cmpR (opEq K hr.units) (pv 1) (pe_callB (cLen K) (by rfl) T.b_len (by decide +kernel) (pa_cons (pv 0) pa_nil)) (nomark _)) (pw_or1 (pt_cmpR (opNe K hr.units) (pe_ix (ixK K) (pv 0) (pv 1) (fun _ _ => rfl)) (pe_S [41]) (nomark _)))).pt (pss_one (ps_raiseP rfl (takes_of rfl rfl rfl rfl) (pmk_E (k := 0) (okx_BadText T) (hr.mono (by omega)) (pa_cons (pv 1) pa_nil)))) pss_nil) (pss_one (ps_ret (pe_tup (pa_cons (pe_f (ok_repeated (K := K) T) (hr.mono (by omega)) pass0 (pa_cons (pv 6) (pa_cons (pv 5) pa_nil))) (pa_cons (pe_op (opAdd K) (pv 1) pe_int) pa_nil)))))))))))))))), ?_⟩
  show (_ : TS) { nx := fun _ H' => Q .non H', rt := Q } [some x, some y, some z, none, none, none, none] H
  obtain ⟨z, a, o, rfl, rfl, rfl, ho, hz, ha, h⟩ := h
  replace h : Out C_BadText H Q E (item (rpOf z d) z a) := rdItem_item z d ▸ h
  have ba := bd_le ha
  have ga := bd_ge z a
  have dg := run_digits z a
  have rl : (run z a).length ≤ z.length := by unfold bd at ba; omega
  unfold item at h
  walk_at "go"
  refine ⟨z, a, rfl, rfl, by omega, ha, ?_⟩
  walk_at "go"
  refine i_sl_str (by omega) ?_
  rw [cutN_run ha]
  generalize hrun : run z a = r at *
  generalize hb : bd z a = b at *
  walk_at "go"
  rw [show Int.toNat 1 = 1 from rfl]
  refine i_dec (fun e => ?_) (fun e => ?_)
  · rw [if_pos e] at h
    walk_at "go"
    intro dd nd
    exact Rz.at h nd
  rw [if_neg e] at h
  walk_at "go"
  refine i_cut (fun σ H' => ∃ c, σ = [some (S z), some (.int (b : Int)), some (.int o), some (.int (a : Int)), some (S r), none, none] ∧ H' = H ∧ z[b]? = some c ∧ ¬ (c ∉ SG ∧ c ≠ 40)) ?_ ?_
  · walk_at "go"
    by_cases hl : b < z.length
    case neg =>
      rw [List.getElem?_eq_none (by omega)] at h
      refine i_dec (fun _ => ?_) (fun e' => absurd (by omega) e')
      walk_at "go"
      intro dd nd
      exact Rz.at h nd
    have hc : z[b]? = some z[b] := List.getElem?_eq_getElem hl
    rw [hc] at h
    generalize z[b] = c at *
    dsimp only at h
    have ixc : ∀ {H : Hp} {Q : VK}, Q (S [c]) H → ixP K (S z) (.int (b : Int)) H Q := fun k => i_ix_str (by omega) (by omega) (by rw [Int.toNat_natCast]; exact hc) k
    refine i_dec (fun e' => absurd e' (by omega)) (fun _ => ?_)
    walk_at "go"
    refine ixc ?_
    walk_at "go"
    refine i_decN (fun e1 => ?_) (fun e1 => ?_)
    · walk_at "go"
      refine ixc ?_
      walk_at "go"
      refine i_decN (fun e2 => ?_) (fun e2 => ?_)
      · walk_at "go"
        intro dd nd
        have h : Rz E H C_BadText "at" (.int (b : Int)) := by
          rw [show (if c ∉ SG ∧ c ≠ 40 then Except.error b else _ : Res) = .error b from if_pos ⟨e1, fun z => e2 (by rw [z])⟩] at h
          exact h
        exact Rz.at h nd
      · exact ⟨c, rfl, rfl, hc, fun z => z.2 (List.cons.inj e2).1⟩
    · walk_at "go"
      exact ⟨c, rfl, rfl, hc, fun z => z.1 e1⟩
  rintro σ H' ⟨c, rfl, rfl, hc, hg⟩
  have hl := (List.getElem?_eq_some_iff.mp hc).1
  have ixc : ∀ {H : Hp} {Q : VK}, Q (S [c]) H → ixP K (S z) (.int (b : Int)) H Q := fun k => i_ix_str (by omega) (by omega) (by rw [Int.toNat_natCast]; exact hc) k
  rw [hc] at h
  dsimp only at h
  replace h : Out C_BadText H' Q E (if r ≠ [] ∧ within r 2 24 = false then .error a else if c ≠ 40 then .ok (rep (1, [c]) (timesOf r), b + 1) else match rpOf z d with | none => .error b | some f => close z (timesOf r) (f (b + 1))) := by
    rw [show (if c ∉ SG ∧ c ≠ 40 then Except.error b else _ : Res) = _ from if_neg hg] at h
    exact h
  refine i_cut (fun σ H2 => σ = [some (S z), some (.int (b : Int)), some (.int o), some (.int (a : Int)), some (S r), none, none] ∧ H2 = H' ∧ ¬ (r ≠ [] ∧ within r 2 24 = false)) ?_ ?_
  · walk_at "go"
    refine i_decN (fun e1 => ?_) (fun e1 => ?_)
    · walk_at "go"
      refine ⟨r, 2, 24, rfl, rfl, rfl, by omega, dg, ?_⟩
      walk_at "go"
      cases hw : within r 2 24 with
      | true =>
        walk_at "go"
        exact ⟨rfl, rfl, fun z => by cases z.2⟩
      | false =>
        rw [if_pos ⟨e1, hw⟩] at h
        walk_at "go"
        intro dd nd
        exact Rz.at h nd
    · walk_at "go"
      exact ⟨rfl, rfl, fun z => z.1 e1⟩
  rintro σ H2 ⟨rfl, rfl, ht⟩
  rw [if_neg ht] at h
  obtain ⟨t1, t2, t3⟩ := times_ok ht
  refine i_cut (fun σ H3 => σ = [some (S z), some (.int (b : Int)), some (.int o), some (.int (a : Int)), some (S r), some (.int (timesOf r : Nat)), none] ∧ H3 = H2) ?_ ?_
  · walk_at "go"
    refine i_dec (fun e1 => ?_) (fun e1 => ?_)
    · walk_at "go"
      unfold timesOf
      rw [if_pos e1]
      exact ⟨rfl, rfl⟩
    · walk_at "go"
      have hw : within r 2 24 = true := by
        cases hw : within r 2 24 with
        | true => rfl
        | false => exact absurd ⟨e1, hw⟩ ht
      obtain ⟨w1, w2, _, _⟩ := within_iff.mp hw
      refine i_intTx w1 w2 dg ?_
      unfold timesOf
      rw [if_neg e1]
      exact ⟨rfl, rfl⟩
  rintro σ H3 ⟨rfl, rfl⟩
  generalize timesOf r = t at *
  walk_at "go"
  refine ixc ?_
  walk_at "go"
  refine i_decN (fun e1 => ?_) (fun e1 => ?_)
  · have ne : c ≠ 40 := fun z => e1 (by rw [z])
    rw [if_pos ne] at h
    walk_at "go"
    refine ixc ?_
    walk_at "go"
    refine i_new (by show 2 ≤ 100000; omega) fun p1 n1 => ?_
    walk_at "go"
    refine ⟨p1, 1, [c], t, rfl, rfl, upd_same, by omega, fun _ => rfl, t1, by omega, fun p2 n2 => ?_⟩
    walk_at "go"
    refine i_new (by show 2 ≤ 100000; omega) fun p3 n3 => ?_
    have s2 := (same_upd (o := .tup [.int 1, S [c]]) n1).trans (same_upd (o := Sv (1 * t) (rpt t [c])) n2)
    refine h p3 p2 _ (s2.trans (same_upd n3)) ?_ upd_same
    rw [upd_ne (fun e => by rw [← e, upd_same] at n3; cases n3), upd_same]
    rfl
  have e40 : c = 40 := (List.cons.inj e1).1
  rw [if_neg (fun z => z e40)] at h
  walk_at "go"
  cases d with
  | zero =>
    refine i_dec (fun _ => ?_) (fun e2 => absurd (by omega) e2)
    walk_at "go"
    intro dd nd
    exact Rz.at h nd
  | succ d =>
    refine i_dec (fun e2 => absurd e2 (by omega)) (fun _ => ?_)
    walk_at "go"
    replace h : Out C_BadText H3 Q E (close z t (rd z d (b + 1))) := h
    refine ⟨z, b + 1, o + 1, rfl, by rw [Int.natCast_add]; rfl, rfl, by omega, hz, by omega, ?_⟩
    show Out _ _ _ _ (rd z d (b + 1))
    cases hr2 : rd z d (b + 1) with
    | error k =>
      rw [hr2] at h
      exact h
    | ok se =>
      obtain ⟨s2, e2⟩ := se
      obtain ⟨g1, g2, g3, g4⟩ := rd_gd z d (b + 1) s2 e2 (by omega) hr2
      rw [hr2] at h
      intro p q H4 sm hq hp
      walk_at "go"
      unfold close at h
      dsimp only at h
      by_cases hl2 : e2 < z.length
      case neg =>
        rw [List.getElem?_eq_none (by omega), if_neg (by simp)] at h
        refine i_dec (fun _ => ?_) (fun e' => absurd (by omega) e')
        walk_at "go"
        intro dd nd
        exact Rz.at (Rz.mono h sm) nd
      have hc2 : z[e2]? = some z[e2] := List.getElem?_eq_getElem hl2
      rw [hc2] at h
      generalize z[e2] = c2 at *
      refine i_dec (fun e' => absurd e' (by omega)) (fun _ => ?_)
      walk_at "go"
      refine i_ix_str (c := c2) (by omega) (by omega) (by rw [Int.toNat_natCast]; exact hc2) ?_
      walk_at "go"
      refine i_decN (fun e' => ?_) (fun e' => ?_)
      · rw [if_neg (fun z => e' (by rw [Option.some.inj z]))] at h
        walk_at "go"
        intro dd nd
        exact Rz.at (Rz.mono h sm) nd
      · rw [if_pos (by rw [(List.cons.inj e').1])] at h
        walk_at "go"
        refine ⟨q, s2.1, s2.2, t, rfl, rfl, hq, g3, g4.2, t1, by omega, fun p2 n2 => ?_⟩
        walk_at "go"
        refine i_new (by show 2 ≤ 100000; omega) fun p3 n3 => ?_
        refine h p3 p2 _ ((sm.trans (same_upd n2)).trans (same_upd n3)) ?_ upd_same
        rw [upd_ne (fun e => by rw [← e, upd_same] at n3; cases n3), upd_same]
        rfl
end
end K06
namespace K06
open PySem PySem.Spec PyProof.Rows L2 Fg
local macro_rules | `(tactic| walk_at "sq") => `(tactic| first
  | assumption
  | exact .inl (.inl (by assumption))
  | exact .inl (.inl upd_same))
local macro_rules | `(tactic| walk_at "st") => `(tactic| first
  | assumption
  | exact .inl (.inl (by assumption))
  | exact .inl (.inl upd_same))
local macro_rules | `(tactic| walk_at "o") => `(tactic| first
  | omega
  | assumption
  | (simp only [List.length_append, List.length_take, List.length_drop, List.length_cons, List.length_nil, List.length_singleton, List.length_map, List.length_range, Int.toNat_natCast] ; omega))
local macro_rules | `(tactic| walk_at "s") => `(tactic| first
  | (with_reducible refine i_seq ?_)
  | (with_reducible refine i_asg ?_)
  | ((with_reducible refine' i_var ?h1 ?_); (case h1 => rfl))
  | (with_reducible refine i_c ?_)
  | ((with_reducible refine' i_gname' ?h1 ?_); (case h1 => (simp only [List.set_cons_zero, List.set_cons_succ]; rfl)))
  | (with_reducible refine i_op ?_)
  | (with_reducible refine i_ifS ?_)
  | (with_reducible refine i_for ?_)
  | (with_reducible refine i_test ?_)
  | (with_reducible refine i_B ?_)
  | (with_reducible refine i_exbl ?_)
  | (with_reducible refine i_exint ?_)
  | (with_reducible refine i_cb ?_)
  | (with_reducible refine i_nil ?_)
  | (with_reducible refine i_cons ?_)
  | (with_reducible refine i_ret ?_)
  | (with_reducible refine i_sl ?_)
  | (with_reducible refine i_nopart ?_)
  | (with_reducible refine i_part ?_)
  | (with_reducible refine i_add_int ?_)
  | (with_reducible refine i_sub ?_)
  | (with_reducible refine i_lt ?_)
  | ((with_reducible refine' i_mod ?h1 ?_); (case h1 => walk_at "o"))
  | ((with_reducible refine' i_fdiv ?h1 ?_); (case h1 => (refine cdiv_small ?_ ?_ <;> walk_at "o")))
  | ((with_reducible refine' i_sl_to ?h1 ?h2 ?_); (case h1 => walk_at "o"); (case h2 => walk_at "o"))
  | ((with_reducible refine' i_sl_from ?h1 ?h2 ?_); (case h1 => walk_at "o"); (case h2 => walk_at "o"))
  | ((with_reducible refine' i_add_str ?h1 ?_); (case h1 => walk_at "o"))
  | ((with_reducible refine' i_mul_int ?h1 ?_); (case h1 => first | (refine mul_small ?_ ?_ <;> walk_at "o") | (refine mul_smallR ?_ ?_ <;> walk_at "o")))
  | (with_reducible refine i_le ?_)
  | (with_reducible refine i_gt ?_)
  | (with_reducible refine i_ge ?_)
  | (with_reducible refine i_eq_int ?_)
  | (with_reducible refine i_eq_str ?_)
  | (with_reducible refine i_ne_int ?_)
  | (with_reducible refine i_ne_str ?_)
  | (with_reducible refine i_eq_bl ?_)
  | (with_reducible refine i_ne_bl ?_)
  | (with_reducible refine i_in_sg ?_)
  | (with_reducible refine i_notIn_sg ?_)
  | (with_reducible refine i_call ?_)
  | (with_reducible refine i_callS ?_)
  | (with_reducible refine i_sp1 ?_)
  | (with_reducible refine i_sp2 ?_)
  | (with_reducible refine i_sp3 ?_)
  | (with_reducible refine i_sp4 ?_)
  | (with_reducible refine i_sp1' ?_)
  | (with_reducible refine i_sp2' ?_)
  | (with_reducible refine i_sp3' ?_)
  | ((with_reducible refine' i_ix_lst ?h1 ?h2 ?_); (case h1 => walk_at "sq"); (case h2 => first | exact atI_nat rfl | rfl))
  | ((with_reducible refine' i_ix_tup ?h1 ?h2 ?_); (case h1 => walk_at "st"); (case h2 => first | exact atI_nat rfl | rfl))
  | (with_reducible refine i_gsub ?_)
  | (with_reducible refine i_par ?_)
  | (with_reducible refine i_lstRg1 ?_)
  | (with_reducible refine i_app ?_)
  | (with_reducible refine i_par2 ?_)
  | ((with_reducible refine' i_aug ?h1 ?_); (case h1 => rfl))
  | (with_reducible refine i_ipI ?_)
  | ((with_reducible refine' i_gtup2 ?h1 ?_); (case h1 => walk_at "st"))
  | (with_reducible refine i_int_bl ?_)
  | (with_reducible refine i_raise ?_)
  | (with_reducible refine i_mkE ?_)
  | (with_reducible refine i_ex1 ?_)
  | (with_reducible refine i_and ?_)
  | (with_reducible refine i_or ?_)
  | (with_reducible refine i_not ?_)
  | (with_reducible refine i_tt ?_)
  | (with_reducible refine i_ff ?_)
  | (with_reducible refine i_nott ?_)
  | (with_reducible refine i_notf ?_)
  | (with_reducible refine i_andV ?_)
  | (with_reducible refine i_orV ?_)
  | (with_reducible refine i_notV ?_)
  | (with_reducible refine i_ifE ?_)
  | (with_reducible refine i_tup ?_)
  | (with_reducible refine i_lst ?_)
  | (with_reducible refine i_un ?_)
  | (with_reducible refine i_neg ?_)
  | (with_reducible refine i_chain ?_)
  | (with_reducible refine i_next ?_)
  | (with_reducible refine i_retN ?_)
  | (with_reducible refine i_drop ?_)
  | (with_reducible refine i_int_int ?_)
  | (with_reducible refine i_abs ?_)
  | (with_reducible refine i_m1c ?_)
  | (with_reducible refine i_is_non ?_)
  | (with_reducible refine i_is_int ?_)
  | (with_reducible refine i_is_bl ?_)
  | (with_reducible refine i_isn_bl ?_)
  | (with_reducible refine i_is_str ?_)
  | (with_reducible refine i_is_ref ?_)
  | (with_reducible refine i_isn_non ?_)
  | (with_reducible refine i_isn_int ?_)
  | (with_reducible refine i_isn_str ?_)
  | (with_reducible refine i_isn_ref ?_)
  | (with_reducible refine i_len_str ?h1 ?_; (case h1 => walk_at "o"))
  | (with_reducible refine i_dget ?_)
  | (with_reducible refine i_tru ?_)
  | (with_reducible refine i_dput ?_)
  | (with_reducible refine i_dnotin ?_)
  | (with_reducible refine i_din ?_)
  | (with_reducible refine i_isi_int_int ?_) | (with_reducible refine i_isi_int_bool ?_) | (with_reducible refine i_isi_int_str ?_) | (with_reducible refine i_isi_int_tuple ?_) | (with_reducible refine i_isi_int_list ?_)
  | (with_reducible refine i_isi_bl_int ?_) | (with_reducible refine i_isi_bl_bool ?_) | (with_reducible refine i_isi_bl_str ?_) | (with_reducible refine i_isi_bl_tuple ?_) | (with_reducible refine i_isi_bl_list ?_)
  | (with_reducible refine i_isi_str_int ?_) | (with_reducible refine i_isi_str_bool ?_) | (with_reducible refine i_isi_str_str ?_) | (with_reducible refine i_isi_str_tuple ?_) | (with_reducible refine i_isi_str_list ?_)
  | (with_reducible refine i_isi_non_int ?_) | (with_reducible refine i_isi_non_bool ?_) | (with_reducible refine i_isi_non_str ?_) | (with_reducible refine i_isi_non_tuple ?_) | (with_reducible refine i_isi_non_list ?_))
local macro_rules | `(tactic| walk_at "go") => `(tactic| (repeat' (walk_at "s")))
local macro_rules | `(tactic| walk_at "n") => `(tactic| simp only [wipe, List.map_cons, List.map_nil, List.set_cons_zero, List.set_cons_succ])
theorem flat_one' (k : Nat) : (List.replicate k [46]).flatten = List.replicate k 46 := by
  induction k with
  | zero => rfl
  | succ k ih => rw [List.replicate_succ, List.flatten_cons, ih, List.replicate_succ]; rfl
section
variable {P : Program} {w : World} {K : PySem.W.Frag} {mg : Str → Option Value} {base : Heap} {C_GlimError C_BadRound C_BadText C_TooLong : Addr}
def p_filled (C : Addr) : P3 := fun x y u H Q E => ∃ (z : List Nat) (a : Nat) (q : Addr) (p : Stv), x = S z ∧ y = .int (a : Int) ∧ u = .ref q ∧ H q = some (Sv p.1 p.2) ∧ (p.1 ≤ 24 → p.2.length = p.1) ∧ z.length ≤ 1700 ∧ a ≤ z.length ∧ Out C H Q E (filled z a p)
theorem ok_read_filled (T : Txt K mg C_GlimError C_BadRound C_BadText C_TooLong) : OK P w K mg base (L2.CX P w) 4 "read_filled" ["text", "at", "part"] (sp3  (p_filled C_BadText)) := by
  refine OK.mkX (k := 3) T.d_read_filled sc_read_filled len3 fun f cdv A outer s H vs Q E hr h => ?_
  obtain ⟨x, y, z, rfl, h⟩ := h
  refine ⟨_, (pss_cons (ps_set (i := 3) sc_read_filled.nd rfl (Or.inl rfl) (pe_f (ok_behind_digits (K := K) T) (hr.mono (by decide)) pass0 (pa_cons (pv 0) (pa_cons (pv 1) pa_nil)))) (pss_cons (ps_if (pt_cmpR (opEq K hr.units) (pv 3) (pv 1) (nomark _)) (pss_one (ps_raiseP rfl (takes_of rfl rfl rfl rfl) (pmk_E (k := 0) (okx_BadText T) (hr.mono (by decide)) (pa_cons (pv 1) pa_nil)))) pss_nil) (pss_cons (ps_set (i := 4) sc_read_filled.nd rfl (Or.inl rfl) (pe_slice (slK K) (pv 0) (po_some (pv 1)) (po_some (pv 3)))) (Evl.pss_cut (ps_if (pw_or (pt_cmpR (opEq K hr.units) (pe_ix (ixK K) (pv 4) pe_int (fun _ _ => rfl)) (pe_S [48]) (nomark _)) (pw_or1 (pt_not (pt_val (pe_f (ok_is_within (K := K) T) (hr.mono (by decide)) pass0 (pa_cons (pv 4) (pa_cons (pe_callB (call_max2 rfl) (by rfl) T.b_max (by decide +kernel) (pa_cons pe_int (pa_cons (pe_ix (ixK K) (pv 2) pe_int (fun _ _ => rfl)) pa_nil))) (pa_cons (pe_gI 24 T.g_MOST_ROUND) pa_nil)))))))).pt (pss_one (ps_raiseP rfl (takes_of rfl rfl rfl rfl) (pmk_E (k := 0) (okx_BadText T) (hr.mono (by decide)) (pa_cons (pv 1) pa_nil)))) pss_nil) (pss_cons (ps_set (i := 5) sc_read_filled.nd rfl (Or.inl rfl) (pe_callTy call_intTx (by rfl) T.b_int (by decide +kernel) (pa_cons (pv 4) pa_nil))) (pss_one (ps_ret (pe_tup (pa_cons (pe_tup (pa_cons (pv 5) (pa_cons (pe_op (opAdd K) (pe_ix (ixK K) (pv 2) pe_int (fun _ _ => rfl)) (pe_op op_mulP (pe_S [46]) (pe_op op_subP (pv 5) (pe_ix (ixK K) (pv 2) pe_int (fun _ _ => rfl))))) pa_nil))) (pa_cons (pv 3) pa_nil)))))))))), ?_⟩
  show (_ : TS) { nx := fun _ H' => Q .non H', rt := Q } [some x, some y, some z, none, none, none] H
  obtain ⟨z, a, q, ⟨n, l⟩, rfl, rfl, rfl, hq, hl, hz, ha, h⟩ := h
  dsimp only at hq hl
  have ba := bd_le ha
  have ga := bd_ge z a
  have dg := run_digits z a
  have rl : (run z a).length ≤ z.length := by unfold bd at ba; omega
  have rb := bd_eq (z := z) (a := a)
  unfold filled at h
  walk_at "go"
  refine ⟨z, a, rfl, rfl, by omega, ha, ?_⟩
  walk_at "go"
  refine i_dec (fun e => ?_) (fun e => ?_)
  · rw [if_pos (rb.mp (by omega))] at h
    walk_at "go"
    intro dd nd
    exact Rz.at h nd
  have rne : run z a ≠ [] := fun e' => e (by rw [rb.mpr e'])
  rw [if_neg rne] at h
  walk_at "go"
  refine i_sl_str (by omega) ?_
  rw [cutN_run ha]
  clear rb
  generalize run z a = r at *
  generalize bd z a = b at *
  walk_at "go"
  obtain ⟨c, r', rfl⟩ : ∃ c r', r = c :: r' := by
    cases r with
    | nil => exact absurd rfl rne
    | cons c r' => exact ⟨c, r', rfl⟩
  refine i_cut (fun σ H' => σ = [some (S z), some (.int (a : Int)), some (.ref q), some (.int (b : Int)), some (S (c :: r')), none] ∧ H' = H ∧ ¬ ((c :: r').take 1 = [48] ∨ within (c :: r') (max 1 n) 24 = false)) ?_ ?_
  · walk_at "go"
    refine i_ix_str (c := c) (by omega) (by decide) rfl ?_
    walk_at "go"
    refine i_dec (fun e1 => ?_) (fun e1 => ?_)
    · rw [if_pos (.inl e1)] at h
      walk_at "go"
      intro dd nd
      exact Rz.at h nd
    · unfold Sv at hq
      walk_at "go"
      refine ⟨1, (n : Int), rfl, ?_⟩
      have em : (if (n : Int) > 1 then (n : Int) else 1) = ((max 1 n : Nat) : Int) := by split <;> omega
      rw [em]
      walk_at "go"
      refine ⟨c :: r', max 1 n, 24, rfl, rfl, rfl, by omega, dg, ?_⟩
      walk_at "go"
      cases hw : within (c :: r') (max 1 n) 24 with
      | true =>
        walk_at "go"
        exact ⟨rfl, rfl, fun z => z.elim e1 (fun z => nomatch z)⟩
      | false =>
        rw [if_pos (.inr hw)] at h
        walk_at "go"
        intro dd nd
        exact Rz.at h nd
  rintro σ H' ⟨rfl, rfl, hg⟩
  rw [if_neg hg] at h
  have hw : within (c :: r') (max 1 n) 24 = true := by
    cases hw : within (c :: r') (max 1 n) 24 with
    | true => rfl
    | false => exact absurd (.inr hw) hg
  obtain ⟨w1, w2, w3, w4⟩ := within_iff.mp hw
  walk_at "go"
  refine i_intTx w1 w2 dg ?_
  generalize num (c :: r') = m at *
  have hn : n ≤ 24 := by omega
  unfold Sv at hq
  rw [if_pos hn] at hq
  walk_at "go"
  refine i_mul_strI (by omega) ⟨by show 1 * _ ≤ _; omega, by omega⟩ ?_
  rw [flat_one', show ((m : Int) - (n : Int)).toNat = m - n by omega]
  walk_at "go"
  refine i_add_str (by rw [hl hn, List.length_replicate]; omega) ?_
  walk_at "go"
  refine i_new (by show 2 ≤ 100000; omega) fun p1 n1 => ?_
  walk_at "go"
  refine i_new (by show 2 ≤ 100000; omega) fun p2 n2 => ?_
  refine h p2 p1 _ ((same_upd n1).trans (same_upd n2)) ?_ upd_same
  rw [upd_ne (fun e => by rw [← e, upd_same] at n2; cases n2), upd_same]
  show _ = some (HO.tup [.int (m : Int), if m ≤ 24 then _ else _])
  rw [if_pos w4]
  rfl
theorem ok_read_part (T : Txt K mg C_GlimError C_BadRound C_BadText C_TooLong) (d : Nat) (R : OK P w K mg base (L2.CX P w) (3 * d + 4) "read_item" ["text", "at", "opened"] (sp3 (p_rdp C_BadText (fun z => rdItem z d) d))) :
    OK P w K mg base (L2.CX P w) (3 * d + 5) "read_part" ["text", "at", "opened"] (sp3 (p_rdp C_BadText (fun z => Fg.part (rdItem z d) z) d)) := by
  refine OK.mkX (k := 3 * d + 4) T.d_read_part sc_read_part len3 fun f cdv A outer s H vs Q E hr h => ?_
  obtain ⟨x, y, z, rfl, h⟩ := h
  refine ⟨_, (pss_cons (ps_set (i := 3) sc_read_part.nd rfl (Or.inl rfl) (pe_tup (pa_cons pe_int (pa_cons (pe_S []) pa_nil)))) (Evl.pss_cut (ps_while (passes_of rfl) (pw_and (pt_cmpR op_ltP (pv 1) (pe_callB (cLen K) (by rfl) T.b_len (by decide +kernel) (pa_cons (pv 0) pa_nil)) (nomark _)) (pw_and1 (pw_or (pt_cmpR (opIn K) (pe_ix (ixK K) (pv 0) (pv 1) (fun _ _ => rfl)) (pe_gS [46, 103, 114, 119] T.g_SIGNS) (by with_unfolding_all rfl)) (pw_or1 (pt_cmpR (opIn K) (pe_ix (ixK K) (pv 0) (pv 1) (fun _ _ => rfl)) (pe_gS [48, 49, 50, 51, 52, 53, 54, 55, 56, 57] T.g_DIGITS) (by with_unfolding_all rfl)))).pt)).pt (pss_cons (ps_asg (pe_f R (hr.mono (by omega)) (passes_call (takes_of rfl rfl rfl rfl) (fun _ _ _ _ h => h)) (pa_cons (pv 0) (pa_cons (pv 1) (pa_cons (pv 2) pa_nil)))) (pgTup (n := 2) K rfl (pgs_cons (pg_name (i := 4) sc_read_part.nd rfl (Or.inl rfl)) (pgs_cons (pg_name (i := 1) sc_read_part.nd rfl (Or.inl rfl)) pgs_nil)))) (pss_one (ps_set (i := 3) sc_read_part.nd rfl (Or.inl rfl) (pe_f (ok_put_behind (K := K) T) (hr.mono (by omega)) pass0 (pa_cons (pv 3) (pa_cons (pv 4) pa_nil))))))) (pss_cons (ps_if (pt_cmpR (opEq K hr.units) (pe_ix (ixK K) (pv 3) pe_int (fun _ _ => rfl)) pe_int (nomark _)) (pss_one (ps_raiseP rfl (takes_of rfl rfl rfl rfl) (pmk_E (k := 0) (okx_BadText T) (hr.mono (by omega)) (pa_cons (pv 1) pa_nil)))) pss_nil) (pss_cons (ps_if (pw_and (pt_cmpR op_ltP (pv 1) (pe_callB (cLen K) (by rfl) T.b_len (by decide +kernel) (pa_cons (pv 0) pa_nil)) (nomark _)) (pw_and1 (pt_cmpR (opEq K hr.units) (pe_ix (ixK K) (pv 0) (pv 1) (fun _ _ => rfl)) (pe_S [64]) (nomark _)))).pt (pss_one (ps_ret (pe_f (ok_read_filled (K := K) T) (hr.mono (by omega)) (passes_call (takes_of rfl rfl rfl rfl) (fun _ _ _ _ h => h)) (pa_cons (pv 0) (pa_cons (pe_op (opAdd K) (pv 1) pe_int) (pa_cons (pv 3) pa_nil)))))) pss_nil) (pss_one (ps_ret (pe_tup (pa_cons (pv 3) (pa_cons (pv 1) pa_nil))))))))), ?_⟩
  show (_ : TS) { nx := fun _ H' => Q .non H', rt := Q } [some x, some y, some z, none, none] H
  obtain ⟨z, a, o, rfl, rfl, rfl, ho, hz, ha, h⟩ := h
  replace h : Out C_BadText H Q E (Fg.part (rdItem z d) z a) := h
  unfold Fg.part at h
  have gd := rdItem_gd z d
  walk_at "go"
  refine i_new (by show 2 ≤ 100000; omega) fun p0 n0 => ?_
  walk_at "go"
  refine i_cut (fun σ H' => ∃ (b : Nat) (p : Stv) (pq : Addr) (v : Option V), σ = [some (S z), some (.int (b : Int)), some (.int o), some (.ref pq), v] ∧ a ≤ b ∧ b ≤ z.length ∧ Same H H' ∧ H' pq = some (Sv p.1 p.2) ∧ Gb p (b - a) ∧
    Out C_BadText H Q E (partEnd z p b)) ?_ ?_
  · refine i_while (fun m σ H' => ∃ (f b : Nat) (p : Stv) (pq : Addr) (v : Option V), m = z.length - b ∧ σ = [some (S z), some (.int (b : Int)), some (.int o), some (.ref pq), v] ∧ a ≤ b ∧ b ≤ z.length ∧ z.length + 1 ≤ f + b ∧ Same H H' ∧ H' pq = some (Sv p.1 p.2) ∧ Gb p (b - a) ∧
      Out C_BadText H Q E (goOn (partEnd z) (items (rdItem z d) z f b p))) (z.length - a) ⟨z.length + 1 - a, a, (0, []), p0, _, rfl, rfl, Nat.le_refl _, ha, by omega, same_upd n0, upd_same, ⟨by rw [Nat.sub_self]; decide, fun _ => rfl⟩, h⟩ ?_
    rintro m σ H' ⟨f, b, p, pq, v, rfl, rfl, hab, hb, hf, s1, hp, gp, h⟩
    obtain ⟨f', rfl⟩ : ∃ f', f = f' + 1 := ⟨f - 1, by omega⟩
    unfold items at h
    walk_at "go"
    by_cases hl : b < z.length
    case neg =>
      rw [List.getElem?_eq_none (by omega)] at h
      refine i_dec (fun e => absurd (by omega) hl) (fun _ => ?_)
      walk_at "go"
      exact ⟨b, p, pq, v, rfl, hab, hb, s1, hp, gp, h⟩
    have hc : z[b]? = some z[b] := List.getElem?_eq_getElem hl
    rw [hc] at h
    generalize z[b] = c at *
    dsimp only at h
    have ixc : ∀ {H : Hp} {Q : VK}, Q (S [c]) H → ixP K (S z) (.int (b : Int)) H Q := fun k => i_ix_str (by omega) (by omega) (by rw [Int.toNat_natCast]; exact hc) k
    have turn : isStart c = true → tSeq (tAsg (tCall (sp3 (p_rdp C_BadText (fun z => rdItem z d) d)) [] E (tCons (tVar 0) (tCons (tVar 1) (tCons (tVar 2) tNil)))) (gTup K 2 (gCons (gName 4) (gCons (gName 1) gNil)))) (tAsg (tCall (sp2 p_behind) [] E0 (tCons (tVar 3) (tCons (tVar 4) tNil))) (gName 3))
        { nx := fun σ' H2 => ∃ m', m' < z.length - b ∧ ∃ (f b : Nat) (p : Stv) (pq : Addr) (v : Option V), m' = z.length - b ∧ σ' = [some (S z), some (.int (b : Int)), some (.int o), some (.ref pq), v] ∧ a ≤ b ∧ b ≤ z.length ∧ z.length + 1 ≤ f + b ∧ Same H H2 ∧ H2 pq = some (Sv p.1 p.2) ∧ Gb p (b - a) ∧ Out C_BadText H Q E (goOn (partEnd z) (items (rdItem z d) z f b p)), rt := Q }
        [some (S z), some (.int (b : Int)), some (.int o), some (.ref pq), v] H' := fun hs => by
      rw [if_pos hs] at h
      walk_at "go"
      refine ⟨z, b, o, rfl, rfl, rfl, ho, hz, hb, ?_⟩
      show Out _ _ _ _ (rdItem z d b)
      cases hr2 : rdItem z d b with
      | error k =>
        rw [hr2] at h
        exact Rz.mono h s1
      | ok se =>
        obtain ⟨s2, e2⟩ := se
        obtain ⟨g1, g2, g3, g4⟩ := gd b s2 e2 (by omega) hr2
        rw [hr2] at h
        intro p4 q4 H4 sm hq hp4
        walk_at "go"
        refine ⟨pq, q4, p.1, s2.1, p.2, s2.2, rfl, rfl, sm _ _ hp, hq, gp.2, g4.2, fun p5 n5 => ?_⟩
        walk_at "go"
        refine ⟨z.length - e2, by omega, f', e2, beh p s2, p5, _, rfl, rfl, by omega, g2, by omega, (s1.trans sm).trans (same_upd n5), upd_same, ?_, h⟩
        have := gp.beh g4
        rw [show b - a + (e2 - b) = e2 - a by omega] at this
        exact this
    have stop : isStart c = false → Out C_BadText H Q E (partEnd z p b) := fun hs => by
      rw [if_neg (by rw [hs]; decide)] at h
      exact h
    refine i_dec (fun _ => ?_) (fun e => absurd (by omega) e)
    walk_at "go"
    refine ixc ?_
    walk_at "go"
    refine i_dec (fun e1 => ?_) (fun e1 => ?_)
    · walk_at "go"
      refine i_turn ?_
      exact turn (by unfold isStart; rw [decide_eq_true e1]; rfl)
    walk_at "go"
    refine ixc ?_
    walk_at "go"
    refine i_dec (fun e2 => i_turn ?_) (fun e2 => ?_)
    · exact turn (by unfold isStart; rw [decide_eq_true e2, Bool.or_true])
    · exact ⟨b, p, pq, v, rfl, hab, hb, s1, hp, gp, stop (by unfold isStart; rw [decide_eq_false e1, decide_eq_false e2]; rfl)⟩
  · rintro σ H' ⟨b, ⟨n, l⟩, pq, v, rfl, hab, hb, s1, hp, gp, h⟩
    unfold partEnd at h
    dsimp only at h hp
    have ps : H' pq = some (.tup [.int (n : Int), if n ≤ 24 then S l else .non]) := hp
    walk_at "go"
    refine i_dec (fun e => ?_) (fun e => ?_)
    · rw [if_pos (by omega)] at h
      walk_at "go"
      intro dd nd
      exact Rz.at (Rz.mono h s1) nd
    rw [if_neg (by omega)] at h
    walk_at "go"
    have plain : Out C_BadText H Q E (.ok ((n, l), b)) → ∀ p4, H' p4 = none → Q (.ref p4) (upd H' p4 (.tup [.ref pq, .int (b : Int)])) := fun h p4 n4 =>
      h p4 pq _ (s1.trans (same_upd n4)) ((upd_ne (ne_of_none hp n4)).trans hp) upd_same
    by_cases hl : b < z.length
    case neg =>
      rw [List.getElem?_eq_none (by omega), if_neg (by simp)] at h
      refine i_dec (fun e => absurd (by omega) hl) (fun _ => ?_)
      walk_at "go"
      exact i_new (by show 2 ≤ 100000; omega) (plain h)
    have hc : z[b]? = some z[b] := List.getElem?_eq_getElem hl
    rw [hc] at h
    generalize z[b] = c at *
    refine i_dec (fun _ => ?_) (fun e => absurd (by omega) e)
    walk_at "go"
    refine i_ix_str (c := c) (by omega) (by omega) (by rw [Int.toNat_natCast]; exact hc) ?_
    walk_at "go"
    refine i_dec (fun e2 => ?_) (fun e2 => ?_)
    · rw [if_pos (by rw [(List.cons.inj e2).1])] at h
      walk_at "go"
      refine ⟨z, b + 1, pq, (n, l), rfl, by rw [Int.natCast_add]; rfl, rfl, hp, gp.2, hz, by omega, ?_⟩
      revert h
      generalize filled z (b + 1) (n, l) = r
      cases r with
      | error k => exact fun h => Rz.mono h s1
      | ok se => exact fun h p q H2 s2 => h p q H2 (s1.trans s2)
    · rw [if_neg (fun z => e2 (by rw [Option.some.inj z]))] at h
      walk_at "go"
      exact i_new (by show 2 ≤ 100000; omega) (plain h)
end
end K06
namespace K06
open PySem PySem.Spec PyProof.Rows L2 Fg
local macro_rules | `(tactic| walk_at "sq") => `(tactic| first
  | assumption
  | exact .inl (.inl (by assumption))
  | exact .inl (.inl upd_same))
local macro_rules | `(tactic| walk_at "st") => `(tactic| first
  | assumption
  | exact .inl (.inl (by assumption))
  | exact .inl (.inl upd_same))
local macro_rules | `(tactic| walk_at "o") => `(tactic| first
  | omega
  | assumption
  | (simp only [List.length_append, List.length_take, List.length_drop, List.length_cons, List.length_nil, List.length_singleton, List.length_map, List.length_range, Int.toNat_natCast] ; omega))
local macro_rules | `(tactic| walk_at "s") => `(tactic| first
  | (with_reducible refine i_seq ?_)
  | (with_reducible refine i_asg ?_)
  | ((with_reducible refine' i_var ?h1 ?_); (case h1 => rfl))
  | (with_reducible refine i_c ?_)
  | ((with_reducible refine' i_gname' ?h1 ?_); (case h1 => (simp only [List.set_cons_zero, List.set_cons_succ]; rfl)))
  | (with_reducible refine i_op ?_)
  | (with_reducible refine i_ifS ?_)
  | (with_reducible refine i_for ?_)
  | (with_reducible refine i_test ?_)
  | (with_reducible refine i_B ?_)
  | (with_reducible refine i_exbl ?_)
  | (with_reducible refine i_exint ?_)
  | (with_reducible refine i_cb ?_)
  | (with_reducible refine i_nil ?_)
  | (with_reducible refine i_cons ?_)
  | (with_reducible refine i_ret ?_)
  | (with_reducible refine i_sl ?_)
  | (with_reducible refine i_nopart ?_)
  | (with_reducible refine i_part ?_)
  | (with_reducible refine i_add_int ?_)
  | (with_reducible refine i_sub ?_)
  | (with_reducible refine i_lt ?_)
  | ((with_reducible refine' i_mod ?h1 ?_); (case h1 => walk_at "o"))
  | ((with_reducible refine' i_fdiv ?h1 ?_); (case h1 => (refine cdiv_small ?_ ?_ <;> walk_at "o")))
  | ((with_reducible refine' i_sl_to ?h1 ?h2 ?_); (case h1 => walk_at "o"); (case h2 => walk_at "o"))
  | ((with_reducible refine' i_sl_from ?h1 ?h2 ?_); (case h1 => walk_at "o"); (case h2 => walk_at "o"))
  | ((with_reducible refine' i_add_str ?h1 ?_); (case h1 => walk_at "o"))
  | ((with_reducible refine' i_mul_int ?h1 ?_); (case h1 => first | (refine mul_small ?_ ?_ <;> walk_at "o") | (refine mul_smallR ?_ ?_ <;> walk_at "o")))
  | (with_reducible refine i_le ?_)
  | (with_reducible refine i_gt ?_)
  | (with_reducible refine i_ge ?_)
  | (with_reducible refine i_eq_int ?_)
  | (with_reducible refine i_eq_str ?_)
  | (with_reducible refine i_ne_int ?_)
  | (with_reducible refine i_ne_str ?_)
  | (with_reducible refine i_eq_bl ?_)
  | (with_reducible refine i_ne_bl ?_)
  | (with_reducible refine i_in_sg ?_)
  | (with_reducible refine i_notIn_sg ?_)
  | (with_reducible refine i_call ?_)
  | (with_reducible refine i_callS ?_)
  | (with_reducible refine i_sp1 ?_)
  | (with_reducible refine i_sp2 ?_)
  | (with_reducible refine i_sp3 ?_)
  | (with_reducible refine i_sp4 ?_)
  | (with_reducible refine i_sp1' ?_)
  | (with_reducible refine i_sp2' ?_)
  | (with_reducible refine i_sp3' ?_)
  | ((with_reducible refine' i_ix_lst ?h1 ?h2 ?_); (case h1 => walk_at "sq"); (case h2 => first | exact atI_nat rfl | rfl))
  | ((with_reducible refine' i_ix_tup ?h1 ?h2 ?_); (case h1 => walk_at "st"); (case h2 => first | exact atI_nat rfl | rfl))
  | (with_reducible refine i_gsub ?_)
  | (with_reducible refine i_par ?_)
  | (with_reducible refine i_lstRg1 ?_)
  | (with_reducible refine i_app ?_)
  | (with_reducible refine i_par2 ?_)
  | ((with_reducible refine' i_aug ?h1 ?_); (case h1 => rfl))
  | (with_reducible refine i_ipI ?_)
  | ((with_reducible refine' i_gtup2 ?h1 ?_); (case h1 => walk_at "st"))
  | (with_reducible refine i_int_bl ?_)
  | (with_reducible refine i_raise ?_)
  | (with_reducible refine i_mkE ?_)
  | (with_reducible refine i_ex1 ?_)
  | (with_reducible refine i_and ?_)
  | (with_reducible refine i_or ?_)
  | (with_reducible refine i_not ?_)
  | (with_reducible refine i_tt ?_)
  | (with_reducible refine i_ff ?_)
  | (with_reducible refine i_nott ?_)
  | (with_reducible refine i_notf ?_)
  | (with_reducible refine i_andV ?_)
  | (with_reducible refine i_orV ?_)
  | (with_reducible refine i_notV ?_)
  | (with_reducible refine i_ifE ?_)
  | (with_reducible refine i_tup ?_)
  | (with_reducible refine i_lst ?_)
  | (with_reducible refine i_un ?_)
  | (with_reducible refine i_neg ?_)
  | (with_reducible refine i_chain ?_)
  | (with_reducible refine i_next ?_)
  | (with_reducible refine i_retN ?_)
  | (with_reducible refine i_drop ?_)
  | (with_reducible refine i_int_int ?_)
  | (with_reducible refine i_abs ?_)
  | (with_reducible refine i_m1c ?_)
  | (with_reducible refine i_is_non ?_)
  | (with_reducible refine i_is_int ?_)
  | (with_reducible refine i_is_bl ?_)
  | (with_reducible refine i_isn_bl ?_)
  | (with_reducible refine i_is_str ?_)
  | (with_reducible refine i_is_ref ?_)
  | (with_reducible refine i_isn_non ?_)
  | (with_reducible refine i_isn_int ?_)
  | (with_reducible refine i_isn_str ?_)
  | (with_reducible refine i_isn_ref ?_)
  | (with_reducible refine i_len_str ?h1 ?_; (case h1 => walk_at "o"))
  | (with_reducible refine i_dget ?_)
  | (with_reducible refine i_tru ?_)
  | (with_reducible refine i_dput ?_)
  | (with_reducible refine i_dnotin ?_)
  | (with_reducible refine i_din ?_)
  | (with_reducible refine i_isi_int_int ?_) | (with_reducible refine i_isi_int_bool ?_) | (with_reducible refine i_isi_int_str ?_) | (with_reducible refine i_isi_int_tuple ?_) | (with_reducible refine i_isi_int_list ?_)
  | (with_reducible refine i_isi_bl_int ?_) | (with_reducible refine i_isi_bl_bool ?_) | (with_reducible refine i_isi_bl_str ?_) | (with_reducible refine i_isi_bl_tuple ?_) | (with_reducible refine i_isi_bl_list ?_)
  | (with_reducible refine i_isi_str_int ?_) | (with_reducible refine i_isi_str_bool ?_) | (with_reducible refine i_isi_str_str ?_) | (with_reducible refine i_isi_str_tuple ?_) | (with_reducible refine i_isi_str_list ?_)
  | (with_reducible refine i_isi_non_int ?_) | (with_reducible refine i_isi_non_bool ?_) | (with_reducible refine i_isi_non_str ?_) | (with_reducible refine i_isi_non_tuple ?_) | (with_reducible refine i_isi_non_list ?_))
local macro_rules | `(tactic| walk_at "go") => `(tactic| (repeat' (walk_at "s")))
local macro_rules | `(tactic| walk_at "n") => `(tactic| simp only [wipe, List.map_cons, List.map_nil, List.set_cons_zero, List.set_cons_succ])
theorem Out.mono {C : Addr} {H H' : Hp} {Q : VK} {E : XK} {r : Res} (h : Out C H Q E r) (s : Same H H') : Out C H' Q E r := by
  cases r with
  | error k => exact Rz.mono h s
  | ok se => exact fun p q H2 s2 => h p q H2 (s.trans s2)
section
variable {P : Program} {w : World} {K : PySem.W.Frag} {mg : Str → Option Value} {base : Heap} {C_GlimError C_BadRound C_BadText C_TooLong : Addr}
theorem ok_read_parts (T : Txt K mg C_GlimError C_BadRound C_BadText C_TooLong) (d : Nat) (R : OK P w K mg base (L2.CX P w) (3 * d + 5) "read_part" ["text", "at", "opened"] (sp3 (p_rdp C_BadText (fun z => Fg.part (rdItem z d) z) d))) :
    OK P w K mg base (L2.CX P w) (3 * d + 6) "read_parts" ["text", "at", "opened"] (sp3 (PD C_BadText (d + 1))) := by
  refine OK.mkX (k := 3 * d + 5) T.d_read_parts sc_read_parts len3 fun f cdv A outer s H vs Q E hr h => ?_
  obtain ⟨x, y, z, rfl, h⟩ := h
  refine ⟨_, (pss_cons (ps_asg (pe_f R (hr.mono (by omega)) (passes_call (takes_of rfl rfl rfl rfl) (fun _ _ _ _ h => h)) (pa_cons (pv 0) (pa_cons (pv 1) (pa_cons (pv 2) pa_nil)))) (pgTup (n := 2) K rfl (pgs_cons (pg_name (i := 3) sc_read_parts.nd rfl (Or.inl rfl)) (pgs_cons (pg_name (i := 1) sc_read_parts.nd rfl (Or.inl rfl)) pgs_nil)))) (pss_cons (ps_set (i := 4) sc_read_parts.nd rfl (Or.inl rfl) (pe_lst (pa_cons (pv 3) pa_nil))) (Evl.pss_cut (ps_while (passes_of rfl) (pw_and (pt_cmpR op_ltP (pv 1) (pe_callB (cLen K) (by rfl) T.b_len (by decide +kernel) (pa_cons (pv 0) pa_nil)) (nomark _)) (pw_and1 (pt_cmpR (opEq K hr.units) (pe_ix (ixK K) (pv 0) (pv 1) (fun _ _ => rfl)) (pe_S [38]) (nomark _)))).pt (pss_cons (ps_asg (pe_f R (hr.mono (by omega)) (passes_call (takes_of rfl rfl rfl rfl) (fun _ _ _ _ h => h)) (pa_cons (pv 0) (pa_cons (pe_op (opAdd K) (pv 1) pe_int) (pa_cons (pv 2) pa_nil)))) (pgTup (n := 2) K rfl (pgs_cons (pg_name (i := 3) sc_read_parts.nd rfl (Or.inl rfl)) (pgs_cons (pg_name (i := 1) sc_read_parts.nd rfl (Or.inl rfl)) pgs_nil)))) (pss_one (ps_expr (peApp K (pv 4) (pa_cons (pv 3) pa_nil)))))) (pss_one (ps_ret (pe_tup (pa_cons (pe_f (ok_shown_together (K := K) T) (hr.mono (by omega)) pass0 (pa_cons (pv 4) pa_nil)) (pa_cons (pv 1) pa_nil)))))))), ?_⟩
  show (_ : TS) { nx := fun _ H' => Q .non H', rt := Q } [some x, some y, some z, none, none] H
  obtain ⟨z, a, o, rfl, rfl, rfl, ho, hz, ha, h⟩ := h
  replace h : Out C_BadText H Q E (rd z d a) := h
  rw [rd_eq] at h
  unfold Fg.parts at h
  have gd := part_gd (rdItem_gd z d)
  walk_at "go"
  refine ⟨z, a, o, rfl, rfl, rfl, ho, hz, ha, ?_⟩
  show Out _ _ _ _ (Fg.part (rdItem z d) z a)
  cases hr1 : Fg.part (rdItem z d) z a with
  | error k =>
    rw [hr1] at h
    exact h
  | ok se =>
  obtain ⟨s1, e1⟩ := se
  obtain ⟨g1, g2, g3, g4⟩ := gd a s1 e1 ha hr1
  rw [hr1] at h
  intro p1 q1 H1 sm1 hq1 hp1
  walk_at "go"
  refine i_new (by show 1 ≤ 100000; omega) fun Dl nD => ?_
  walk_at "go"
  have nD0 := sm1.free nD
  refine i_cut (fun σ H' => ∃ (b : Nat) (ps : List Stv) (qs : List Addr) (v : Option V), σ = [some (S z), some (.int (b : Int)), some (.int o), v, some (.ref Dl)] ∧ a ≤ b ∧ b ≤ z.length ∧ Same H H' ∧ H' Dl = some (.lst (qs.map V.ref)) ∧ PartsAt H' qs ps ∧ ps.length ≤ b ∧ Gps ps (b - a) ∧
    Out C_BadText H Q E (.ok (shown ps, b))) ?_ ?_
  · refine i_while (fun m σ H' => ∃ (f b : Nat) (ps : List Stv) (qs : List Addr) (v : Option V), m = z.length - b ∧ σ = [some (S z), some (.int (b : Int)), some (.int o), v, some (.ref Dl)] ∧ a ≤ b ∧ b ≤ z.length ∧ z.length + 1 ≤ f + b ∧ Same H H' ∧ H' Dl = some (.lst (qs.map V.ref)) ∧ PartsAt H' qs ps ∧ ps.length ≤ b ∧ Gps ps (b - a) ∧
      Out C_BadText H Q E (more (Fg.part (rdItem z d) z) z f b ps)) (z.length - e1) ⟨z.length + 1 - e1, e1, [s1], [q1], _, rfl, rfl, by omega, g2, by omega, Same.upd sm1 nD0, upd_same, ⟨rfl, ?_⟩, by show 1 ≤ e1; omega, Gps.one g3 g4, h⟩ ?_
    · intro i q p h1 h2
      match i, h1, h2 with
      | 0, h1, h2 => cases h1; cases h2; exact (upd_ne (ne_of_none hq1 nD)).trans hq1
    rintro m σ H' ⟨f, b, ps, qs, v, rfl, rfl, hab, hb, hf, sm, hD, hP, hL, gp, h⟩
    obtain ⟨f', rfl⟩ : ∃ f', f = f' + 1 := ⟨f - 1, by omega⟩
    unfold more at h
    walk_at "go"
    by_cases hl : b < z.length
    case neg =>
      rw [List.getElem?_eq_none (by omega), if_neg (by simp)] at h
      refine i_dec (fun e => absurd (by omega) hl) (fun _ => ?_)
      walk_at "go"
      exact ⟨b, ps, qs, v, rfl, hab, hb, sm, hD, hP, hL, gp, h⟩
    have hc : z[b]? = some z[b] := List.getElem?_eq_getElem hl
    rw [hc] at h
    generalize z[b] = c at *
    refine i_dec (fun _ => ?_) (fun e => absurd (by omega) e)
    walk_at "go"
    refine i_ix_str (c := c) (by omega) (by omega) (by rw [Int.toNat_natCast]; exact hc) ?_
    walk_at "go"
    refine i_dec (fun e2 => i_turn ?_) (fun e2 => ?_)
    · rw [if_pos (by rw [(List.cons.inj e2).1])] at h
      walk_at "go"
      refine ⟨z, b + 1, o, rfl, by rw [Int.natCast_add]; rfl, rfl, ho, hz, by omega, ?_⟩
      show Out _ _ _ _ (Fg.part (rdItem z d) z (b + 1))
      cases hr2 : Fg.part (rdItem z d) z (b + 1) with
      | error k =>
        rw [hr2] at h
        exact Rz.mono h sm
      | ok se =>
        obtain ⟨s2, e2⟩ := se
        obtain ⟨g5, g6, g7, g8⟩ := gd (b + 1) s2 e2 (by omega) hr2
        rw [hr2] at h
        intro p2 q2 H2 sm2 hq2 hp2
        walk_at "go"
        have hD2 := sm2 _ _ hD
        refine i_appAt hD2 ?_
        walk_at "go"
        have hlen := hP.1
        refine i_appEnd hD2 (by rw [List.length_map]; omega) ?_
        refine ⟨z.length - e2, by omega, f', e2, ps ++ [s2], qs ++ [q2], _, rfl, rfl, by omega, g6, by omega, Same.upd (sm.trans sm2) nD0, ?_, ⟨by rw [List.length_append, List.length_append, hlen]; rfl, ?_⟩, by rw [List.length_append]; show ps.length + 1 ≤ e2; omega, ?_, h⟩
        · rw [upd_same, List.map_append]; rfl
        · intro i q p h1 h2
          have key : H2 q = some (Sv p.1 p.2) := by
            by_cases hi : i < qs.length
            · rw [List.getElem?_append_left hi] at h1
              rw [List.getElem?_append_left (by omega)] at h2
              exact sm2 _ _ (hP.2 i q p h1 h2)
            · rw [List.getElem?_append_right (by omega)] at h1
              rw [List.getElem?_append_right (by omega)] at h2
              have e0 : i - qs.length = 0 := by
                have := (List.getElem?_eq_some_iff.mp h1).1
                rw [List.length_singleton] at this
                omega
              rw [e0] at h1
              rw [show i - ps.length = 0 by omega] at h2
              cases h1; cases h2
              exact hq2
          rw [upd_ne (fun e => by rw [e, hD2] at key; cases key)]
          exact key
        · exact (gp.snoc g7 g8).mono (by omega)
    · rw [if_neg (fun z => e2 (by rw [Option.some.inj z]))] at h
      exact ⟨b, ps, qs, v, rfl, hab, hb, sm, hD, hP, hL, gp, h⟩
  · rintro σ H' ⟨b, ps, qs, v, rfl, hab, hb, sm, hD, hP, hL, gp, h⟩
    walk_at "go"
    refine ⟨Dl, qs, ps, rfl, .inl (.inl hD), hP, by omega, gp.2, gp.big (by omega), fun p H3 s3 h3 => ?_⟩
    walk_at "go"
    refine i_new (by show 2 ≤ 100000; omega) fun p4 n4 => ?_
    exact h p4 p _ ((sm.trans s3).trans (same_upd n4)) ((upd_ne (ne_of_none h3 n4)).trans h3) upd_same
theorem parts_all (T : Txt K mg C_GlimError C_BadRound C_BadText C_TooLong) : ∀ d, OK P w K mg base (L2.CX P w) (3 * d + 3) "read_parts" ["text", "at", "opened"] (sp3 (PD C_BadText d))
  | 0 => by
    refine OK.mkX (k := 2) T.d_read_parts sc_read_parts len3 fun f cdv A outer s H vs Q E hr h => ?_
    obtain ⟨x, y, u, rfl, h⟩ := h
    exact h.elim
  | d + 1 => ok_read_parts T d (ok_read_part T d (ok_read_item T d (parts_all T d)))
/-- the whole text -/
def OutR (C CT : Addr) (H : Hp) (Q : VK) (E : XK) (z : List Nat) : Prop :=
  match rd z 6 0 with
  | .error k => Rz E H C "at" (.int (k : Int))
  | .ok (s, e) => if e < z.length then Rz E H C "at" (.int (e : Int)) else if 24 < s.1 then Rz E H CT "number" (.int (s.1 : Int)) else ∀ H', Same H H' → Q (S s.2) H'
def p_round (C CT : Addr) : P1 := fun x H Q E => (∃ z : List Nat, x = S z ∧ z.length ≤ 1700 ∧ OutR C CT H Q E z) ∨ (NoStr H x ∧ Rz E H C "at" (.int (-1)))
theorem ok_read_round (T : Txt K mg C_GlimError C_BadRound C_BadText C_TooLong) : OK P w K mg base (L2.CX P w) 25 "read_round" ["text"] (sp1  (p_round C_BadText C_TooLong)) := by
  refine OK.mkX (k := 24) T.d_read_round sc_read_round len1 fun f cdv A outer s H vs Q E hr h => ?_
  obtain ⟨x, rfl, h⟩ := h
  refine ⟨_, (pss_cons (ps_if (pt_not (pt_val (pe_callB (cIsi K) (by rfl) T.b_isinstance (by decide +kernel) (pa_cons (pv 0) (pa_cons (pe_bltn (v := .ty "str") (by rfl) T.b_str (by decide +kernel) rfl) pa_nil))))) (pss_one (ps_raiseP rfl (takes_of rfl rfl rfl rfl) (pmk_E (k := 0) (okx_BadText T) (hr.mono (by decide)) (pa_cons (pe_un un_neg pe_int) pa_nil)))) pss_nil) (pss_cons (ps_asg (pe_f (parts_all (K := K) T 7) (hr.mono (by decide)) (passes_call (takes_of rfl rfl rfl rfl) (fun _ _ _ _ h => h)) (pa_cons (pv 0) (pa_cons pe_int (pa_cons pe_int pa_nil)))) (pgTup (n := 2) K rfl (pgs_cons (pg_name (i := 1) sc_read_round.nd rfl (Or.inl rfl)) (pgs_cons (pg_name (i := 2) sc_read_round.nd rfl (Or.inl rfl)) pgs_nil)))) (pss_cons (ps_if (pt_cmpR op_ltP (pv 2) (pe_callB (cLen K) (by rfl) T.b_len (by decide +kernel) (pa_cons (pv 0) pa_nil)) (nomark _)) (pss_one (ps_raiseP rfl (takes_of rfl rfl rfl rfl) (pmk_E (k := 0) (okx_BadText T) (hr.mono (by decide)) (pa_cons (pv 2) pa_nil)))) pss_nil) (pss_cons (ps_if (pt_cmpR op_gtP (pe_ix (ixK K) (pv 1) pe_int (fun _ _ => rfl)) (pe_gI 24 T.g_MOST_ROUND) (nomark _)) (pss_one (ps_raiseP rfl (takes_of rfl rfl rfl rfl) (pmk_E (k := 0) (okx_TooLong T) (hr.mono (by decide)) (pa_cons (pe_ix (ixK K) (pv 1) pe_int (fun _ _ => rfl)) pa_nil)))) pss_nil) (pss_one (ps_ret (pe_ix (ixK K) (pv 1) pe_int (fun _ _ => rfl)))))))), ?_⟩
  show (_ : TS) { nx := fun _ H' => Q .non H', rt := Q } [some x, none, none] H
  rcases h with ⟨z, rfl, hz, h⟩ | ⟨h, hr⟩
  · unfold OutR at h
    walk_at "go"
    refine ⟨z, 0, 0, rfl, rfl, rfl, by decide, hz, by omega, ?_⟩
    show Out _ _ _ _ (rd z 6 0)
    cases hr1 : rd z 6 0 with
    | error k =>
      rw [hr1] at h
      exact h
    | ok se =>
    obtain ⟨⟨n, l⟩, e⟩ := se
    obtain ⟨g1, g2, g3, g4⟩ := rd_gd z 6 0 (n, l) e (by omega) hr1
    rw [hr1] at h
    dsimp only at h g3
    intro p q H1 sm hq hp
    have ps : H1 q = some (.tup [.int (n : Int), if n ≤ 24 then S l else .non]) := hq
    walk_at "go"
    refine i_dec (fun e1 => ?_) (fun e1 => ?_)
    · rw [if_pos (by omega)] at h
      walk_at "go"
      intro dd nd
      exact Rz.at (Rz.mono h sm) nd
    rw [if_neg (by omega)] at h
    walk_at "go"
    refine i_dec (fun e2 => ?_) (fun e2 => ?_)
    · rw [if_pos (by omega)] at h
      walk_at "go"
      intro dd nd
      exact Rz.at (Rz.mono h sm) nd
    · rw [if_neg (by omega)] at h
      walk_at "go"
      rw [if_pos (by omega)]
      exact h H1 sm
  · rcases h with rfl | ⟨b, rfl⟩ | ⟨i, rfl⟩ | ⟨a, xs, rfl, h | h⟩
    · walk_at "go"
      intro dd nd
      exact Rz.at hr nd
    · walk_at "go"
      intro dd nd
      exact Rz.at hr nd
    · walk_at "go"
      intro dd nd
      exact Rz.at hr nd
    · walk_at "go"
      refine i_isi_tup_str h ?_
      walk_at "go"
      intro dd nd
      exact Rz.at hr nd
    · walk_at "go"
      refine i_isi_lst_str h ?_
      walk_at "go"
      intro dd nd
      exact Rz.at hr nd
end
end K06
namespace K06
open PySem PySem.Spec PyProof.Rows L2 Fg
local macro_rules | `(tactic| walk_at "sq") => `(tactic| first
  | assumption
  | exact .inl (.inl (by assumption))
  | exact .inl (.inl upd_same))
local macro_rules | `(tactic| walk_at "st") => `(tactic| first
  | assumption
  | exact .inl (.inl (by assumption))
  | exact .inl (.inl upd_same))
local macro_rules | `(tactic| walk_at "o") => `(tactic| first
  | omega
  | assumption
  | (simp only [List.length_append, List.length_take, List.length_drop, List.length_cons, List.length_nil, List.length_singleton, List.length_map, List.length_range, Int.toNat_natCast] ; omega))
local macro_rules | `(tactic| walk_at "s") => `(tactic| first
  | (with_reducible refine i_seq ?_)
  | (with_reducible refine i_asg ?_)
  | ((with_reducible refine' i_var ?h1 ?_); (case h1 => rfl))
  | (with_reducible refine i_c ?_)
  | ((with_reducible refine' i_gname' ?h1 ?_); (case h1 => (simp only [List.set_cons_zero, List.set_cons_succ]; rfl)))
  | (with_reducible refine i_op ?_)
  | (with_reducible refine i_ifS ?_)
  | (with_reducible refine i_for ?_)
  | (with_reducible refine i_test ?_)
  | (with_reducible refine i_B ?_)
  | (with_reducible refine i_exbl ?_)
  | (with_reducible refine i_exint ?_)
  | (with_reducible refine i_cb ?_)
  | (with_reducible refine i_nil ?_)
  | (with_reducible refine i_cons ?_)
  | (with_reducible refine i_ret ?_)
  | (with_reducible refine i_sl ?_)
  | (with_reducible refine i_nopart ?_)
  | (with_reducible refine i_part ?_)
  | (with_reducible refine i_add_int ?_)
  | (with_reducible refine i_sub ?_)
  | (with_reducible refine i_lt ?_)
  | ((with_reducible refine' i_mod ?h1 ?_); (case h1 => walk_at "o"))
  | ((with_reducible refine' i_fdiv ?h1 ?_); (case h1 => (refine cdiv_small ?_ ?_ <;> walk_at "o")))
  | ((with_reducible refine' i_sl_to ?h1 ?h2 ?_); (case h1 => walk_at "o"); (case h2 => walk_at "o"))
  | ((with_reducible refine' i_sl_from ?h1 ?h2 ?_); (case h1 => walk_at "o"); (case h2 => walk_at "o"))
  | ((with_reducible refine' i_add_str ?h1 ?_); (case h1 => walk_at "o"))
  | ((with_reducible refine' i_mul_int ?h1 ?_); (case h1 => first | (refine mul_small ?_ ?_ <;> walk_at "o") | (refine mul_smallR ?_ ?_ <;> walk_at "o")))
  | (with_reducible refine i_le ?_)
  | (with_reducible refine i_gt ?_)
  | (with_reducible refine i_ge ?_)
  | (with_reducible refine i_eq_int ?_)
  | (with_reducible refine i_eq_str ?_)
  | (with_reducible refine i_ne_int ?_)
  | (with_reducible refine i_ne_str ?_)
  | (with_reducible refine i_eq_bl ?_)
  | (with_reducible refine i_ne_bl ?_)
  | (with_reducible refine i_in_sg ?_)
  | (with_reducible refine i_notIn_sg ?_)
  | (with_reducible refine i_call ?_)
  | (with_reducible refine i_callS ?_)
  | (with_reducible refine i_sp1 ?_)
  | (with_reducible refine i_sp2 ?_)
  | (with_reducible refine i_sp3 ?_)
  | (with_reducible refine i_sp4 ?_)
  | (with_reducible refine i_sp1' ?_)
  | (with_reducible refine i_sp2' ?_)
  | (with_reducible refine i_sp3' ?_)
  | ((with_reducible refine' i_ix_lst ?h1 ?h2 ?_); (case h1 => walk_at "sq"); (case h2 => first | exact atI_nat rfl | rfl))
  | ((with_reducible refine' i_ix_tup ?h1 ?h2 ?_); (case h1 => walk_at "st"); (case h2 => first | exact atI_nat rfl | rfl))
  | (with_reducible refine i_gsub ?_)
  | (with_reducible refine i_par ?_)
  | (with_reducible refine i_lstRg1 ?_)
  | (with_reducible refine i_app ?_)
  | (with_reducible refine i_par2 ?_)
  | ((with_reducible refine' i_aug ?h1 ?_); (case h1 => rfl))
  | (with_reducible refine i_ipI ?_)
  | ((with_reducible refine' i_gtup2 ?h1 ?_); (case h1 => walk_at "st"))
  | (with_reducible refine i_int_bl ?_)
  | (with_reducible refine i_raise ?_)
  | (with_reducible refine i_mkE ?_)
  | (with_reducible refine i_ex1 ?_)
  | (with_reducible refine i_and ?_)
  | (with_reducible refine i_or ?_)
  | (with_reducible refine i_not ?_)
  | (with_reducible refine i_tt ?_)
  | (with_reducible refine i_ff ?_)
  | (with_reducible refine i_nott ?_)
  | (with_reducible refine i_notf ?_)
  | (with_reducible refine i_andV ?_)
  | (with_reducible refine i_orV ?_)
  | (with_reducible refine i_notV ?_)
  | (with_reducible refine i_ifE ?_)
  | (with_reducible refine i_tup ?_)
  | (with_reducible refine i_lst ?_)
  | (with_reducible refine i_un ?_)
  | (with_reducible refine i_neg ?_)
  | (with_reducible refine i_chain ?_)
  | (with_reducible refine i_next ?_)
  | (with_reducible refine i_retN ?_)
  | (with_reducible refine i_drop ?_)
  | (with_reducible refine i_int_int ?_)
  | (with_reducible refine i_abs ?_)
  | (with_reducible refine i_m1c ?_)
  | (with_reducible refine i_is_non ?_)
  | (with_reducible refine i_is_int ?_)
  | (with_reducible refine i_is_bl ?_)
  | (with_reducible refine i_isn_bl ?_)
  | (with_reducible refine i_is_str ?_)
  | (with_reducible refine i_is_ref ?_)
  | (with_reducible refine i_isn_non ?_)
  | (with_reducible refine i_isn_int ?_)
  | (with_reducible refine i_isn_str ?_)
  | (with_reducible refine i_isn_ref ?_)
  | (with_reducible refine i_len_str ?h1 ?_; (case h1 => walk_at "o"))
  | (with_reducible refine i_dget ?_)
  | (with_reducible refine i_tru ?_)
  | (with_reducible refine i_dput ?_)
  | (with_reducible refine i_dnotin ?_)
  | (with_reducible refine i_din ?_)
  | (with_reducible refine i_isi_int_int ?_) | (with_reducible refine i_isi_int_bool ?_) | (with_reducible refine i_isi_int_str ?_) | (with_reducible refine i_isi_int_tuple ?_) | (with_reducible refine i_isi_int_list ?_)
  | (with_reducible refine i_isi_bl_int ?_) | (with_reducible refine i_isi_bl_bool ?_) | (with_reducible refine i_isi_bl_str ?_) | (with_reducible refine i_isi_bl_tuple ?_) | (with_reducible refine i_isi_bl_list ?_)
  | (with_reducible refine i_isi_str_int ?_) | (with_reducible refine i_isi_str_bool ?_) | (with_reducible refine i_isi_str_str ?_) | (with_reducible refine i_isi_str_tuple ?_) | (with_reducible refine i_isi_str_list ?_)
  | (with_reducible refine i_isi_non_int ?_) | (with_reducible refine i_isi_non_bool ?_) | (with_reducible refine i_isi_non_str ?_) | (with_reducible refine i_isi_non_tuple ?_) | (with_reducible refine i_isi_non_list ?_))
local macro_rules | `(tactic| walk_at "go") => `(tactic| (repeat' (walk_at "s")))
local macro_rules | `(tactic| walk_at "n") => `(tactic| simp only [wipe, List.map_cons, List.map_nil, List.set_cons_zero, List.set_cons_succ])
def IsRound (l : List Nat) : Prop := 1 ≤ l.length ∧ l.length ≤ 24 ∧ ∀ c ∈ l, c ∈ SG
def firstBad (l : List Nat) : Option Nat := l.findIdx? fun c => !decide (c ∈ SG)
def oV : Option Nat → V
  | none => .non
  | some p => .int (p : Int)
def oS : Option (List Nat) → V
  | none => .non
  | some t => S t
/-- no round, and what BadRound bears of it -/
def BadR (H : Hp) (x : V) (k : Int) : Prop := (NoStr H x ∧ k = -1) ∨ ∃ l, x = S l ∧ l.length ≤ 1000 ∧ ((¬ (1 ≤ l.length ∧ l.length ≤ 24) ∧ k = -1) ∨ ((1 ≤ l.length ∧ l.length ≤ 24) ∧ ∃ p, firstBad l = some p ∧ k = (p : Int)))
theorem BadR.mono {H H' : Hp} {x : V} {k : Int} (h : BadR H x k) (s : Same H H') : BadR H' x k := by
  rcases h with ⟨h, e⟩ | h
  · exact .inl ⟨h.mono s, e⟩
  · exact .inr h
def BadX (C : Addr) (H : Hp) (x : V) (E : XK) : Prop := ∃ k, BadR H x k ∧ Rz E H C "number" (.int k)
theorem BadX.mono {C : Addr} {H H' : Hp} {x : V} {E : XK} (h : BadX C H x E) (s : Same H H') : BadX C H' x E := by
  obtain ⟨k, h1, h2⟩ := h
  exact ⟨k, h1.mono s, h2.mono s⟩
theorem firstBad_none {l : List Nat} (h : ∀ c ∈ l, c ∈ SG) : firstBad l = none := by
  unfold firstBad
  rw [List.findIdx?_eq_none_iff]
  intro c hc
  simp [h c hc]
theorem firstBad_some {l : List Nat} {p : Nat} {c : Nat} (h : l[p]? = some c) (hc : c ∉ SG) (hb : ∀ k < p, ∀ c, l[k]? = some c → c ∈ SG) : firstBad l = some p := by
  unfold firstBad
  rw [List.findIdx?_eq_some_iff_getElem]
  obtain ⟨hp, e⟩ := List.getElem?_eq_some_iff.mp h
  refine ⟨hp, by simpa [e] using hc, fun j hj => ?_⟩
  have := hb j hj (l[j]) (List.getElem?_eq_getElem (by omega))
  simp only [decide_eq_true this, Bool.not_true]
  decide
theorem flat_rep (n c : Nat) : (List.replicate n [c]).flatten = List.replicate n c := by
  induction n with
  | zero => rfl
  | succ n ih => rw [List.replicate_succ, List.flatten_cons, ih, List.replicate_succ]; rfl
theorem cutN_mid {z : List Nat} {a b : Nat} : cutN z (some (a : Int)) (some ((a + b : Nat) : Int)) = (z.drop a).take b := by
  unfold cutN
  rw [HT.sIx_nat, HT.sIx_nat]
  by_cases h : a ≤ z.length
  · rw [Nat.min_eq_left h]
    by_cases h2 : a + b ≤ z.length
    · rw [Nat.min_eq_left h2]; congr 1; omega
    · rw [Nat.min_eq_right (by omega), List.take_of_length_le (by rw [List.length_drop]; omega), List.take_of_length_le (by rw [List.length_drop]; omega)]
  · have e1 : min a z.length = z.length := by omega
    have e2 : min (a + b) z.length = z.length := by omega
    rw [e1, e2, Nat.sub_self, List.take_zero, List.drop_of_length_le (show z.length ≤ a by omega), List.take_nil]
section
variable {P : Program} {w : World} {K : PySem.W.Frag} {mg : Str → Option Value} {base : Heap} {C_GlimError C_BadRound C_BadText C_TooLong : Addr}
def p_wrong_sign : P1 := fun x H Q _ => ∃ l, x = S l ∧ l.length ≤ 1000 ∧ ∀ H', Same H H' → Q (oV (firstBad l)) H'
theorem ok_wrong_sign (T : Txt K mg C_GlimError C_BadRound C_BadText C_TooLong) : OK P w K mg base CX0 1 "wrong_sign" ["row"] (sp1  p_wrong_sign) := by
  refine OK.mk (k := 0) T.d_wrong_sign sc_wrong_sign len1 fun f cdv A outer s H vs Q E hr h => ?_
  obtain ⟨x, rfl, h⟩ := h
  refine ⟨_, (pss_cons (ps_for PassesOwn.never rfl (piEnum K rfl T.b_enumerate (pa_cons (pv 0) pa_nil)) (pgTup (n := 2) K rfl (pgs_cons (pg_name (i := 1) sc_wrong_sign.nd rfl (Or.inl rfl)) (pgs_cons (pg_name (i := 2) sc_wrong_sign.nd rfl (Or.inl rfl)) pgs_nil))) (pss_one (ps_if (pt_cmpR (opNotIn K) (pv 2) (pe_gS [46, 103, 114, 119] T.g_SIGNS) (by with_unfolding_all rfl)) (pss_one (ps_ret (pv 1))) pss_nil))) (pss_one (ps_ret pe_non))), ?_⟩
  show (_ : TS) { nx := fun _ H' => Q .non H', rt := Q } [some x, none, none] H
  obtain ⟨l, rfl, h1, q⟩ := h
  walk_at "go"
  refine f_enumS (z := l) (fun R k => by walk_at "go"; exact k) (fun i σ H' => ∃ v1 v2, σ = [some (S l), v1, v2] ∧ Same H H' ∧ ∀ k < i, ∀ c, l[k]? = some c → c ∈ SG) ⟨none, none, rfl, Same.refl H, by omega⟩ ?_ ?_
  · rintro i c σ H' Tt hc ⟨v1, v2, rfl, s1, hb⟩ nT
    show (_ : TS) _ [some (S l), some (.int (i : Int)), some (S [c])] _
    walk_at "go"
    refine i_decN (fun e => ?_) (fun e => ?_)
    · walk_at "go"
      have := q _ (s1.trans (same_upd (o := .tup [.int (i : Int), S [c]]) nT))
      rw [firstBad_some hc e hb] at this
      exact this
    · walk_at "go"
      refine ⟨_, _, rfl, s1.trans (same_upd nT), fun k hk c' hc' => ?_⟩
      by_cases e' : k < i
      · exact hb k e' c' hc'
      · have : k = i := by omega
        subst this
        rw [hc] at hc'
        cases hc'
        exact e
  · rintro σ H' ⟨v1, v2, rfl, s1, hb⟩
    walk_at "go"
    have := q _ s1
    rw [firstBad_none fun c hc => by
      obtain ⟨k, hk⟩ := List.getElem?_of_mem hc
      exact hb k (List.getElem?_eq_some_iff.mp hk).1 c hk] at this
    exact this
def p_check_round (C : Addr) : P1 := fun x H Q E => (∃ l, x = S l ∧ IsRound l ∧ ∀ H', Same H H' → Q .non H') ∨ BadX C H x E
theorem ok_check_round (T : Txt K mg C_GlimError C_BadRound C_BadText C_TooLong) : OK P w K mg base (L2.CX P w) 3 "check_round" ["thing"] (sp1  (p_check_round C_BadRound)) := by
  refine OK.mkX (k := 2) T.d_check_round sc_check_round len1 fun f cdv A outer s H vs Q E hr h => ?_
  obtain ⟨x, rfl, h⟩ := h
  refine ⟨_, (pss_cons (ps_if (pw_or (pt_not (pt_val (pe_callB (cIsi K) (by rfl) T.b_isinstance (by decide +kernel) (pa_cons (pv 0) (pa_cons (pe_bltn (v := .ty "str") (by rfl) T.b_str (by decide +kernel) rfl) pa_nil))))) (pw_or1 (pt_not (pt_chain op_leP op_leP pe_int (pe_callB (cLen K) (by rfl) T.b_len (by decide +kernel) (pa_cons (pv 0) pa_nil)) (pe_gI 24 T.g_MOST_ROUND))))).pt (pss_one (ps_raiseP rfl (takes_of rfl rfl rfl rfl) (pmk_E (k := 0) (okx_BadRound T) (hr.mono (by decide)) (pa_cons (pe_un un_neg pe_int) pa_nil)))) pss_nil) (pss_cons (ps_set (i := 1) sc_check_round.nd rfl (Or.inl rfl) (pe_f (ok_wrong_sign (K := K) T) (hr.mono (by decide)) pass0 (pa_cons (pv 0) pa_nil))) (pss_one (ps_if (pt_cmpR op_isNotP (pv 1) pe_non (nomark _)) (pss_one (ps_raiseP rfl (takes_of rfl rfl rfl rfl) (pmk_E (k := 0) (okx_BadRound T) (hr.mono (by decide)) (pa_cons (pv 1) pa_nil)))) pss_nil)))), ?_⟩
  show (_ : TS) { nx := fun _ H' => Q .non H', rt := Q } [some x, none] H
  rcases h with ⟨l, rfl, ⟨h1, h2, h3⟩, q⟩ | ⟨k, h | ⟨l, rfl, hl, h⟩, z⟩
  · walk_at "go"
    refine i_dec (fun e1 => ?_) (fun e1 => absurd (by omega) e1)
    walk_at "go"
    refine i_decN (fun e2 => absurd (by omega) e2) (fun e2 => ?_)
    walk_at "go"
    refine ⟨l, rfl, by omega, fun H1 s1 => ?_⟩
    rw [firstBad_none h3, show oV none = V.non from rfl]
    walk_at "go"
    exact q H1 s1
  · obtain ⟨h, rfl⟩ := h
    rcases h with rfl | ⟨b, rfl⟩ | ⟨i, rfl⟩ | ⟨a, xs, rfl, h | h⟩
    · walk_at "go"
      intro d nd
      exact z.at nd
    · walk_at "go"
      intro d nd
      exact z.at nd
    · walk_at "go"
      intro d nd
      exact z.at nd
    · walk_at "go"
      refine i_isi_tup_str h ?_
      walk_at "go"
      intro d nd
      exact z.at nd
    · walk_at "go"
      refine i_isi_lst_str h ?_
      walk_at "go"
      intro d nd
      exact z.at nd
  · rcases h with ⟨h, rfl⟩ | ⟨⟨h1, h2⟩, p, hp, rfl⟩
    · walk_at "go"
      refine i_dec (fun e1 => ?_) (fun e1 => ?_)
      · walk_at "go"
        refine i_decN (fun e2 => ?_) (fun e2 => absurd (by omega) h)
        walk_at "go"
        intro d nd
        exact z.at nd
      · walk_at "go"
        intro d nd
        exact z.at nd
    · walk_at "go"
      refine i_dec (fun e1 => ?_) (fun e1 => absurd (by omega) e1)
      walk_at "go"
      refine i_decN (fun e2 => absurd (by omega) e2) (fun e2 => ?_)
      walk_at "go"
      refine ⟨l, rfl, by omega, fun H1 s1 => ?_⟩
      rw [hp, show oV (some p) = V.int (p : Int) from rfl]
      walk_at "go"
      intro d nd
      exact (z.mono s1).at nd
def p_shortlex : P1 := fun x H Q _ => ∃ l, x = S l ∧ l.length ≤ 100000 ∧ ∀ p, H p = none → Q (.ref p) (upd H p (.tup [.int (l.length : Int), S l]))
theorem ok_shortlex (T : Txt K mg C_GlimError C_BadRound C_BadText C_TooLong) : OK P w K mg base CX0 1 "shortlex" ["row"] (sp1  p_shortlex) := by
  refine OK.mk (k := 0) T.d_shortlex sc_shortlex len1 fun f cdv A outer s H vs Q E hr h => ?_
  obtain ⟨x, rfl, h⟩ := h
  refine ⟨_, (pss_one (ps_ret (pe_tup (pa_cons (pe_callB (cLen K) (by rfl) T.b_len (by decide +kernel) (pa_cons (pv 0) pa_nil)) (pa_cons (pv 0) pa_nil))))), ?_⟩
  show (_ : TS) { nx := fun _ H' => Q .non H', rt := Q } [some x] H
  obtain ⟨l, rfl, h1, q⟩ := h
  walk_at "go"
  exact i_new (by show 2 ≤ 100000; omega) q
def p_least : P1 := fun x H Q _ => ∃ (a : Addr) (xs : List (List Nat)), x = .ref a ∧ H a = some (.lst (xs.map S)) ∧ xs ≠ [] ∧ (∀ y ∈ xs, y.length ≤ 1000) ∧ ∀ m H', m ∈ xs → (∀ y ∈ xs, ¬ lt2 y m) → Same H H' → Q (S m) H'
theorem ok_least_text (T : Txt K mg C_GlimError C_BadRound C_BadText C_TooLong) : OK P w K mg base CX0 3 "least_text" ["texts"] (sp1  p_least) := by
  refine OK.mk (k := 2) T.d_least_text sc_least_text len1 fun f cdv A outer s H vs Q E hr h => ?_
  obtain ⟨x, rfl, h⟩ := h
  refine ⟨_, (pss_one (ps_ret (pe_minK K (ok_shortlex (K := K) T) (hr.mono (by decide)) T.b_min (pv 0)))), ?_⟩
  show (_ : TS) { nx := fun _ H' => Q .non H', rt := Q } [some x] H
  obtain ⟨a, xs, rfl, ha, hne, hl, q⟩ := h
  walk_at "go"
  refine i_minK ?_
  walk_at "go"
  exact ⟨a, xs, rfl, .inl (.inl ha), hne, fun H' y s hy Q' k => ⟨y, rfl, Nat.le_trans (hl y hy) (by decide), k⟩, q⟩
def p_closed : P2 := fun x y H Q _ => ∃ (p : List Nat) (a : Addr) (n : Nat) (g : List Nat → Option V), x = S p ∧ y = .ref a ∧ 1 ≤ p.length ∧ p.length ≤ 24 ∧ TD n H a g ∧ (∀ u, u ≠ [] → u <+: p → g u = some (S (fT u))) ∧ ∀ H', Same H H' → Q (S (fC p)) H'
theorem ok_closed_text (T : Txt K mg C_GlimError C_BadRound C_BadText C_TooLong) : OK P w K mg base CX0 4 "closed_text" ["part", "texts"] (sp2  p_closed) := by
  refine OK.mk (k := 3) T.d_closed_text sc_closed_text len2 fun f cdv A outer s H vs Q E hr h => ?_
  obtain ⟨x, y, rfl, h⟩ := h
  refine ⟨_, (pss_cons (ps_set (i := 2) sc_closed_text.nd rfl (Or.inl rfl) (pe_lst (pa_cons (pe_dget (hu_of hr) (pv 1) (pv 0) (fun _ _ => rfl)) pa_nil))) (pss_cons (ps_for PassesOwn.never rfl (pi_range2 rfl T.b_range (pa_cons pe_int (pa_cons (pe_callB (cLen K) (by rfl) T.b_len (by decide +kernel) (pa_cons (pv 0) pa_nil)) pa_nil))) (pg_name (i := 3) sc_closed_text.nd rfl (Or.inl rfl)) (pss_one (ps_if (pt_cmpR (opEq K hr.units) (pe_slice (slK K) (pv 0) (po_some (pv 3)) po_none) (pe_op op_mulP (pe_S [46]) (pe_op op_subP (pe_callB (cLen K) (by rfl) T.b_len (by decide +kernel) (pa_cons (pv 0) pa_nil)) (pv 3))) (nomark _)) (pss_one (ps_expr (peApp K (pv 2) (pa_cons (pe_op (opAdd K) (pe_op (opAdd K) (pe_dget (hu_of hr) (pv 1) (pe_slice (slK K) (pv 0) po_none (po_some (pv 3))) (fun _ _ => rfl)) (pe_S [64])) (pe_callTy Fg.call_strS (by rfl) T.b_str (by decide +kernel) (pa_cons (pe_callB (cLen K) (by rfl) T.b_len (by decide +kernel) (pa_cons (pv 0) pa_nil)) pa_nil))) pa_nil)))) pss_nil))) (pss_one (ps_ret (pe_f (ok_least_text (K := K) T) (hr.mono (by decide)) pass0 (pa_cons (pv 2) pa_nil)))))), ?_⟩
  show (_ : TS) { nx := fun _ H' => Q .non H', rt := Q } [some x, some y, none, none] H
  obtain ⟨p, a, n, g, rfl, rfl, h1, h2, td, hg, q⟩ := h
  have hp : p ≠ [] := List.length_pos_iff.mp h1
  walk_at "go"
  refine td_get td (hg p hp (List.prefix_refl p)) ?_
  walk_at "go"
  refine i_new (by show 1 ≤ 100000; omega) fun L nL => ?_
  walk_at "go"
  refine f_rng2 1 p.length (fun R k => by walk_at "go"; exact k) (by omega) (fun i σ H' => ∃ (v : Option V) (xs : List (List Nat)), σ = [some (S p), some (.ref a), some (.ref L), v] ∧ Same H H' ∧ H' L = some (.lst (xs.map S)) ∧ xs.length ≤ 1 + i ∧ (∀ t ∈ xs, t.length ≤ 100) ∧ ∀ t, t ∈ xs ↔ (t = fT p ∨ ∃ u j, u ≠ [] ∧ 1 ≤ j ∧ p = u ++ List.replicate j 46 ∧ u.length < 1 + i ∧ t = fT u ++ (64 :: dec p.length)))
    ⟨none, [fT p], rfl, same_upd nL, upd_same, Nat.le_refl _, fun t ht => by rw [List.mem_singleton.mp ht]; exact Nat.le_trans (fT_len p) (by omega), fun t => ?_⟩ ?_ ?_
  · rw [List.mem_singleton]
    refine ⟨.inl, ?_⟩
    rintro (h | ⟨u, j, hu, hj, _, hl, _⟩)
    · exact h
    · have := List.length_pos_iff.mpr hu; omega
  · rintro i σ H' hi ⟨v, xs, rfl, s1, eL, hx1, hx2, hx3⟩
    walk_at "go"
    refine i_mul_strI (by omega) ⟨by show 1 * _ ≤ _; omega, by omega⟩ ?_
    rw [flat_rep, show ((p.length : Int) - ((1 + i : Nat) : Int)).toNat = p.length - (1 + i) by omega, Int.toNat_natCast]
    walk_at "go"
    have td1 := td.mono s1
    refine i_dec (fun e => ?_) (fun e => ?_)
    · have hpre : p.take (1 + i) <+: p := List.take_prefix _ _
      have htl : (p.take (1 + i)).length = 1 + i := by rw [List.length_take]; omega
      have hne : p.take (1 + i) ≠ [] := fun z => by
        have htl := htl
        rw [z] at htl
        have : 0 = 1 + i := htl
        omega
      have hfl := fT_len (p.take (1 + i))
      walk_at "go"
      refine i_appAt eL ?_
      walk_at "go"
      rw [Int.toNat_natCast]
      refine td_get td1 (hg _ hne hpre) ?_
      walk_at "go"
      refine ⟨p.length, rfl, by omega, ?_⟩
      have dl := dec_len p.length
      walk_at "go"
      refine i_appEnd eL (by rw [List.length_map]; omega) ?_
      have ht : fT (p.take (1 + i)) ++ [64] ++ dec p.length = fT (p.take (1 + i)) ++ (64 :: dec p.length) := by simp
      refine ⟨_, xs ++ [fT (p.take (1 + i)) ++ (64 :: dec p.length)], rfl, Same.upd s1 nL, by rw [upd_same, List.map_append, ← ht]; rfl, by rw [List.length_append]; show xs.length + 1 ≤ _; omega, fun t h => ?_, fun t => ?_⟩
      · rcases List.mem_append.mp h with h | h
        · exact hx2 t h
        · rw [List.mem_singleton.mp h, List.length_append, List.length_cons]; omega
      · rw [List.mem_append, List.mem_singleton, hx3]
        constructor
        · rintro ((h | ⟨u, j, hu, hj, he, hl, h⟩) | h)
          · exact .inl h
          · exact .inr ⟨u, j, hu, hj, he, by omega, h⟩
          · exact .inr ⟨p.take (1 + i), p.length - (1 + i), hne, by omega, by rw [← e, List.take_append_drop], by omega, h⟩
        · rintro (h | ⟨u, j, hu, hj, he, hl, h⟩)
          · exact .inl (.inl h)
          · by_cases hlu : u.length < 1 + i
            · exact .inl (.inr ⟨u, j, hu, hj, he, hlu, h⟩)
            · have : u = p.take (1 + i) := by rw [he, show 1 + i = u.length by omega, List.take_left]
              exact .inr (by rw [h, this])
    · walk_at "go"
      refine ⟨_, xs, rfl, s1, eL, by omega, hx2, fun t => ?_⟩
      rw [hx3]
      refine or_congr Iff.rfl ⟨?_, ?_⟩
      · rintro ⟨u, j, hu, hj, he, hl, h⟩
        exact ⟨u, j, hu, hj, he, by omega, h⟩
      · rintro ⟨u, j, hu, hj, he, hl, h⟩
        refine ⟨u, j, hu, hj, he, ?_, h⟩
        by_cases hlu : u.length < 1 + i
        · exact hlu
        · have hul : u.length = 1 + i := by omega
          refine absurd ?_ e
          rw [← hul, he, List.drop_left, List.length_append, List.length_replicate]
          congr 1; omega
  · rintro σ H' ⟨v, xs, rfl, s1, eL, hx1, hx2, hx3⟩
    walk_at "go"
    have hmem : fT p ∈ xs := (hx3 _).mpr (.inl rfl)
    refine ⟨L, xs, rfl, eL, List.ne_nil_of_mem hmem, fun y hy => Nat.le_trans (hx2 y hy) (by decide), fun m H2 hm hb s2 => ?_⟩
    have key : ∀ t, ClC fT p t ↔ t ∈ xs := fun t => by
      rw [hx3]
      refine or_congr Iff.rfl ⟨?_, ?_⟩
      · rintro ⟨u, j, hu, hj, he, h⟩
        have := congrArg List.length he
        rw [List.length_append, List.length_replicate] at this
        exact ⟨u, j, hu, hj, he, by omega, h⟩
      · rintro ⟨u, j, hu, hj, he, hl, h⟩
        exact ⟨u, j, hu, hj, he, h⟩
    have : fC p = m := fC_isL hp ⟨(key m).mpr hm, fun y hy => hb y ((key y).mp hy)⟩
    rw [← this]
    exact q H2 (s1.trans s2)
end
end K06
namespace K06
open PySem PySem.Spec PyProof.Rows L2 Fg
local macro_rules | `(tactic| walk_at "sq") => `(tactic| first
  | assumption
  | exact .inl (.inl (by assumption))
  | exact .inl (.inl upd_same))
local macro_rules | `(tactic| walk_at "st") => `(tactic| first
  | assumption
  | exact .inl (.inl (by assumption))
  | exact .inl (.inl upd_same))
local macro_rules | `(tactic| walk_at "o") => `(tactic| first
  | omega
  | assumption
  | (simp only [List.length_append, List.length_take, List.length_drop, List.length_cons, List.length_nil, List.length_singleton, List.length_map, List.length_range, Int.toNat_natCast] ; omega))
local macro_rules | `(tactic| walk_at "s") => `(tactic| first
  | (with_reducible refine i_seq ?_)
  | (with_reducible refine i_asg ?_)
  | ((with_reducible refine' i_var ?h1 ?_); (case h1 => rfl))
  | (with_reducible refine i_c ?_)
  | ((with_reducible refine' i_gname' ?h1 ?_); (case h1 => (simp only [List.set_cons_zero, List.set_cons_succ]; rfl)))
  | (with_reducible refine i_op ?_)
  | (with_reducible refine i_ifS ?_)
  | (with_reducible refine i_for ?_)
  | (with_reducible refine i_test ?_)
  | (with_reducible refine i_B ?_)
  | (with_reducible refine i_exbl ?_)
  | (with_reducible refine i_exint ?_)
  | (with_reducible refine i_cb ?_)
  | (with_reducible refine i_nil ?_)
  | (with_reducible refine i_cons ?_)
  | (with_reducible refine i_ret ?_)
  | (with_reducible refine i_sl ?_)
  | (with_reducible refine i_nopart ?_)
  | (with_reducible refine i_part ?_)
  | (with_reducible refine i_add_int ?_)
  | (with_reducible refine i_sub ?_)
  | (with_reducible refine i_lt ?_)
  | ((with_reducible refine' i_mod ?h1 ?_); (case h1 => walk_at "o"))
  | ((with_reducible refine' i_fdiv ?h1 ?_); (case h1 => (refine cdiv_small ?_ ?_ <;> walk_at "o")))
  | ((with_reducible refine' i_sl_to ?h1 ?h2 ?_); (case h1 => walk_at "o"); (case h2 => walk_at "o"))
  | ((with_reducible refine' i_sl_from ?h1 ?h2 ?_); (case h1 => walk_at "o"); (case h2 => walk_at "o"))
  | ((with_reducible refine' i_add_str ?h1 ?_); (case h1 => walk_at "o"))
  | ((with_reducible refine' i_mul_int ?h1 ?_); (case h1 => first | (refine mul_small ?_ ?_ <;> walk_at "o") | (refine mul_smallR ?_ ?_ <;> walk_at "o")))
  | (with_reducible refine i_le ?_)
  | (with_reducible refine i_gt ?_)
  | (with_reducible refine i_ge ?_)
  | (with_reducible refine i_eq_int ?_)
  | (with_reducible refine i_eq_str ?_)
  | (with_reducible refine i_ne_int ?_)
  | (with_reducible refine i_ne_str ?_)
  | (with_reducible refine i_eq_bl ?_)
  | (with_reducible refine i_ne_bl ?_)
  | (with_reducible refine i_in_sg ?_)
  | (with_reducible refine i_notIn_sg ?_)
  | (with_reducible refine i_call ?_)
  | (with_reducible refine i_callS ?_)
  | (with_reducible refine i_sp1 ?_)
  | (with_reducible refine i_sp2 ?_)
  | (with_reducible refine i_sp3 ?_)
  | (with_reducible refine i_sp4 ?_)
  | (with_reducible refine i_sp1' ?_)
  | (with_reducible refine i_sp2' ?_)
  | (with_reducible refine i_sp3' ?_)
  | ((with_reducible refine' i_ix_lst ?h1 ?h2 ?_); (case h1 => walk_at "sq"); (case h2 => first | exact atI_nat rfl | rfl))
  | ((with_reducible refine' i_ix_tup ?h1 ?h2 ?_); (case h1 => walk_at "st"); (case h2 => first | exact atI_nat rfl | rfl))
  | (with_reducible refine i_gsub ?_)
  | (with_reducible refine i_par ?_)
  | (with_reducible refine i_lstRg1 ?_)
  | (with_reducible refine i_app ?_)
  | (with_reducible refine i_par2 ?_)
  | ((with_reducible refine' i_aug ?h1 ?_); (case h1 => rfl))
  | (with_reducible refine i_ipI ?_)
  | ((with_reducible refine' i_gtup2 ?h1 ?_); (case h1 => walk_at "st"))
  | (with_reducible refine i_int_bl ?_)
  | (with_reducible refine i_raise ?_)
  | (with_reducible refine i_mkE ?_)
  | (with_reducible refine i_ex1 ?_)
  | (with_reducible refine i_and ?_)
  | (with_reducible refine i_or ?_)
  | (with_reducible refine i_not ?_)
  | (with_reducible refine i_tt ?_)
  | (with_reducible refine i_ff ?_)
  | (with_reducible refine i_nott ?_)
  | (with_reducible refine i_notf ?_)
  | (with_reducible refine i_andV ?_)
  | (with_reducible refine i_orV ?_)
  | (with_reducible refine i_notV ?_)
  | (with_reducible refine i_ifE ?_)
  | (with_reducible refine i_tup ?_)
  | (with_reducible refine i_lst ?_)
  | (with_reducible refine i_un ?_)
  | (with_reducible refine i_neg ?_)
  | (with_reducible refine i_chain ?_)
  | (with_reducible refine i_next ?_)
  | (with_reducible refine i_retN ?_)
  | (with_reducible refine i_drop ?_)
  | (with_reducible refine i_int_int ?_)
  | (with_reducible refine i_abs ?_)
  | (with_reducible refine i_m1c ?_)
  | (with_reducible refine i_is_non ?_)
  | (with_reducible refine i_is_int ?_)
  | (with_reducible refine i_is_bl ?_)
  | (with_reducible refine i_isn_bl ?_)
  | (with_reducible refine i_is_str ?_)
  | (with_reducible refine i_is_ref ?_)
  | (with_reducible refine i_isn_non ?_)
  | (with_reducible refine i_isn_int ?_)
  | (with_reducible refine i_isn_str ?_)
  | (with_reducible refine i_isn_ref ?_)
  | (with_reducible refine i_len_str ?h1 ?_; (case h1 => walk_at "o"))
  | (with_reducible refine i_dget ?_)
  | (with_reducible refine i_tru ?_)
  | (with_reducible refine i_dput ?_)
  | (with_reducible refine i_dnotin ?_)
  | (with_reducible refine i_din ?_)
  | (with_reducible refine i_isi_int_int ?_) | (with_reducible refine i_isi_int_bool ?_) | (with_reducible refine i_isi_int_str ?_) | (with_reducible refine i_isi_int_tuple ?_) | (with_reducible refine i_isi_int_list ?_)
  | (with_reducible refine i_isi_bl_int ?_) | (with_reducible refine i_isi_bl_bool ?_) | (with_reducible refine i_isi_bl_str ?_) | (with_reducible refine i_isi_bl_tuple ?_) | (with_reducible refine i_isi_bl_list ?_)
  | (with_reducible refine i_isi_str_int ?_) | (with_reducible refine i_isi_str_bool ?_) | (with_reducible refine i_isi_str_str ?_) | (with_reducible refine i_isi_str_tuple ?_) | (with_reducible refine i_isi_str_list ?_)
  | (with_reducible refine i_isi_non_int ?_) | (with_reducible refine i_isi_non_bool ?_) | (with_reducible refine i_isi_non_str ?_) | (with_reducible refine i_isi_non_tuple ?_) | (with_reducible refine i_isi_non_list ?_))
local macro_rules | `(tactic| walk_at "go") => `(tactic| (repeat' (walk_at "s")))
local macro_rules | `(tactic| walk_at "n") => `(tactic| simp only [wipe, List.map_cons, List.map_nil, List.set_cons_zero, List.set_cons_succ])
/-- what a stretch's repeated parts give, of parts shorter than m -/
def CandB (m : Nat) (p t : List Nat) : Prop := ∃ k u, u ≠ [] ∧ 2 ≤ k ∧ p = rpt k u ∧ u.length < m ∧ ((u.length = 1 ∧ t = dec k ++ u) ∨ t = dec k ++ ([40] ++ (fC u ++ [41])))
theorem rpt_take {k : Nat} {u p : List Nat} (hk : 1 ≤ k) (h : p = rpt k u) : p.take u.length = u := by
  obtain ⟨k', rfl⟩ : ∃ k', k = k' + 1 := ⟨k - 1, by omega⟩
  rw [h, rpt_succ, List.take_left]
section
variable {P : Program} {w : World} {K : PySem.W.Frag} {mg : Str → Option Value} {base : Heap} {C_GlimError C_BadRound C_BadText C_TooLong : Addr}
def p_item : P2 := fun x y H Q _ => ∃ (p : List Nat) (a : Addr) (n : Nat) (g : List Nat → Option V), x = S p ∧ y = .ref a ∧ 1 ≤ p.length ∧ p.length ≤ 24 ∧ TD n H a g ∧ (∀ u, u ≠ [] → u <+: p → u.length < p.length → g u = some (S (fT u))) ∧ ∀ H', Same H H' → Q (oS (fI p)) H'
theorem ok_item_text (T : Txt K mg C_GlimError C_BadRound C_BadText C_TooLong) : OK P w K mg base CX0 5 "item_text" ["part", "texts"] (sp2  p_item) := by
  refine OK.mk (k := 4) T.d_item_text sc_item_text len2 fun f cdv A outer s H vs Q E hr h => ?_
  obtain ⟨x, y, rfl, h⟩ := h
  refine ⟨_, (pss_cons (ps_if (pt_cmpR (opEq K hr.units) (pe_callB (cLen K) (by rfl) T.b_len (by decide +kernel) (pa_cons (pv 0) pa_nil)) pe_int (nomark _)) (pss_one (ps_ret (pv 0))) pss_nil) (pss_cons (ps_set (i := 2) sc_item_text.nd rfl (Or.inl rfl) (pe_lst pa_nil)) (pss_cons (ps_for PassesOwn.never rfl (pi_range2 rfl T.b_range (pa_cons pe_int (pa_cons (pe_op (opAdd K) (pe_op op_fdivP (pe_callB (cLen K) (by rfl) T.b_len (by decide +kernel) (pa_cons (pv 0) pa_nil)) pe_int) pe_int) pa_nil))) (pg_name (i := 3) sc_item_text.nd rfl (Or.inl rfl)) (pss_cons (ps_set (i := 4) sc_item_text.nd rfl (Or.inl rfl) (pe_op op_fdivP (pe_callB (cLen K) (by rfl) T.b_len (by decide +kernel) (pa_cons (pv 0) pa_nil)) (pv 3))) (pss_one (ps_if (pt_cmpR (opEq K hr.units) (pe_op op_mulP (pe_slice (slK K) (pv 0) po_none (po_some (pv 3))) (pv 4)) (pv 0) (nomark _)) (Evl.pss_cut (ps_if (pt_cmpR (opEq K hr.units) (pv 3) pe_int (nomark _)) (pss_one (ps_expr (peApp K (pv 2) (pa_cons (pe_op (opAdd K) (pe_callTy Fg.call_strS (by rfl) T.b_str (by decide +kernel) (pa_cons (pv 4) pa_nil)) (pe_ix (ixK K) (pv 0) pe_int (fun _ _ => rfl))) pa_nil)))) pss_nil) (pss_one (ps_expr (peApp K (pv 2) (pa_cons (pe_op (opAdd K) (pe_op (opAdd K) (pe_op (opAdd K) (pe_callTy Fg.call_strS (by rfl) T.b_str (by decide +kernel) (pa_cons (pv 4) pa_nil)) (pe_S [40])) (pe_f (ok_closed_text (K := K) T) (hr.mono (by decide)) pass0 (pa_cons (pe_slice (slK K) (pv 0) po_none (po_some (pv 3))) (pa_cons (pv 1) pa_nil)))) (pe_S [41])) pa_nil))))) pss_nil)))) (pss_cons (ps_if (pt_not (ptTruth K (pv 2) (fun _ => rfl))) (pss_one (ps_ret pe_non)) pss_nil) (pss_one (ps_ret (pe_f (ok_least_text (K := K) T) (hr.mono (by decide)) pass0 (pa_cons (pv 2) pa_nil)))))))), ?_⟩
  show (_ : TS) { nx := fun _ H' => Q .non H', rt := Q } [some x, some y, none, none, none] H
  obtain ⟨p, a, n, g, rfl, rfl, h1, h2, td, hg, q⟩ := h
  have hp : p ≠ [] := List.length_pos_iff.mp h1
  walk_at "go"
  refine i_dec (fun e1 => ?_) (fun e1 => ?_)
  · walk_at "go"
    have := q H (Same.refl H)
    rw [show fI p = some p by unfold fI itS; exact if_pos (by omega)] at this
    exact this
  have hp1 : p.length ≠ 1 := fun z => e1 (by omega)
  walk_at "go"
  refine i_new (by show 0 ≤ 100000; omega) fun L nL => ?_
  walk_at "go"
  refine f_rng2 1 (p.length / 2 + 1) (fun R k => by walk_at "go"; rw [show (p.length : Int) / 2 + 1 = ((p.length / 2 + 1 : Nat) : Int) by omega]; exact k) (by omega) (fun i σ H' => ∃ (v4 v5 : Option V) (xs : List (List Nat)), σ = [some (S p), some (.ref a), some (.ref L), v4, v5] ∧ Same H H' ∧ H' L = some (.lst (xs.map S)) ∧ xs.length ≤ 2 * i ∧ (∀ t ∈ xs, t.length ≤ 100) ∧ ∀ t, t ∈ xs ↔ CandB (1 + i) p t)
    ⟨none, none, [], rfl, same_upd nL, upd_same, Nat.le_refl _, by simp, fun t => ?_⟩ ?_ ?_
  · constructor
    · intro h; simp at h
    · rintro ⟨k, u, hu, _, _, hl, _⟩
      have := List.length_pos_iff.mpr hu
      omega
  · rintro i σ H' hi ⟨v4, v5, xs, rfl, s1, eL, hx1, hx2, hx3⟩
    have hm : 1 + i ≤ p.length / 2 := by omega
    have hk2 : 2 ≤ p.length / (1 + i) := (Nat.le_div_iff_mul_le (by omega)).mpr (by omega)
    have hk24 : p.length / (1 + i) ≤ 24 := Nat.le_trans (Nat.div_le_self _ _) h2
    walk_at "go"
    have hdiv : (p.length : Int) / ((1 + i : Nat) : Int) = ((p.length / (1 + i) : Nat) : Int) := by rw [Int.natCast_ediv]
    rw [hdiv]
    generalize hk : p.length / (1 + i) = k at *
    have htl : (p.take (1 + i)).length = 1 + i := by rw [List.length_take]; omega
    have hkl : (1 + i) * k ≤ p.length := by rw [← hk]; exact Nat.mul_div_le _ _
    rw [Int.toNat_natCast]
    refine i_mul_strI (Int.natCast_nonneg _) ⟨by rw [htl, Int.toNat_natCast]; omega, by rw [Int.toNat_natCast]; omega⟩ ?_
    rw [Int.toNat_natCast, show (List.replicate k (p.take (1 + i))).flatten = rpt k (p.take (1 + i)) from rfl]
    walk_at "go"
    refine i_dec (fun e => ?_) (fun e => ?_)
    · have hne : p.take (1 + i) ≠ [] := fun z => by
        have htl := htl
        rw [z] at htl
        have : 0 = 1 + i := htl
        omega
      have dl := dec_len k
      have hcl := fC_len hne
      -- what stands behind the inner if
      refine i_cut (fun σ' H' => ∃ ys : List (List Nat), σ' = [some (S p), some (.ref a), some (.ref L), some (.int ((1 + i : Nat) : Int)), some (.int (k : Int))] ∧ Same H H' ∧ H' L = some (.lst (ys.map S)) ∧ ys.length ≤ 2 * i + 1 ∧ (∀ t ∈ ys, t.length ≤ 100) ∧ ∀ t, t ∈ ys ↔ (CandB (1 + i) p t ∨ ((p.take (1 + i)).length = 1 ∧ t = dec k ++ p.take (1 + i)))) ?_ ?_
      · walk_at "go"
        refine i_dec (fun e0 => ?_) (fun e0 => ?_)
        · walk_at "go"
          refine i_appAt eL ?_
          walk_at "go"
          refine ⟨k, rfl, by omega, ?_⟩
          walk_at "go"
          obtain ⟨c, hc⟩ : ∃ c, p[0]? = some c := ⟨_, List.getElem?_eq_getElem (by omega)⟩
          have hi0 : i = 0 := by omega
          have htk : p.take (1 + i) = [c] := by
            rw [hi0]
            cases p with
            | nil => simp at hc
            | cons x r => cases hc; rfl
          refine i_ix_str (by omega) (by decide) hc ?_
          walk_at "go"
          refine i_appEnd eL (by rw [List.length_map]; omega) ?_
          refine ⟨xs ++ [dec k ++ p.take (1 + i)], rfl, Same.upd s1 nL, by rw [upd_same, List.map_append, htk]; rfl, by rw [List.length_append]; show xs.length + 1 ≤ _; omega, fun t h => ?_, fun t => ?_⟩
          · rcases List.mem_append.mp h with h | h
            · exact hx2 t h
            · rw [List.mem_singleton.mp h, List.length_append]; omega
          · rw [List.mem_append, List.mem_singleton, hx3]
            refine or_congr Iff.rfl ⟨fun h => ⟨by omega, h⟩, fun h => h.2⟩
        · walk_at "go"
          refine ⟨xs, rfl, s1, eL, by omega, hx2, fun t => ?_⟩
          rw [hx3]
          exact ⟨.inl, fun h => h.elim id fun h => absurd h.1 (by omega)⟩
      rintro σ' H1 ⟨ys, rfl, s2, eL2, hy1, hy2, hy3⟩
      walk_at "go"
      refine i_appAt eL2 ?_
      walk_at "go"
      refine ⟨k, rfl, by omega, ?_⟩
      walk_at "go"
      rw [Int.toNat_natCast]
      refine ⟨p.take (1 + i), a, n, g, rfl, rfl, by omega, by omega, td.mono s2, fun u hu hpre => hg u hu (hpre.trans (List.take_prefix _ _)) (by have := hpre.length_le; omega), fun H2 s3 => ?_⟩
      walk_at "go"
      have eL3 := s3 _ _ eL2
      refine i_appEnd eL3 (by rw [List.length_map]; omega) ?_
      have hg2 : dec k ++ [40] ++ fC (p.take (1 + i)) ++ [41] = dec k ++ ([40] ++ (fC (p.take (1 + i)) ++ [41])) := by simp
      refine ⟨_, _, ys ++ [dec k ++ ([40] ++ (fC (p.take (1 + i)) ++ [41]))], rfl, Same.upd (s2.trans s3) nL, by rw [upd_same, List.map_append, ← hg2]; rfl, by rw [List.length_append]; show ys.length + 1 ≤ _; omega, fun t h => ?_, fun t => ?_⟩
      · rcases List.mem_append.mp h with h | h
        · exact hy2 t h
        · rw [List.mem_singleton.mp h]; simp only [List.length_append, List.length_singleton]; omega
      · rw [List.mem_append, List.mem_singleton, hy3]
        constructor
        · rintro ((⟨k', u, hu, hk', hp', hl, h⟩ | ⟨h, ht⟩) | h)
          · exact ⟨k', u, hu, hk', hp', by omega, h⟩
          · exact ⟨k, p.take (1 + i), hne, hk2, e.symm, by omega, .inl ⟨h, ht⟩⟩
          · exact ⟨k, p.take (1 + i), hne, hk2, e.symm, by omega, .inr h⟩
        · rintro ⟨k', u, hu, hk', hp', hl, h⟩
          by_cases hlu : u.length < 1 + i
          · exact .inl (.inl ⟨k', u, hu, hk', hp', hlu, h⟩)
          · have hul : u.length = 1 + i := by omega
            have hut : u = p.take (1 + i) := by rw [← hul, rpt_take (by omega) hp']
            have hkk : k' = k := by
              have := congrArg List.length hp'
              rw [rpt_len, hul] at this
              rw [← hk, this, Nat.mul_div_cancel _ (by omega)]
            subst hkk hut
            rcases h with h | h
            · exact .inl (.inr h)
            · exact .inr h
    · walk_at "go"
      refine ⟨_, _, xs, rfl, s1, eL, by omega, hx2, fun t => ?_⟩
      rw [hx3]
      constructor
      · rintro ⟨k', u, hu, hk', hp', hl, h⟩
        exact ⟨k', u, hu, hk', hp', by omega, h⟩
      · rintro ⟨k', u, hu, hk', hp', hl, h⟩
        refine ⟨k', u, hu, hk', hp', ?_, h⟩
        by_cases hlu : u.length < 1 + i
        · exact hlu
        · have hul : u.length = 1 + i := by omega
          have hut : u = p.take (1 + i) := by rw [← hul, rpt_take (by omega) hp']
          have hkk : k' = k := by
            have := congrArg List.length hp'
            rw [rpt_len, hul] at this
            rw [← hk, this, Nat.mul_div_cancel _ (by omega)]
          exact absurd (by rw [← hut, ← hkk, ← hp']) e
  · rintro σ H' ⟨v4, v5, xs, rfl, s1, eL, hx1, hx2, hx3⟩
    have key : ∀ t, Cand fC p t ↔ t ∈ xs := fun t => by
      rw [hx3]
      constructor
      · rintro ⟨k, u, hu, hk, hp', h⟩
        have := congrArg List.length hp'
        rw [rpt_len] at this
        have h2u : 2 * u.length ≤ k * u.length := Nat.mul_le_mul_right _ hk
        exact ⟨k, u, hu, hk, hp', by omega, h⟩
      · rintro ⟨k, u, hu, hk, hp', hl, h⟩
        exact ⟨k, u, hu, hk, hp', h⟩
    walk_at "go"
    cases xs with
    | nil =>
      refine i_truL0 eL ?_
      have := q H' s1
      rw [fI_none hp1 fun t h => by have := (key t).mp h; simp at this] at this
      walk_at "go"
      exact this
    | cons x r =>
      refine i_truL1 eL (by simp) ?_
      walk_at "go"
      refine ⟨L, x :: r, rfl, eL, by simp, fun y hy => Nat.le_trans (hx2 y hy) (by decide), fun m H2 hm hb s2 => ?_⟩
      have := q H2 (s1.trans s2)
      rw [fI_isL hp1 (m := m) ⟨(key m).mpr hm, fun y hy => hb y ((key y).mp hy)⟩] at this
      exact this
end
end K06
namespace K06
open PySem PySem.Spec PyProof.Rows L2 Fg
local macro_rules | `(tactic| walk_at "sq") => `(tactic| first
  | assumption
  | exact .inl (.inl (by assumption))
  | exact .inl (.inl upd_same))
local macro_rules | `(tactic| walk_at "st") => `(tactic| first
  | assumption
  | exact .inl (.inl (by assumption))
  | exact .inl (.inl upd_same))
local macro_rules | `(tactic| walk_at "o") => `(tactic| first
  | omega
  | assumption
  | (simp only [List.length_append, List.length_take, List.length_drop, List.length_cons, List.length_nil, List.length_singleton, List.length_map, List.length_range, Int.toNat_natCast] ; omega))
local macro_rules | `(tactic| walk_at "s") => `(tactic| first
  | (with_reducible refine i_seq ?_)
  | (with_reducible refine i_asg ?_)
  | ((with_reducible refine' i_var ?h1 ?_); (case h1 => rfl))
  | (with_reducible refine i_c ?_)
  | ((with_reducible refine' i_gname' ?h1 ?_); (case h1 => (simp only [List.set_cons_zero, List.set_cons_succ]; rfl)))
  | (with_reducible refine i_op ?_)
  | (with_reducible refine i_ifS ?_)
  | (with_reducible refine i_for ?_)
  | (with_reducible refine i_test ?_)
  | (with_reducible refine i_B ?_)
  | (with_reducible refine i_exbl ?_)
  | (with_reducible refine i_exint ?_)
  | (with_reducible refine i_cb ?_)
  | (with_reducible refine i_nil ?_)
  | (with_reducible refine i_cons ?_)
  | (with_reducible refine i_ret ?_)
  | (with_reducible refine i_sl ?_)
  | (with_reducible refine i_nopart ?_)
  | (with_reducible refine i_part ?_)
  | (with_reducible refine i_add_int ?_)
  | (with_reducible refine i_sub ?_)
  | (with_reducible refine i_lt ?_)
  | ((with_reducible refine' i_mod ?h1 ?_); (case h1 => walk_at "o"))
  | ((with_reducible refine' i_fdiv ?h1 ?_); (case h1 => (refine cdiv_small ?_ ?_ <;> walk_at "o")))
  | ((with_reducible refine' i_sl_to ?h1 ?h2 ?_); (case h1 => walk_at "o"); (case h2 => walk_at "o"))
  | ((with_reducible refine' i_sl_from ?h1 ?h2 ?_); (case h1 => walk_at "o"); (case h2 => walk_at "o"))
  | ((with_reducible refine' i_add_str ?h1 ?_); (case h1 => walk_at "o"))
  | ((with_reducible refine' i_mul_int ?h1 ?_); (case h1 => first | (refine mul_small ?_ ?_ <;> walk_at "o") | (refine mul_smallR ?_ ?_ <;> walk_at "o")))
  | (with_reducible refine i_le ?_)
  | (with_reducible refine i_gt ?_)
  | (with_reducible refine i_ge ?_)
  | (with_reducible refine i_eq_int ?_)
  | (with_reducible refine i_eq_str ?_)
  | (with_reducible refine i_ne_int ?_)
  | (with_reducible refine i_ne_str ?_)
  | (with_reducible refine i_eq_bl ?_)
  | (with_reducible refine i_ne_bl ?_)
  | (with_reducible refine i_in_sg ?_)
  | (with_reducible refine i_notIn_sg ?_)
  | (with_reducible refine i_call ?_)
  | (with_reducible refine i_callS ?_)
  | (with_reducible refine i_sp1 ?_)
  | (with_reducible refine i_sp2 ?_)
  | (with_reducible refine i_sp3 ?_)
  | (with_reducible refine i_sp4 ?_)
  | (with_reducible refine i_sp1' ?_)
  | (with_reducible refine i_sp2' ?_)
  | (with_reducible refine i_sp3' ?_)
  | ((with_reducible refine' i_ix_lst ?h1 ?h2 ?_); (case h1 => walk_at "sq"); (case h2 => first | exact atI_nat rfl | rfl))
  | ((with_reducible refine' i_ix_tup ?h1 ?h2 ?_); (case h1 => walk_at "st"); (case h2 => first | exact atI_nat rfl | rfl))
  | (with_reducible refine i_gsub ?_)
  | (with_reducible refine i_par ?_)
  | (with_reducible refine i_lstRg1 ?_)
  | (with_reducible refine i_app ?_)
  | (with_reducible refine i_par2 ?_)
  | ((with_reducible refine' i_aug ?h1 ?_); (case h1 => rfl))
  | (with_reducible refine i_ipI ?_)
  | ((with_reducible refine' i_gtup2 ?h1 ?_); (case h1 => walk_at "st"))
  | (with_reducible refine i_int_bl ?_)
  | (with_reducible refine i_raise ?_)
  | (with_reducible refine i_mkE ?_)
  | (with_reducible refine i_ex1 ?_)
  | (with_reducible refine i_and ?_)
  | (with_reducible refine i_or ?_)
  | (with_reducible refine i_not ?_)
  | (with_reducible refine i_tt ?_)
  | (with_reducible refine i_ff ?_)
  | (with_reducible refine i_nott ?_)
  | (with_reducible refine i_notf ?_)
  | (with_reducible refine i_andV ?_)
  | (with_reducible refine i_orV ?_)
  | (with_reducible refine i_notV ?_)
  | (with_reducible refine i_ifE ?_)
  | (with_reducible refine i_tup ?_)
  | (with_reducible refine i_lst ?_)
  | (with_reducible refine i_un ?_)
  | (with_reducible refine i_neg ?_)
  | (with_reducible refine i_chain ?_)
  | (with_reducible refine i_next ?_)
  | (with_reducible refine i_retN ?_)
  | (with_reducible refine i_drop ?_)
  | (with_reducible refine i_int_int ?_)
  | (with_reducible refine i_abs ?_)
  | (with_reducible refine i_m1c ?_)
  | (with_reducible refine i_is_non ?_)
  | (with_reducible refine i_is_int ?_)
  | (with_reducible refine i_is_bl ?_)
  | (with_reducible refine i_isn_bl ?_)
  | (with_reducible refine i_is_str ?_)
  | (with_reducible refine i_is_ref ?_)
  | (with_reducible refine i_isn_non ?_)
  | (with_reducible refine i_isn_int ?_)
  | (with_reducible refine i_isn_str ?_)
  | (with_reducible refine i_isn_ref ?_)
  | (with_reducible refine i_len_str ?h1 ?_; (case h1 => walk_at "o"))
  | (with_reducible refine i_dget ?_)
  | (with_reducible refine i_tru ?_)
  | (with_reducible refine i_dput ?_)
  | (with_reducible refine i_dnotin ?_)
  | (with_reducible refine i_din ?_)
  | (with_reducible refine i_isi_int_int ?_) | (with_reducible refine i_isi_int_bool ?_) | (with_reducible refine i_isi_int_str ?_) | (with_reducible refine i_isi_int_tuple ?_) | (with_reducible refine i_isi_int_list ?_)
  | (with_reducible refine i_isi_bl_int ?_) | (with_reducible refine i_isi_bl_bool ?_) | (with_reducible refine i_isi_bl_str ?_) | (with_reducible refine i_isi_bl_tuple ?_) | (with_reducible refine i_isi_bl_list ?_)
  | (with_reducible refine i_isi_str_int ?_) | (with_reducible refine i_isi_str_bool ?_) | (with_reducible refine i_isi_str_str ?_) | (with_reducible refine i_isi_str_tuple ?_) | (with_reducible refine i_isi_str_list ?_)
  | (with_reducible refine i_isi_non_int ?_) | (with_reducible refine i_isi_non_bool ?_) | (with_reducible refine i_isi_non_str ?_) | (with_reducible refine i_isi_non_tuple ?_) | (with_reducible refine i_isi_non_list ?_))
local macro_rules | `(tactic| walk_at "go") => `(tactic| (repeat' (walk_at "s")))
local macro_rules | `(tactic| walk_at "n") => `(tactic| simp only [wipe, List.map_cons, List.map_nil, List.set_cons_zero, List.set_cons_succ])
def sub (z : List Nat) (a m : Nat) : List Nat := (z.drop a).take m
theorem sub_len {z : List Nat} {a m : Nat} (h : a + m ≤ z.length) : (sub z a m).length = m := by
  unfold sub
  rw [List.length_take, List.length_drop]
  omega
theorem sub_ne {z : List Nat} {a m : Nat} (h : a + m ≤ z.length) (hm : 1 ≤ m) : sub z a m ≠ [] := fun e => by
  have := sub_len h
  rw [e] at this
  have : 0 = m := this
  omega
theorem sub_take {z : List Nat} {a m k : Nat} (h : k ≤ m) : (sub z a m).take k = sub z a k := by
  unfold sub
  rw [List.take_take, Nat.min_eq_left h]
theorem sub_drop {z : List Nat} {a m k : Nat} : (sub z a m).drop k = sub z (a + k) (m - k) := by
  unfold sub
  rw [List.drop_take, List.drop_drop]
theorem sub_pre {z u : List Nat} {a m : Nat} (h : a + m ≤ z.length) (hp : u <+: sub z a m) : u = sub z a u.length ∧ u.length ≤ m := by
  have hl := hp.length_le
  rw [sub_len h] at hl
  refine ⟨?_, hl⟩
  rw [← sub_take hl]
  exact List.prefix_iff_eq_take.mp hp
theorem sub_all (z : List Nat) : sub z 0 z.length = z := by unfold sub; rw [List.drop_zero, List.take_length]
section
variable {P : Program} {w : World} {K : PySem.W.Frag} {mg : Str → Option Value} {base : Heap} {C_GlimError C_BadRound C_BadText C_TooLong : Addr}
def p_items : P3 := fun x y z H Q _ => ∃ (p : List Nat) (a b : Addr) (n m : Nat) (gi gt : List Nat → Option V), x = S p ∧ y = .ref a ∧ z = .ref b ∧ 1 ≤ p.length ∧ p.length ≤ 24 ∧ TD n H a gi ∧ TD m H b gt ∧ (∀ k, 1 ≤ k → k ≤ p.length → gi (p.take k) = some (oS (fI (p.take k)))) ∧ (∀ k, 1 ≤ k → k ≤ p.length → gt (p.drop k) = some (S (fT (p.drop k)))) ∧ ∀ H', Same H H' → Q (S (fT p)) H'
theorem ok_items_text (T : Txt K mg C_GlimError C_BadRound C_BadText C_TooLong) : OK P w K mg base CX0 4 "items_text" ["part", "items", "texts"] (sp3  p_items) := by
  refine OK.mk (k := 3) T.d_items_text sc_items_text len3 fun f cdv A outer s H vs Q E hr h => ?_
  obtain ⟨x, y, z, rfl, h⟩ := h
  refine ⟨_, (pss_cons (ps_set (i := 3) sc_items_text.nd rfl (Or.inl rfl) (pe_lst pa_nil)) (pss_cons (ps_for PassesOwn.never rfl (pi_range2 rfl T.b_range (pa_cons pe_int (pa_cons (pe_op (opAdd K) (pe_callB (cLen K) (by rfl) T.b_len (by decide +kernel) (pa_cons (pv 0) pa_nil)) pe_int) pa_nil))) (pg_name (i := 4) sc_items_text.nd rfl (Or.inl rfl)) (pss_one (ps_if (pt_cmpR op_isNotP (pe_dget (hu_of hr) (pv 1) (pe_slice (slK K) (pv 0) po_none (po_some (pv 4))) (fun _ _ => rfl)) pe_non (nomark _)) (pss_one (ps_expr (peApp K (pv 3) (pa_cons (pe_op (opAdd K) (pe_dget (hu_of hr) (pv 1) (pe_slice (slK K) (pv 0) po_none (po_some (pv 4))) (fun _ _ => rfl)) (pe_dget (hu_of hr) (pv 2) (pe_slice (slK K) (pv 0) (po_some (pv 4)) po_none) (fun _ _ => rfl))) pa_nil)))) pss_nil))) (pss_one (ps_ret (pe_f (ok_least_text (K := K) T) (hr.mono (by decide)) pass0 (pa_cons (pv 3) pa_nil)))))), ?_⟩
  show (_ : TS) { nx := fun _ H' => Q .non H', rt := Q } [some x, some y, some z, none, none] H
  obtain ⟨p, a, b, n, m, gi, gt, rfl, rfl, rfl, h1, h2, ti, tt, hi, ht, q⟩ := h
  have hp : p ≠ [] := List.length_pos_iff.mp h1
  walk_at "go"
  refine i_new (by show 0 ≤ 100000; omega) fun L nL => ?_
  walk_at "go"
  refine f_rng2 1 (p.length + 1) (fun R k => by walk_at "go"; rw [Int.natCast_add] at k; exact k) (by omega) (fun i σ H' => ∃ (v4 : Option V) (xs : List (List Nat)), σ = [some (S p), some (.ref a), some (.ref b), some (.ref L), v4] ∧ Same H H' ∧ H' L = some (.lst (xs.map S)) ∧ xs.length ≤ i ∧ (∀ t ∈ xs, t.length ≤ 100) ∧ ∀ t, t ∈ xs ↔ ∃ k s, 1 ≤ k ∧ k < 1 + i ∧ fI (p.take k) = some s ∧ t = s ++ fT (p.drop k))
    ⟨none, [], rfl, same_upd nL, upd_same, Nat.le_refl _, by simp, fun t => ?_⟩ ?_ ?_
  · constructor
    · intro h; simp at h
    · rintro ⟨k, s, hk, hk', _⟩
      omega
  · rintro i σ H' hlt ⟨v4, xs, rfl, s1, eL, hx1, hx2, hx3⟩
    have tl : (p.take (1 + i)).length = 1 + i := by rw [List.length_take]; omega
    have hne : p.take (1 + i) ≠ [] := fun z => by
      have tl := tl
      rw [z] at tl
      have : 0 = 1 + i := tl
      omega
    have e1 := hi (1 + i) (by omega) (by omega)
    have e2 := ht (1 + i) (by omega) (by omega)
    walk_at "go"
    rw [Int.toNat_natCast]
    refine td_get (ti.mono s1) e1 ?_
    cases hI : fI (p.take (1 + i)) with
    | none =>
      show (_ : Prop)
      rw [show oS none = V.non from rfl]
      walk_at "go"
      refine ⟨_, xs, rfl, s1, eL, by omega, hx2, fun t => ?_⟩
      rw [hx3]
      constructor
      · rintro ⟨k, s, hk, hk', hs, h⟩
        exact ⟨k, s, hk, by omega, hs, h⟩
      · rintro ⟨k, s, hk, hk', hs, h⟩
        refine ⟨k, s, hk, ?_, hs, h⟩
        by_cases e : k < 1 + i
        · exact e
        · rw [show k = 1 + i by omega, hI] at hs; cases hs
    | some s =>
      have sl := fI_len hne (by omega) hI
      have fl := fT_len (p.drop (1 + i))
      rw [List.length_drop] at fl
      rw [hI] at e1
      show (_ : Prop)
      rw [show oS (some s) = S s from rfl] at e1 ⊢
      walk_at "go"
      refine i_appAt eL ?_
      walk_at "go"
      rw [Int.toNat_natCast]
      refine td_get (ti.mono s1) e1 ?_
      walk_at "go"
      rw [Int.toNat_natCast]
      refine td_get (tt.mono s1) e2 ?_
      walk_at "go"
      refine i_appEnd eL (by rw [List.length_map]; omega) ?_
      refine ⟨_, xs ++ [s ++ fT (p.drop (1 + i))], rfl, Same.upd s1 nL, by rw [upd_same, List.map_append]; rfl, by rw [List.length_append]; show xs.length + 1 ≤ _; omega, fun t h => ?_, fun t => ?_⟩
      · rcases List.mem_append.mp h with h | h
        · exact hx2 t h
        · rw [List.mem_singleton.mp h, List.length_append]; omega
      · rw [List.mem_append, List.mem_singleton, hx3]
        constructor
        · rintro (⟨k, s', hk, hk', hs, h⟩ | h)
          · exact ⟨k, s', hk, by omega, hs, h⟩
          · exact ⟨1 + i, s, by omega, by omega, hI, h⟩
        · rintro ⟨k, s', hk, hk', hs, h⟩
          by_cases e : k < 1 + i
          · exact .inl ⟨k, s', hk, e, hs, h⟩
          · rw [show k = 1 + i by omega] at hs h
            rw [hI] at hs
            cases hs
            exact .inr h
  · rintro σ H' ⟨v4, xs, rfl, s1, eL, hx1, hx2, hx3⟩
    have h0 : [p[0]] ++ fT (p.drop 1) ∈ xs := (hx3 _).mpr ⟨1, [p[0]], Nat.le_refl _, by omega, by
      have : p.take 1 = [p[0]] := by
        cases p with
        | nil => exact absurd rfl hp
        | cons x r => rfl
      rw [this]; exact fI_one, rfl⟩
    walk_at "go"
    refine ⟨L, xs, rfl, eL, List.ne_nil_of_mem h0, fun y hy => Nat.le_trans (hx2 y hy) (by decide), fun m' H2 hm hb s2 => ?_⟩
    have hT : fT p = m' := by
      refine fT_first hp ?_ ?_
      · obtain ⟨k, s, hk, hk', hs, h⟩ := (hx3 m').mp hm
        refine ⟨p.take k, p.drop k, s, (List.take_append_drop k p).symm, fun z => ?_, hs, h⟩
        have := congrArg List.length z
        rw [List.length_take] at this
        have this : min k p.length = 0 := this
        omega
      · intro a b s e ha hs
        have h1' : 1 ≤ a.length := List.length_pos_iff.mpr ha
        have hl : a.length ≤ p.length := by rw [e, List.length_append]; omega
        refine hb _ ((hx3 _).mpr ⟨a.length, s, h1', by omega, by rw [e, List.take_left]; exact hs, by rw [e, List.drop_left]⟩)
    rw [← hT]
    exact q H2 (s1.trans s2)
/-- the dicts behind so many turns -/
def Ds (z : List Nat) (H : Hp) (I T : Addr) (N : Nat) (dom : Nat → Nat → Prop) : Prop := ∃ gi gt n m, TD n H I gi ∧ TD m H T gt ∧ n ≤ N ∧ m ≤ N + 1 ∧ gt [] = some (S []) ∧ (∀ u v, u ≠ [] → gt u = some v → v = S (fT u) ∧ gi u = some (oS (fI u))) ∧ ∀ a k, dom a k → 1 ≤ k → a + k ≤ z.length → (gt (sub z a k)).isSome = true
theorem Ds.got {z : List Nat} {H : Hp} {I T : Addr} {N : Nat} {dom dom' : Nat → Nat → Prop} (h : Ds z H I T N dom) (hd : ∀ a k, dom' a k → 1 ≤ k → a + k ≤ z.length → dom a k) : Ds z H I T N dom' := by
  obtain ⟨gi, gt, n, m, a1, a2, a3, a4, a5, a6, a7⟩ := h
  exact ⟨gi, gt, n, m, a1, a2, a3, a4, a5, a6, fun a k x y w => a7 a k (hd a k x y w) y w⟩
def p_fold (C : Addr) : P1 := fun x H Q E => (∃ l, x = S l ∧ IsRound l ∧ ∀ H', Same H H' → Q (S (fC l)) H') ∨ BadX C H x E
theorem ok_fold_round (T : Txt K mg C_GlimError C_BadRound C_BadText C_TooLong) : OK P w K mg base (L2.CX P w) 6 "fold_round" ["row"] (sp1  (p_fold C_BadRound)) := by
  refine OK.mkX (k := 5) T.d_fold_round sc_fold_round len1 fun f cdv A outer s H vs Q E hr h => ?_
  obtain ⟨x, rfl, h⟩ := h
  refine ⟨_, (pss_cons (ps_expr (pe_f (ok_check_round (K := K) T) (hr.mono (by decide)) (passes_call (takes_of rfl rfl rfl rfl) (fun _ _ _ _ h => h)) (pa_cons (pv 0) pa_nil))) (pss_cons (ps_set (i := 1) sc_fold_round.nd rfl (Or.inl rfl) pe_dnewK) (pss_cons (ps_set (i := 2) sc_fold_round.nd rfl (Or.inl rfl) (pe_disp (pps_cons (pe_S []) (pe_S []) pps_nil) (by rfl) (by rfl) (fun z => by cases z) (by decide))) (pss_cons (ps_for (passes_of rfl) rfl (pi_range2 rfl T.b_range (pa_cons pe_int (pa_cons (pe_op (opAdd K) (pe_callB (cLen K) (by rfl) T.b_len (by decide +kernel) (pa_cons (pv 0) pa_nil)) pe_int) pa_nil))) (pg_name (i := 3) sc_fold_round.nd rfl (Or.inl rfl)) (pss_one (ps_for (passes_of rfl) rfl (pi_range1 rfl T.b_range (pa_cons (pe_op (opAdd K) (pe_op op_subP (pe_callB (cLen K) (by rfl) T.b_len (by decide +kernel) (pa_cons (pv 0) pa_nil)) (pv 3)) pe_int) pa_nil)) (pg_name (i := 4) sc_fold_round.nd rfl (Or.inl rfl)) (pss_cons (ps_set (i := 5) sc_fold_round.nd rfl (Or.inl rfl) (pe_slice (slK K) (pv 0) (po_some (pv 4)) (po_some (pe_op (opAdd K) (pv 4) (pv 3))))) (pss_one (ps_if (pt_cmp (pc_dnotin (hu_of hr) (pv 5) (pv 2))) (pss_cons (ps_dput (hu_of hr) (pv 1) (pv 5) (pe_f (ok_item_text (K := K) T) (hr.mono (by decide)) pass0 (pa_cons (pv 5) (pa_cons (pv 2) pa_nil))) rfl) (pss_one (ps_dput (hu_of hr) (pv 2) (pv 5) (pe_f (ok_items_text (K := K) T) (hr.mono (by decide)) pass0 (pa_cons (pv 5) (pa_cons (pv 1) (pa_cons (pv 2) pa_nil)))) rfl))) pss_nil)))))) (pss_one (ps_ret (pe_f (ok_closed_text (K := K) T) (hr.mono (by decide)) pass0 (pa_cons (pv 0) (pa_cons (pv 2) pa_nil))))))))), ?_⟩
  show (_ : TS) { nx := fun _ H' => Q .non H', rt := Q } [some x, none, none, none, none, none] H
  rcases h with ⟨z, rfl, hz, q⟩ | h
  case inr =>
    walk_at "go"
    exact .inr h
  have hz1 := hz.1
  have hz2 := hz.2.1
  walk_at "go"
  refine .inl ⟨z, rfl, hz, fun H1 s1 => ?_⟩
  walk_at "go"
  refine i_dnewK fun I nI => ?_
  walk_at "go"
  refine i_disp1 (l := []) (v := S []) (fun H R k => k) (fun H R k => k) fun Tt o nT td => ?_
  have neIT : I ≠ Tt := fun e => by rw [← e, upd_same] at nT; cases nT
  have nT1 : H1 Tt = none := by rw [upd_ne (Ne.symm neIT)] at nT; exact nT
  have ti : TD 0 (upd (upd H1 I (.dK [])) Tt o) I (fun _ => none) := TD.new.at (upd_ne neIT)
  have sB : Same H1 (upd (upd H1 I (.dK [])) Tt o) := Same.upd (same_upd nI) nT1
  have ds0 : Ds z (upd (upd H1 I (.dK [])) Tt o) I Tt 0 (fun a k => k < 1) := ⟨_, _, 0, 1, ti, td, Nat.le_refl _, Nat.le_refl _, by unfold setT; rw [if_pos rfl], (fun u v hu e => by
    unfold setT at e
    rw [if_neg hu] at e
    cases e), fun a k h1 h2 => absurd h2 (by have : k < 1 := h1; omega)⟩
  generalize (upd (upd H1 I (.dK [])) Tt o) = H2 at *
  walk_at "go"
  refine f_rng2 1 (z.length + 1) (fun R k => by walk_at "go"; rw [Int.natCast_add] at k; exact k) (by omega) (fun i σ H' => ∃ v3 v4 v5 : Option V, σ = [some (S z), some (.ref I), some (.ref Tt), v3, v4, v5] ∧ Same H1 H' ∧ Ds z H' I Tt (30 * i) (fun a k => k < 1 + i) ∧ i ≤ 24) ⟨_, _, _, rfl, sB, ds0, by omega⟩ ?_ ?_
  · rintro i σ H3 hi ⟨v3, v4, v5, rfl, s3, ds, hi24⟩
    walk_at "go"
    refine f_rng1 (z.length - i) (fun R k => by walk_at "go"; rw [show (z.length : Int) - ((1 + i : Nat) : Int) + 1 = ((z.length - i : Nat) : Int) by omega]; exact k) (by omega) (fun j σ H' => ∃ v4 v5 : Option V, σ = [some (S z), some (.ref I), some (.ref Tt), some (.int ((1 + i : Nat) : Int)), v4, v5] ∧ Same H1 H' ∧ Ds z H' I Tt (30 * i + j) (fun a k => k < 1 + i ∨ (k = 1 + i ∧ a < j)) ∧ j ≤ 24) ⟨_, _, rfl, s3, ds.got (fun a k h _ _ => by omega), by omega⟩ ?_ ?_
    · rintro j σ H4 hj ⟨v4, v5, rfl, s4, ds4, hj24⟩
      have hjm : j + (1 + i) ≤ z.length := by omega
      have hpl := sub_len hjm
      have hpn := sub_ne hjm (by omega)
      walk_at "go"
      rw [← Int.natCast_add]
      refine i_sl_str (by omega) ?_
      rw [cutN_mid, show (z.drop j).take (1 + i) = sub z j (1 + i) from rfl]
      walk_at "go"
      obtain ⟨gi, gt, n, m, t1, t2, hn, hm, g0, gv, gd⟩ := id ds4
      refine td_ask t2 ?_
      -- what is known of its parts
      have pre : ∀ k, 1 ≤ k → k ≤ i → gt (sub z j k) = some (S (fT (sub z j k))) ∧ gi (sub z j k) = some (oS (fI (sub z j k))) := fun k k1 k2 => by
        have h := gd j k (.inl (by omega)) k1 (by omega)
        obtain ⟨v, hv⟩ := Option.isSome_iff_exists.mp h
        obtain ⟨e1, e2⟩ := gv _ v (sub_ne (by omega) k1) hv
        exact ⟨by rw [hv, e1], e2⟩
      cases hgt : gt (sub z j (1 + i)) with
      | some v =>
        simp only [Option.isSome_some, Bool.not_true]
        walk_at "go"
        refine ⟨_, _, rfl, s4, ?_, by omega⟩
        refine ⟨gi, gt, n, m, t1, t2, by omega, by omega, g0, gv, fun a k hd k1 k2 => ?_⟩
        by_cases e : k = 1 + i ∧ a = j
        · rw [e.1, e.2, hgt]; rfl
        · exact gd a k (by omega) k1 k2
      | none =>
        simp only [Option.isSome_none, Bool.not_false]
        walk_at "go"
        refine ⟨sub z j (1 + i), Tt, m, gt, rfl, rfl, by omega, by omega, t2, fun u hu hpre hlt => ?_, fun H5 s5 => ?_⟩
        · obtain ⟨e1, e2⟩ := sub_pre hjm hpre
          have hu1 := List.length_pos_iff.mpr hu
          rw [e1]
          exact (pre u.length hu1 (by omega)).1
        walk_at "go"
        refine td_put (t1.mono s5) (by omega) fun o5 t3 => ?_
        have nI4 : H1 I = none := by
          cases hI : H1 I with
          | none => rfl
          | some x => rw [hI] at nI; cases nI
        have t4 : TD m (upd H5 I o5) Tt gt := (t2.mono s5).at (upd_ne (Ne.symm neIT))
        walk_at "go"
        refine ⟨sub z j (1 + i), I, Tt, n + 1, m, _, gt, rfl, rfl, rfl, by omega, by omega, t3, t4, fun k k1 k2 => ?_, fun k k1 k2 => ?_, fun H6 s6 => ?_⟩
        · rw [hpl] at k2
          unfold setT
          by_cases e : k = 1 + i
          · rw [e, List.take_of_length_le (by omega), if_pos rfl]
          · rw [sub_take (by omega)]
            rw [if_neg (fun h => by
              have := congrArg List.length h
              rw [sub_len (by omega), hpl] at this
              omega)]
            exact (pre k k1 (by omega)).2
        · rw [hpl] at k2
          rw [sub_drop]
          by_cases e : k = 1 + i
          · rw [e, Nat.sub_self]
            show gt (((z.drop _).take 0)) = _
            rw [List.take_zero, g0]
            show _ = some (S (fT (((z.drop _).take 0))))
            rw [List.take_zero, fT_nil]
          · have h := gd (j + k) (1 + i - k) (.inl (by omega)) (by omega) (by omega)
            obtain ⟨v, hv⟩ := Option.isSome_iff_exists.mp h
            rw [hv, (gv _ v (sub_ne (by omega) (by omega)) hv).1]
        walk_at "go"
        refine td_put (t4.mono s6) (by omega) fun o6 t5 => ?_
        have t6 : TD (n + 1) (upd H6 Tt o6) I _ := (t3.mono s6).at (upd_ne neIT)
        refine ⟨_, _, rfl, Same.upd (Same.trans (Same.upd (s4.trans s5) nI4) s6) nT1, ?_, by omega⟩
        refine ⟨_, _, n + 1, m + 1, t6, t5, by omega, by omega, ?_, fun u v hu e => ?_, fun a k hd k1 k2 => ?_⟩
        · unfold setT
          rw [if_neg (fun h => hpn h.symm)]
          exact g0
        · unfold setT at e ⊢
          by_cases hu' : u = sub z j (1 + i)
          · rw [if_pos hu'] at e ⊢
            rw [hu']
            exact ⟨(Option.some.inj e).symm, rfl⟩
          · rw [if_neg hu'] at e ⊢
            exact gv u v hu e
        · unfold setT
          by_cases hu' : sub z a k = sub z j (1 + i)
          · rw [if_pos hu']; rfl
          · rw [if_neg hu']
            refine gd a k ?_ k1 k2
            rcases hd with hd | ⟨hd1, hd2⟩
            · exact .inl hd
            · refine .inr ⟨hd1, ?_⟩
              by_cases e : a = j
              · exact absurd (by rw [hd1, e]) hu'
              · omega
    · rintro σ H4 ⟨v4, v5, rfl, s4, ds4, hj24⟩
      refine ⟨_, _, _, rfl, s4, ?_, by omega⟩
      obtain ⟨gi, gt, n, m, t1, t2, hn, hm, g0, gv, gd⟩ := ds4
      exact ⟨gi, gt, n, m, t1, t2, by omega, by omega, g0, gv, fun a k hd k1 k2 => gd a k (by omega) k1 k2⟩
  · rintro σ H3 ⟨v3, v4, v5, rfl, s3, ds, hi24⟩
    obtain ⟨gi, gt, n, m, t1, t2, hn, hm, g0, gv, gd⟩ := ds
    walk_at "go"
    refine ⟨z, Tt, m, gt, rfl, rfl, hz1, hz2, t2, fun u hu hpre => ?_, fun H4 s4 => q H4 ((s1.trans s3).trans s4)⟩
    have e1 := List.prefix_iff_eq_take.mp hpre
    have hl := hpre.length_le
    have hu1 := List.length_pos_iff.mpr hu
    have h := gd 0 u.length (by omega) hu1 (by omega)
    have e2 : sub z 0 u.length = u := by unfold sub; rw [List.drop_zero, ← e1]
    rw [e2] at h
    obtain ⟨v, hv⟩ := Option.isSome_iff_exists.mp h
    rw [hv, (gv u v hu hv).1]
end
end K06
namespace K06
open PySem PySem.Spec PyProof.Rows L2 Fg
local macro_rules | `(tactic| walk_at "sq") => `(tactic| first
  | assumption
  | exact .inl (.inl (by assumption))
  | exact .inl (.inl upd_same))
local macro_rules | `(tactic| walk_at "st") => `(tactic| first
  | assumption
  | exact .inl (.inl (by assumption))
  | exact .inl (.inl upd_same))
local macro_rules | `(tactic| walk_at "o") => `(tactic| first
  | omega
  | assumption
  | (simp only [List.length_append, List.length_take, List.length_drop, List.length_cons, List.length_nil, List.length_singleton, List.length_map, List.length_range, Int.toNat_natCast] ; omega))
local macro_rules | `(tactic| walk_at "s") => `(tactic| first
  | (with_reducible refine i_seq ?_)
  | (with_reducible refine i_asg ?_)
  | ((with_reducible refine' i_var ?h1 ?_); (case h1 => rfl))
  | (with_reducible refine i_c ?_)
  | ((with_reducible refine' i_gname' ?h1 ?_); (case h1 => (simp only [List.set_cons_zero, List.set_cons_succ]; rfl)))
  | (with_reducible refine i_op ?_)
  | (with_reducible refine i_ifS ?_)
  | (with_reducible refine i_for ?_)
  | (with_reducible refine i_test ?_)
  | (with_reducible refine i_B ?_)
  | (with_reducible refine i_exbl ?_)
  | (with_reducible refine i_exint ?_)
  | (with_reducible refine i_cb ?_)
  | (with_reducible refine i_nil ?_)
  | (with_reducible refine i_cons ?_)
  | (with_reducible refine i_ret ?_)
  | (with_reducible refine i_sl ?_)
  | (with_reducible refine i_nopart ?_)
  | (with_reducible refine i_part ?_)
  | (with_reducible refine i_add_int ?_)
  | (with_reducible refine i_sub ?_)
  | (with_reducible refine i_lt ?_)
  | ((with_reducible refine' i_mod ?h1 ?_); (case h1 => walk_at "o"))
  | ((with_reducible refine' i_fdiv ?h1 ?_); (case h1 => (refine cdiv_small ?_ ?_ <;> walk_at "o")))
  | ((with_reducible refine' i_sl_to ?h1 ?h2 ?_); (case h1 => walk_at "o"); (case h2 => walk_at "o"))
  | ((with_reducible refine' i_sl_from ?h1 ?h2 ?_); (case h1 => walk_at "o"); (case h2 => walk_at "o"))
  | ((with_reducible refine' i_add_str ?h1 ?_); (case h1 => walk_at "o"))
  | ((with_reducible refine' i_mul_int ?h1 ?_); (case h1 => first | (refine mul_small ?_ ?_ <;> walk_at "o") | (refine mul_smallR ?_ ?_ <;> walk_at "o")))
  | (with_reducible refine i_le ?_)
  | (with_reducible refine i_gt ?_)
  | (with_reducible refine i_ge ?_)
  | (with_reducible refine i_eq_int ?_)
  | (with_reducible refine i_eq_str ?_)
  | (with_reducible refine i_ne_int ?_)
  | (with_reducible refine i_ne_str ?_)
  | (with_reducible refine i_eq_bl ?_)
  | (with_reducible refine i_ne_bl ?_)
  | (with_reducible refine i_in_sg ?_)
  | (with_reducible refine i_notIn_sg ?_)
  | (with_reducible refine i_call ?_)
  | (with_reducible refine i_callS ?_)
  | (with_reducible refine i_sp1 ?_)
  | (with_reducible refine i_sp2 ?_)
  | (with_reducible refine i_sp3 ?_)
  | (with_reducible refine i_sp4 ?_)
  | (with_reducible refine i_sp1' ?_)
  | (with_reducible refine i_sp2' ?_)
  | (with_reducible refine i_sp3' ?_)
  | ((with_reducible refine' i_ix_lst ?h1 ?h2 ?_); (case h1 => walk_at "sq"); (case h2 => first | exact atI_nat rfl | rfl))
  | ((with_reducible refine' i_ix_tup ?h1 ?h2 ?_); (case h1 => walk_at "st"); (case h2 => first | exact atI_nat rfl | rfl))
  | (with_reducible refine i_gsub ?_)
  | (with_reducible refine i_par ?_)
  | (with_reducible refine i_lstRg1 ?_)
  | (with_reducible refine i_app ?_)
  | (with_reducible refine i_par2 ?_)
  | ((with_reducible refine' i_aug ?h1 ?_); (case h1 => rfl))
  | (with_reducible refine i_ipI ?_)
  | ((with_reducible refine' i_gtup2 ?h1 ?_); (case h1 => walk_at "st"))
  | (with_reducible refine i_int_bl ?_)
  | (with_reducible refine i_raise ?_)
  | (with_reducible refine i_mkE ?_)
  | (with_reducible refine i_ex1 ?_)
  | (with_reducible refine i_and ?_)
  | (with_reducible refine i_or ?_)
  | (with_reducible refine i_not ?_)
  | (with_reducible refine i_tt ?_)
  | (with_reducible refine i_ff ?_)
  | (with_reducible refine i_nott ?_)
  | (with_reducible refine i_notf ?_)
  | (with_reducible refine i_andV ?_)
  | (with_reducible refine i_orV ?_)
  | (with_reducible refine i_notV ?_)
  | (with_reducible refine i_ifE ?_)
  | (with_reducible refine i_tup ?_)
  | (with_reducible refine i_lst ?_)
  | (with_reducible refine i_un ?_)
  | (with_reducible refine i_neg ?_)
  | (with_reducible refine i_chain ?_)
  | (with_reducible refine i_next ?_)
  | (with_reducible refine i_retN ?_)
  | (with_reducible refine i_drop ?_)
  | (with_reducible refine i_int_int ?_)
  | (with_reducible refine i_abs ?_)
  | (with_reducible refine i_m1c ?_)
  | (with_reducible refine i_is_non ?_)
  | (with_reducible refine i_is_int ?_)
  | (with_reducible refine i_is_bl ?_)
  | (with_reducible refine i_isn_bl ?_)
  | (with_reducible refine i_is_str ?_)
  | (with_reducible refine i_is_ref ?_)
  | (with_reducible refine i_isn_non ?_)
  | (with_reducible refine i_isn_int ?_)
  | (with_reducible refine i_isn_str ?_)
  | (with_reducible refine i_isn_ref ?_)
  | (with_reducible refine i_len_str ?h1 ?_; (case h1 => walk_at "o"))
  | (with_reducible refine i_dget ?_)
  | (with_reducible refine i_tru ?_)
  | (with_reducible refine i_dput ?_)
  | (with_reducible refine i_dnotin ?_)
  | (with_reducible refine i_din ?_)
  | (with_reducible refine i_isi_int_int ?_) | (with_reducible refine i_isi_int_bool ?_) | (with_reducible refine i_isi_int_str ?_) | (with_reducible refine i_isi_int_tuple ?_) | (with_reducible refine i_isi_int_list ?_)
  | (with_reducible refine i_isi_bl_int ?_) | (with_reducible refine i_isi_bl_bool ?_) | (with_reducible refine i_isi_bl_str ?_) | (with_reducible refine i_isi_bl_tuple ?_) | (with_reducible refine i_isi_bl_list ?_)
  | (with_reducible refine i_isi_str_int ?_) | (with_reducible refine i_isi_str_bool ?_) | (with_reducible refine i_isi_str_str ?_) | (with_reducible refine i_isi_str_tuple ?_) | (with_reducible refine i_isi_str_list ?_)
  | (with_reducible refine i_isi_non_int ?_) | (with_reducible refine i_isi_non_bool ?_) | (with_reducible refine i_isi_non_str ?_) | (with_reducible refine i_isi_non_tuple ?_) | (with_reducible refine i_isi_non_list ?_))
local macro_rules | `(tactic| walk_at "go") => `(tactic| (repeat' (walk_at "s")))
local macro_rules | `(tactic| walk_at "n") => `(tactic| simp only [wipe, List.map_cons, List.map_nil, List.set_cons_zero, List.set_cons_succ])
section
variable {P : Program} {w : World} {K : PySem.W.Frag} {mg : Str → Option Value} {base : Heap} {C_GlimError C_BadRound C_BadText C_TooLong : Addr}
def p_L_round (K : PySem.W.Frag) : P2 := fun x y H Q _ => ∃ (H0 : Hp) (d : Dd) (most : Int), x = .ref d.a ∧ y = .int most ∧ Dr K d H0 H ∧ 1 ≤ most ∧ most ≤ 1000 ∧ ∀ l H', Dr K d H0 H' → Row l → 1 ≤ l.length → (l.length : Int) ≤ most → Q (S l) H'
theorem ok_L_round (T : Txt K mg C_GlimError C_BadRound C_BadText C_TooLong) : OK P w K mg base CX0 4 "_law_round" ["_law_draw_here", "_law_most"] (sp2  (p_L_round K)) := by
  refine OK.mk (k := 3) T.d_L_round sc_L_round len2 fun f cdv A outer s H vs Q E hr h => ?_
  obtain ⟨x, y, rfl, h⟩ := h
  refine ⟨_, (pss_one (ps_ret (peJoin K (pe_S []) (pe_lc (own := [("_law_turn", 2)]) (g := gName 2) (tt := tYes) (by rfl) sc_L_round.nd (pi_range1 rfl T.b_range (pa_cons (pe_op (opAdd K) pe_int (pe_f (ok_L_pick (K := K) T) (hr.mono (by decide)) pass0 (pa_cons (pv 0) (pa_cons (pv 1) pa_nil)))) pa_nil)) (blkOk_by (own := [("_law_turn", 2)]) (N := ["_law_draw_here", "_law_most", "_law_turn"]) (sc := (defScope s_L_round)) (by decide +kernel)) (fun _ _ _ _ _ => (pg_name (i := 2) sc_L_round.nd rfl (Or.inl rfl))) (fun _ _ _ _ _ => pts_nil) (fun _ _ _ _ _ => (pe_f (ok_L_sign (K := K) T) (hr.mono (by decide)) pass0 (pa_cons (pv 0) pa_nil))))))), ?_⟩
  show (_ : TS) { nx := fun _ H' => Q .non H', rt := Q } [some x, some y, none] H
  obtain ⟨H0, d, most, rfl, rfl, dr, m1, m2, q⟩ := h
  walk_at "go"
  refine c_rngD (K := K) (d := d) (H0 := H0) (fun z => 1 ≤ z ∧ z ≤ most) (fun R k => ?_) (fun z h => by omega) (fun i acc => ∃ cs : List Nat, cs.length = i ∧ i ≤ 1000 ∧ Row cs ∧ acc = cs.map fun c => S [c]) ⟨[], rfl, by omega, fun c hc => by simp at hc, rfl⟩ ?_ (fun _ => rfl) ?_ ?_
  · walk_at "go"
    refine ⟨H0, d, most, rfl, rfl, dr, by omega, fun n H1 dr1 b => ?_⟩
    walk_at "go"
    exact k _ _ dr1 (by have := b.1; have := b.2.1; have := b.2.2; omega)
  · rintro i acc ⟨cs, h1, h2, h3, rfl⟩
    rw [List.length_map]; omega
  · rintro z i acc Hk H2 hz hi ⟨cs, h1, h2, h3, rfl⟩ dr2 QV k
    show (_ : TE) [some (.ref d.a), some (.int most), some (.int (i : Int))] H2 QV
    walk_at "go"
    refine ⟨Hk, d, rfl, dr2, fun c H3 dr3 hc => k _ _ dr3 ⟨cs ++ [c], by rw [List.length_append, h1]; rfl, by omega, fun x hx => ?_, by rw [List.map_append]; rfl⟩⟩
    rcases List.mem_append.mp hx with hx | hx
    · exact h3 x hx
    · rw [List.mem_singleton.mp hx]; exact hc
  · rintro z Dl H3 acc hz n0 ⟨cs, h1, h2, h3, rfl⟩ dr3
    walk_at "go"
    refine i_join1 (.inl (.inl (dr3.old upd_same))) (by omega) ?_
    exact q cs H3 (dr3.less dr.cells n0) h3 (by omega) (by omega)
def p_L_bent (K : PySem.W.Frag) : P2 := fun x y H Q _ => ∃ (H0 : Hp) (d : Dd) (l : List Nat), x = .ref d.a ∧ y = S l ∧ Dr K d H0 H ∧ Row l ∧ 1 ≤ l.length ∧ l.length ≤ 1000 ∧ ∀ l' H', Dr K d H0 H' → Row l' → 1 ≤ l'.length → l'.length ≤ l.length + 1 → Q (S l') H'
theorem ok_L_bent (T : Txt K mg C_GlimError C_BadRound C_BadText C_TooLong) : OK P w K mg base CX0 4 "_law_bent" ["_law_draw_here", "_law_row_here"] (sp2  (p_L_bent K)) := by
  refine OK.mk (k := 3) T.d_L_bent sc_L_bent len2 fun f cdv A outer s H vs Q E hr h => ?_
  obtain ⟨x, y, rfl, h⟩ := h
  refine ⟨_, (pss_cons (ps_set (i := 2) sc_L_bent.nd rfl (Or.inl rfl) (pe_f (ok_L_pick (K := K) T) (hr.mono (by decide)) pass0 (pa_cons (pv 0) (pa_cons (pe_callB (cLen K) (by rfl) T.b_len (by decide +kernel) (pa_cons (pv 1) pa_nil)) pa_nil)))) (pss_cons (ps_set (i := 3) sc_L_bent.nd rfl (Or.inl rfl) (pe_f (ok_L_pick (K := K) T) (hr.mono (by decide)) pass0 (pa_cons (pv 0) (pa_cons pe_int pa_nil)))) (pss_cons (ps_if (pw_and (pt_cmpR (opEq K hr.units) (pv 3) pe_int (nomark _)) (pw_and1 (pt_cmpR op_gtP (pe_callB (cLen K) (by rfl) T.b_len (by decide +kernel) (pa_cons (pv 1) pa_nil)) pe_int (nomark _)))).pt (pss_one (ps_ret (pe_op (opAdd K) (pe_slice (slK K) (pv 1) po_none (po_some (pv 2))) (pe_slice (slK K) (pv 1) (po_some (pe_op (opAdd K) (pv 2) pe_int)) po_none)))) pss_nil) (pss_cons (ps_if (pt_cmpR (opEq K hr.units) (pv 3) pe_int (nomark _)) (pss_one (ps_ret (pe_op (opAdd K) (pe_op (opAdd K) (pe_slice (slK K) (pv 1) po_none (po_some (pv 2))) (pe_f (ok_L_sign (K := K) T) (hr.mono (by decide)) pass0 (pa_cons (pv 0) pa_nil))) (pe_slice (slK K) (pv 1) (po_some (pv 2)) po_none)))) pss_nil) (pss_one (ps_ret (pe_op (opAdd K) (pe_op (opAdd K) (pe_slice (slK K) (pv 1) po_none (po_some (pv 2))) (pe_f (ok_L_sign (K := K) T) (hr.mono (by decide)) pass0 (pa_cons (pv 0) pa_nil))) (pe_slice (slK K) (pv 1) (po_some (pe_op (opAdd K) (pv 2) pe_int)) po_none)))))))), ?_⟩
  show (_ : TS) { nx := fun _ H' => Q .non H', rt := Q } [some x, some y, none, none] H
  obtain ⟨H0, d, l, rfl, rfl, dr, hr, h1, h2, q⟩ := h
  walk_at "go"
  refine ⟨H0, d, l.length, rfl, rfl, dr, by omega, fun n H1 dr1 b => ?_⟩
  have b0 := b.1
  have b1 : n.toNat < l.length := by have := b.2.1; have := b.2.2; omega
  have e1 : (n + 1).toNat = n.toNat + 1 := by omega
  walk_at "go"
  refine ⟨H0, d, 3, rfl, rfl, dr1, by decide, fun k H2 dr2 _ => ?_⟩
  walk_at "go"
  have last : ∀ c H3, Dr K d H0 H3 → c ∈ SG → Q (S (l.take n.toNat ++ [c] ++ l.drop (n + 1).toNat)) H3 := fun c H3 dr3 hc =>
    q _ H3 dr3 (((hr.take _).app (.one hc)).app (hr.drop _)) (by simp; omega) (by rw [e1]; simp; omega)
  refine i_dec (fun c0 => ?_) (fun c0 => ?_)
  · walk_at "go"
    refine i_dec (fun c1 => ?_) (fun c1 => ?_)
    · walk_at "go"
      exact q _ H2 dr2 ((hr.take _).app (hr.drop _)) (by rw [e1]; simp; omega) (by rw [e1]; simp; omega)
    · walk_at "go"
      refine i_dec (fun c2 => absurd c2 (by omega)) (fun c2 => ?_)
      walk_at "go"
      refine ⟨H0, d, rfl, dr2, fun c H3 dr3 hc => ?_⟩
      walk_at "go"
      exact last c H3 dr3 hc
  · walk_at "go"
    refine i_dec (fun c2 => ?_) (fun c2 => ?_)
    · walk_at "go"
      refine ⟨H0, d, rfl, dr2, fun c H3 dr3 hc => ?_⟩
      walk_at "go"
      exact q _ H3 dr3 (((hr.take _).app (.one hc)).app (hr.drop _)) (by simp; omega) (by simp; omega)
    · walk_at "go"
      refine ⟨H0, d, rfl, dr2, fun c H3 dr3 hc => ?_⟩
      walk_at "go"
      exact last c H3 dr3 hc
def p_L_row (K : PySem.W.Frag) : P1 := fun x H Q _ => ∃ (H0 : Hp) (d : Dd), x = .ref d.a ∧ Dr K d H0 H ∧ ∀ l H', Dr K d H0 H' → IsRound l → Q (S l) H'
theorem ok_L_row (T : Txt K mg C_GlimError C_BadRound C_BadText C_TooLong) : OK P w K mg base CX0 5 "_law_row" ["_law_draw_here"] (sp1  (p_L_row K)) := by
  refine OK.mk (k := 4) T.d_L_row sc_L_row len1 fun f cdv A outer s H vs Q E hr h => ?_
  obtain ⟨x, rfl, h⟩ := h
  refine ⟨_, (pss_cons (ps_set (i := 1) sc_L_row.nd rfl (Or.inl rfl) (pe_f (ok_L_round (K := K) T) (hr.mono (by decide)) pass0 (pa_cons (pv 0) (pa_cons (pe_ix (ixK K) (pe_lst (pa_cons pe_int (pa_cons pe_int (pa_cons pe_int (pa_cons pe_int (pa_cons pe_int pa_nil)))))) (pe_f (ok_L_pick (K := K) T) (hr.mono (by decide)) pass0 (pa_cons (pv 0) (pa_cons pe_int pa_nil))) (fun _ _ => rfl)) pa_nil)))) (pss_cons (ps_for PassesOwn.never rfl (pi_range1 rfl T.b_range (pa_cons (pe_f (ok_L_pick (K := K) T) (hr.mono (by decide)) pass0 (pa_cons (pv 0) (pa_cons pe_int pa_nil))) pa_nil)) (pg_name (i := 2) sc_L_row.nd rfl (Or.inl rfl)) (pss_cons (ps_set (i := 3) sc_L_row.nd rfl (Or.inl rfl) (pe_f (ok_L_pick (K := K) T) (hr.mono (by decide)) pass0 (pa_cons (pv 0) (pa_cons pe_int pa_nil)))) (Evl.pss_cut (ps_if (pt_cmpR op_ltP (pv 3) pe_int (nomark _)) (pss_one (ps_set (i := 1) sc_L_row.nd rfl (Or.inl rfl) (pe_op op_mulP (pv 1) (pe_op (opAdd K) pe_int (pe_f (ok_L_pick (K := K) T) (hr.mono (by decide)) pass0 (pa_cons (pv 0) (pa_cons pe_int pa_nil))))))) (pss_one (ps_if (pt_cmpR (opEq K hr.units) (pv 3) pe_int (nomark _)) (pss_one (ps_set (i := 1) sc_L_row.nd rfl (Or.inl rfl) (pe_op (opAdd K) (pv 1) (pe_f (ok_L_round (K := K) T) (hr.mono (by decide)) pass0 (pa_cons (pv 0) (pa_cons pe_int pa_nil)))))) (pss_one (ps_if (pt_cmpR (opEq K hr.units) (pv 3) pe_int (nomark _)) (pss_one (ps_set (i := 1) sc_L_row.nd rfl (Or.inl rfl) (pe_op (opAdd K) (pv 1) (pe_slice (slK K) (pv 1) (po_some (pe_f (ok_L_pick (K := K) T) (hr.mono (by decide)) pass0 (pa_cons (pv 0) (pa_cons (pe_callB (cLen K) (by rfl) T.b_len (by decide +kernel) (pa_cons (pv 1) pa_nil)) pa_nil)))) po_none)))) (pss_one (ps_if (pt_cmpR (opEq K hr.units) (pv 3) pe_int (nomark _)) (pss_one (ps_set (i := 1) sc_L_row.nd rfl (Or.inl rfl) (pe_op (opAdd K) (pv 1) (pe_op op_mulP (pe_S [46]) (pe_op (opAdd K) pe_int (pe_f (ok_L_pick (K := K) T) (hr.mono (by decide)) pass0 (pa_cons (pv 0) (pa_cons pe_int pa_nil)))))))) (pss_one (ps_set (i := 1) sc_L_row.nd rfl (Or.inl rfl) (pe_op (opAdd K) (pv 1) (pe_op op_mulP (pe_ix (ixK K) (pe_S [103, 119]) (pe_f (ok_L_pick (K := K) T) (hr.mono (by decide)) pass0 (pa_cons (pv 0) (pa_cons pe_int pa_nil))) (fun _ _ => rfl)) (pe_op (opAdd K) pe_int (pe_f (ok_L_pick (K := K) T) (hr.mono (by decide)) pass0 (pa_cons (pv 0) (pa_cons pe_int pa_nil))))))))))))))) (pss_one (ps_set (i := 1) sc_L_row.nd rfl (Or.inl rfl) (pe_slice (slK K) (pv 1) po_none (po_some pe_int))))))) (pss_cons (ps_if (pt_cmpR (opEq K hr.units) (pe_f (ok_L_pick (K := K) T) (hr.mono (by decide)) pass0 (pa_cons (pv 0) (pa_cons pe_int pa_nil))) pe_int (nomark _)) (pss_one (ps_set (i := 1) sc_L_row.nd rfl (Or.inl rfl) (pe_slice (slK K) (pe_f (ok_L_bent (K := K) T) (hr.mono (by decide)) pass0 (pa_cons (pv 0) (pa_cons (pv 1) pa_nil))) po_none (po_some pe_int)))) pss_nil) (pss_one (ps_ret (pv 1)))))), ?_⟩
  show (_ : TS) { nx := fun _ H' => Q .non H', rt := Q } [some x, none, none, none] H
  obtain ⟨H0, d, rfl, dr, q⟩ := h
  walk_at "go"
  refine i_new (by show 5 ≤ 100000; omega) fun p5 np => ?_
  walk_at "go"
  refine ⟨_, d, 5, rfl, rfl, dr.new np, by decide, fun n H1 dr1 b1 => ?_⟩
  have b0 := b1.1
  have bb := b1.2.1 (by decide)
  have key : ∃ m : Int, [V.int 3, V.int 3, V.int 3, V.int 6, V.int 24][n.toNat]? = some (.int m) ∧ 1 ≤ m ∧ m ≤ 24 := by
    have hn : n.toNat = 0 ∨ n.toNat = 1 ∨ n.toNat = 2 ∨ n.toNat = 3 ∨ n.toNat = 4 := by omega
    rcases hn with h | h | h | h | h <;> rw [h] <;> exact ⟨_, rfl, by decide, by decide⟩
  obtain ⟨m, hm, m1, m2⟩ := key
  refine i_ix_lst (v := .int m) (.inl (.inl (dr1.old upd_same))) (atI_int b0 hm) ?_
  have dr2 := dr1.less dr.cells (dr.free np)
  walk_at "go"
  refine ⟨H0, d, m, rfl, rfl, dr2, m1, by omega, fun l H2 dr3 hrow l1 l2 => ?_⟩
  walk_at "go"
  refine i_forR ?_
  walk_at "go"
  refine ⟨H0, d, 5, rfl, rfl, dr3, by decide, fun t H3 dr4 b4 => ?_⟩
  have t0 := b4.1
  have t1 := b4.2.1 (by decide)
  refine i_rngD t0 (by omega) (fun i σ' H' => ∃ (l : List Nat) (v2 v3 : Option V), σ' = [some (.ref d.a), some (S l), v2, v3] ∧ Dr K d H0 H' ∧ IsRound l) ⟨l, _, _, rfl, dr4, l1, by omega, hrow⟩ ?_ ?_
  · rintro i σ' H4 hi ⟨l, v2, v3, rfl, dr5, r1, r2, r3⟩
    have r3 : Row l := r3
    walk_at "go"
    refine ⟨H0, d, 6, rfl, rfl, dr5, by decide, fun k H5 dr6 b6 => ?_⟩
    walk_at "go"
    refine i_cut (fun σ' H' => ∃ l' : List Nat, σ' = [some (.ref d.a), some (S l'), some (.int (i : Int)), some (.int k)] ∧ Dr K d H0 H' ∧ Row l' ∧ 1 ≤ l'.length ∧ l'.length ≤ 1000) ?_ ?_
    · walk_at "go"
      refine i_dec (fun a1 => ?_) (fun a1 => ?_)
      · walk_at "go"
        refine ⟨H0, d, 3, rfl, rfl, dr6, by decide, fun x H6 dr7 b7 => ?_⟩
        have x0 := b7.1
        have x1 := b7.2.1 (by decide)
        walk_at "go"
        have hmul : l.length * (2 + x).toNat ≤ 24 * 4 := Nat.mul_le_mul r2 (by omega)
        have hlen := rep_len (2 + x).toNat l
        have hmul2 : 1 * l.length ≤ (2 + x).toNat * l.length := Nat.mul_le_mul_right _ (by omega)
        refine i_mul_strI (by omega) ⟨by omega, by omega⟩ ?_
        walk_at "go"
        exact ⟨_, rfl, dr7, r3.rep _, by omega, by rw [hlen, Nat.mul_comm]; omega⟩
      walk_at "go"
      refine i_dec (fun a2 => ?_) (fun a2 => ?_)
      · walk_at "go"
        refine ⟨H0, d, 3, rfl, rfl, dr6, by decide, by decide, fun l3 H6 dr7 w1 w2 w3 => ?_⟩
        have w3 : l3.length ≤ 3 := by omega
        walk_at "go"
        exact ⟨_, rfl, dr7, r3.app w1, by rw [List.length_append]; omega, by rw [List.length_append]; omega⟩
      walk_at "go"
      refine i_dec (fun a3 => ?_) (fun a3 => ?_)
      · walk_at "go"
        refine ⟨H0, d, l.length, rfl, rfl, dr6, by omega, fun x H6 dr7 b7 => ?_⟩
        have x0 := b7.1
        walk_at "go"
        exact ⟨_, rfl, dr7, r3.app (r3.drop _), by rw [List.length_append]; omega, by rw [List.length_append, List.length_drop]; omega⟩
      walk_at "go"
      refine i_dec (fun a4 => ?_) (fun a4 => ?_)
      · walk_at "go"
        refine ⟨H0, d, 12, rfl, rfl, dr6, by decide, fun x H6 dr7 b7 => ?_⟩
        have x0 := b7.1
        have x1 := b7.2.1 (by decide)
        walk_at "go"
        refine i_mul_strI (by omega) ⟨by show 1 * _ ≤ _; omega, by omega⟩ ?_
        have hlen := rep_len (1 + x).toNat [46]
        rw [List.length_singleton] at hlen
        have hrow2 : Row (List.replicate (1 + x).toNat [46]).flatten := (Row.one (by decide)).rep _
        generalize (List.replicate (1 + x).toNat [46]).flatten = w at *
        walk_at "go"
        exact ⟨_, rfl, dr7, r3.app hrow2, by rw [List.length_append]; omega, by rw [List.length_append]; omega⟩
      · walk_at "go"
        refine ⟨H0, d, 2, rfl, rfl, dr6, by decide, fun x H6 dr7 b7 => ?_⟩
        have x0 := b7.1
        have x1 := b7.2.1 (by decide)
        have key2 : ∃ c, ([103, 119] : List Nat)[x.toNat]? = some c ∧ c ∈ SG := by
          have hn : x.toNat = 0 ∨ x.toNat = 1 := by omega
          rcases hn with h | h <;> rw [h] <;> exact ⟨_, rfl, by decide⟩
        obtain ⟨c, hc, hcs⟩ := key2
        refine i_ix_str (by decide) x0 hc ?_
        walk_at "go"
        refine ⟨H0, d, 12, rfl, rfl, dr7, by decide, fun y H7 dr8 b8 => ?_⟩
        have y0 := b8.1
        have y1 := b8.2.1 (by decide)
        walk_at "go"
        refine i_mul_strI (by omega) ⟨by show 1 * _ ≤ _; omega, by omega⟩ ?_
        have hlen := rep_len (1 + y).toNat [c]
        rw [List.length_singleton] at hlen
        have hrow2 : Row (List.replicate (1 + y).toNat [c]).flatten := (Row.one hcs).rep _
        generalize (List.replicate (1 + y).toNat [c]).flatten = w at *
        walk_at "go"
        exact ⟨_, rfl, dr8, r3.app hrow2, by rw [List.length_append]; omega, by rw [List.length_append]; omega⟩
    · rintro σ' H6 ⟨l', rfl, dr7, w1, w2, w3⟩
      walk_at "go"
      exact ⟨_, _, _, rfl, dr7, by rw [List.length_take]; show 1 ≤ min 24 _; omega, by rw [List.length_take]; show min 24 _ ≤ 24; omega, w1.take _⟩
  · rintro σ' H4 ⟨l, v2, v3, rfl, dr5, r1, r2, r3⟩
    have r3 : Row l := r3
    walk_at "go"
    refine ⟨H0, d, 3, rfl, rfl, dr5, by decide, fun k H5 dr6 b6 => ?_⟩
    walk_at "go"
    refine i_dec (fun a1 => ?_) (fun a1 => ?_)
    · walk_at "go"
      refine ⟨H0, d, l, rfl, rfl, dr6, r3, r1, by omega, fun l' H6 dr7 w1 w2 w3 => ?_⟩
      walk_at "go"
      exact q _ H6 dr7 ⟨by rw [List.length_take]; show 1 ≤ min 24 _; omega, by rw [List.length_take]; show min 24 _ ≤ 24; omega, w1.take _⟩
    · walk_at "go"
      exact q _ H5 dr6 ⟨r1, r2, r3⟩
def p_better : P2 := fun x y H Q _ => ∃ (o : Option (List Nat)) (t : List Nat), x = oS o ∧ y = S t ∧ (∀ s, o = some s → s.length ≤ 1000) ∧ t.length ≤ 1000 ∧ ∀ H', Same H H' → Q (S (bet o t)) H'
theorem ok_L_better (T : Txt K mg C_GlimError C_BadRound C_BadText C_TooLong) : OK P w K mg base CX0 1 "_law_better" ["_law_one", "_law_two"] (sp2  p_better) := by
  refine OK.mk (k := 0) T.d_L_better sc_L_better len2 fun f cdv A outer s H vs Q E hr h => ?_
  obtain ⟨x, y, rfl, h⟩ := h
  refine ⟨_, (pss_cons (ps_if (pt_cmpR op_isP (pv 0) pe_non (nomark _)) (pss_one (ps_ret (pv 1))) pss_nil) (pss_cons (ps_if (pw_or (pt_cmpR op_isP (pv 1) pe_non (nomark _)) (pw_or1 (pt_cmpR (opLePS K hr.units0) (pe_tup (pa_cons (pe_callB (cLen K) (by rfl) T.b_len (by decide +kernel) (pa_cons (pv 0) pa_nil)) (pa_cons (pv 0) pa_nil))) (pe_tup (pa_cons (pe_callB (cLen K) (by rfl) T.b_len (by decide +kernel) (pa_cons (pv 1) pa_nil)) (pa_cons (pv 1) pa_nil))) (nomark _)))).pt (pss_one (ps_ret (pv 0))) pss_nil) (pss_one (ps_ret (pv 1))))), ?_⟩
  show (_ : TS) { nx := fun _ H' => Q .non H', rt := Q } [some x, some y] H
  obtain ⟨o, t, rfl, rfl, hs, ht, q⟩ := h
  cases o with
  | none =>
    rw [show oS none = V.non from rfl]
    walk_at "go"
    exact q H (Same.refl H)
  | some s =>
    have hs := hs s rfl
    rw [show oS (some s) = S s from rfl]
    walk_at "go"
    refine i_new (by show 2 ≤ 100000; omega) fun q1 n1 => ?_
    walk_at "go"
    refine i_new (by show 2 ≤ 100000; omega) fun q2 n2 => ?_
    have ne : q1 ≠ q2 := fun z => by rw [z, upd_same] at n2; cases n2
    have sm : Same H (upd (upd H q1 (.tup [.int (s.length : Int), S s])) q2 (.tup [.int (t.length : Int), S t])) := (same_upd n1).trans (same_upd n2)
    refine i_lePS (.inl (.inl ((upd_ne ne).trans upd_same))) (.inl (.inl upd_same)) ?_
    walk_at "go"
    have qq : ∀ H', Same H H' → Q (S (if slt (t.length : Int) t (s.length : Int) s = true then t else s)) H' := q
    cases hc : slt (t.length : Int) t (s.length : Int) s with
    | true =>
      rw [hc, if_pos rfl] at qq
      rw [show (!true) = false from rfl]
      walk_at "go"
      exact qq _ sm
    | false =>
      rw [hc, if_neg (by decide)] at qq
      rw [show (!false) = true from rfl]
      walk_at "go"
      exact qq _ sm
end
end K06
namespace K06
open PySem PySem.Spec PyProof.Rows L2 Fg
local macro_rules | `(tactic| walk_at "sq") => `(tactic| first
  | assumption
  | exact .inl (.inl (by assumption))
  | exact .inl (.inl upd_same))
local macro_rules | `(tactic| walk_at "st") => `(tactic| first
  | assumption
  | exact .inl (.inl (by assumption))
  | exact .inl (.inl upd_same))
local macro_rules | `(tactic| walk_at "o") => `(tactic| first
  | omega
  | assumption
  | (simp only [List.length_append, List.length_take, List.length_drop, List.length_cons, List.length_nil, List.length_singleton, List.length_map, List.length_range, Int.toNat_natCast] ; omega))
local macro_rules | `(tactic| walk_at "s") => `(tactic| first
  | (with_reducible refine i_seq ?_)
  | (with_reducible refine i_asg ?_)
  | ((with_reducible refine' i_var ?h1 ?_); (case h1 => rfl))
  | (with_reducible refine i_c ?_)
  | ((with_reducible refine' i_gname' ?h1 ?_); (case h1 => (simp only [List.set_cons_zero, List.set_cons_succ]; rfl)))
  | (with_reducible refine i_op ?_)
  | (with_reducible refine i_ifS ?_)
  | (with_reducible refine i_for ?_)
  | (with_reducible refine i_test ?_)
  | (with_reducible refine i_B ?_)
  | (with_reducible refine i_exbl ?_)
  | (with_reducible refine i_exint ?_)
  | (with_reducible refine i_cb ?_)
  | (with_reducible refine i_nil ?_)
  | (with_reducible refine i_cons ?_)
  | (with_reducible refine i_ret ?_)
  | (with_reducible refine i_sl ?_)
  | (with_reducible refine i_nopart ?_)
  | (with_reducible refine i_part ?_)
  | (with_reducible refine i_add_int ?_)
  | (with_reducible refine i_sub ?_)
  | (with_reducible refine i_lt ?_)
  | ((with_reducible refine' i_mod ?h1 ?_); (case h1 => walk_at "o"))
  | ((with_reducible refine' i_fdiv ?h1 ?_); (case h1 => (refine cdiv_small ?_ ?_ <;> walk_at "o")))
  | ((with_reducible refine' i_sl_to ?h1 ?h2 ?_); (case h1 => walk_at "o"); (case h2 => walk_at "o"))
  | ((with_reducible refine' i_sl_from ?h1 ?h2 ?_); (case h1 => walk_at "o"); (case h2 => walk_at "o"))
  | ((with_reducible refine' i_add_str ?h1 ?_); (case h1 => walk_at "o"))
  | ((with_reducible refine' i_mul_int ?h1 ?_); (case h1 => first | (refine mul_small ?_ ?_ <;> walk_at "o") | (refine mul_smallR ?_ ?_ <;> walk_at "o")))
  | (with_reducible refine i_le ?_)
  | (with_reducible refine i_gt ?_)
  | (with_reducible refine i_ge ?_)
  | (with_reducible refine i_eq_int ?_)
  | (with_reducible refine i_eq_str ?_)
  | (with_reducible refine i_ne_int ?_)
  | (with_reducible refine i_ne_str ?_)
  | (with_reducible refine i_eq_bl ?_)
  | (with_reducible refine i_ne_bl ?_)
  | (with_reducible refine i_in_sg ?_)
  | (with_reducible refine i_notIn_sg ?_)
  | (with_reducible refine i_call ?_)
  | (with_reducible refine i_callS ?_)
  | (with_reducible refine i_sp1 ?_)
  | (with_reducible refine i_sp2 ?_)
  | (with_reducible refine i_sp3 ?_)
  | (with_reducible refine i_sp4 ?_)
  | (with_reducible refine i_sp1' ?_)
  | (with_reducible refine i_sp2' ?_)
  | (with_reducible refine i_sp3' ?_)
  | ((with_reducible refine' i_ix_lst ?h1 ?h2 ?_); (case h1 => walk_at "sq"); (case h2 => first | exact atI_nat rfl | rfl))
  | ((with_reducible refine' i_ix_tup ?h1 ?h2 ?_); (case h1 => walk_at "st"); (case h2 => first | exact atI_nat rfl | rfl))
  | (with_reducible refine i_gsub ?_)
  | (with_reducible refine i_par ?_)
  | (with_reducible refine i_lstRg1 ?_)
  | (with_reducible refine i_app ?_)
  | (with_reducible refine i_par2 ?_)
  | ((with_reducible refine' i_aug ?h1 ?_); (case h1 => rfl))
  | (with_reducible refine i_ipI ?_)
  | ((with_reducible refine' i_gtup2 ?h1 ?_); (case h1 => walk_at "st"))
  | (with_reducible refine i_int_bl ?_)
  | (with_reducible refine i_raise ?_)
  | (with_reducible refine i_mkE ?_)
  | (with_reducible refine i_ex1 ?_)
  | (with_reducible refine i_and ?_)
  | (with_reducible refine i_or ?_)
  | (with_reducible refine i_not ?_)
  | (with_reducible refine i_tt ?_)
  | (with_reducible refine i_ff ?_)
  | (with_reducible refine i_nott ?_)
  | (with_reducible refine i_notf ?_)
  | (with_reducible refine i_andV ?_)
  | (with_reducible refine i_orV ?_)
  | (with_reducible refine i_notV ?_)
  | (with_reducible refine i_ifE ?_)
  | (with_reducible refine i_tup ?_)
  | (with_reducible refine i_lst ?_)
  | (with_reducible refine i_un ?_)
  | (with_reducible refine i_neg ?_)
  | (with_reducible refine i_chain ?_)
  | (with_reducible refine i_next ?_)
  | (with_reducible refine i_retN ?_)
  | (with_reducible refine i_drop ?_)
  | (with_reducible refine i_int_int ?_)
  | (with_reducible refine i_abs ?_)
  | (with_reducible refine i_m1c ?_)
  | (with_reducible refine i_is_non ?_)
  | (with_reducible refine i_is_int ?_)
  | (with_reducible refine i_is_bl ?_)
  | (with_reducible refine i_isn_bl ?_)
  | (with_reducible refine i_is_str ?_)
  | (with_reducible refine i_is_ref ?_)
  | (with_reducible refine i_isn_non ?_)
  | (with_reducible refine i_isn_int ?_)
  | (with_reducible refine i_isn_str ?_)
  | (with_reducible refine i_isn_ref ?_)
  | (with_reducible refine i_len_str ?h1 ?_; (case h1 => walk_at "o"))
  | (with_reducible refine i_dget ?_)
  | (with_reducible refine i_tru ?_)
  | (with_reducible refine i_dput ?_)
  | (with_reducible refine i_dnotin ?_)
  | (with_reducible refine i_din ?_)
  | (with_reducible refine i_isi_int_int ?_) | (with_reducible refine i_isi_int_bool ?_) | (with_reducible refine i_isi_int_str ?_) | (with_reducible refine i_isi_int_tuple ?_) | (with_reducible refine i_isi_int_list ?_)
  | (with_reducible refine i_isi_bl_int ?_) | (with_reducible refine i_isi_bl_bool ?_) | (with_reducible refine i_isi_bl_str ?_) | (with_reducible refine i_isi_bl_tuple ?_) | (with_reducible refine i_isi_bl_list ?_)
  | (with_reducible refine i_isi_str_int ?_) | (with_reducible refine i_isi_str_bool ?_) | (with_reducible refine i_isi_str_str ?_) | (with_reducible refine i_isi_str_tuple ?_) | (with_reducible refine i_isi_str_list ?_)
  | (with_reducible refine i_isi_non_int ?_) | (with_reducible refine i_isi_non_bool ?_) | (with_reducible refine i_isi_non_str ?_) | (with_reducible refine i_isi_non_tuple ?_) | (with_reducible refine i_isi_non_list ?_))
local macro_rules | `(tactic| walk_at "go") => `(tactic| (repeat' (walk_at "s")))
local macro_rules | `(tactic| walk_at "n") => `(tactic| simp only [wipe, List.map_cons, List.map_nil, List.set_cons_zero, List.set_cons_succ])
section
variable {P : Program} {w : World} {K : PySem.W.Frag} {mg : Str → Option Value} {base : Heap} {C_GlimError C_BadRound C_BadText C_TooLong : Addr}
def p_one : P4 := fun x y w u H Q _ => ∃ (z : List Nat) (a m : Nat) (t : Addr) (n : Nat) (f : Int → Int → Option V), x = S z ∧ y = .int (a : Int) ∧ w = .int ((a + m : Nat) : Int) ∧ u = .ref t ∧ 1 ≤ m ∧ a + m ≤ z.length ∧ z.length ≤ 24 ∧ Fg.PD n H t f ∧ (∀ k, 1 ≤ k → k < m → f a ((a + k : Nat) : Int) = some (S (fC (sub z a k)))) ∧ ∀ H', Same H H' → Q (oS (fI (sub z a m))) H'
theorem ok_L_one_item (T : Txt K mg C_GlimError C_BadRound C_BadText C_TooLong) : OK P w K mg base CX0 2 "_law_one_item" ["_law_row_here", "_law_low", "_law_high", "_law_filled"] (sp4  p_one) := by
  refine OK.mk (k := 1) T.d_L_one_item sc_L_one_item len4 fun f cdv A outer s H vs Q E hr h => ?_
  obtain ⟨x, y, z, u, rfl, h⟩ := h
  refine ⟨_, (pss_cons (ps_set (i := 4) sc_L_one_item.nd rfl (Or.inl rfl) (pe_op op_subP (pv 2) (pv 1))) (pss_cons (ps_if (pt_cmpR (opEq K hr.units) (pv 4) pe_int (nomark _)) (pss_one (ps_ret (pe_ix (ixK K) (pv 0) (pv 1) (fun _ _ => rfl)))) pss_nil) (pss_cons (ps_set (i := 5) sc_L_one_item.nd rfl (Or.inl rfl) pe_non) (pss_cons (ps_for PassesOwn.never rfl (pi_range2 rfl T.b_range (pa_cons pe_int (pa_cons (pe_op (opAdd K) (pe_op op_fdivP (pv 4) pe_int) pe_int) pa_nil))) (pg_name (i := 6) sc_L_one_item.nd rfl (Or.inl rfl)) (pss_cons (ps_set (i := 7) sc_L_one_item.nd rfl (Or.inl rfl) (pe_op op_fdivP (pv 4) (pv 6))) (pss_one (ps_if (pt_cmpR (opEq K hr.units) (pe_op op_mulP (pe_slice (slK K) (pv 0) (po_some (pv 1)) (po_some (pe_op (opAdd K) (pv 1) (pv 6)))) (pv 7)) (pe_slice (slK K) (pv 0) (po_some (pv 1)) (po_some (pv 2))) (nomark _)) (Evl.pss_cut (ps_if (pt_cmpR (opEq K hr.units) (pv 6) pe_int (nomark _)) (pss_one (ps_set (i := 5) sc_L_one_item.nd rfl (Or.inl rfl) (pe_f (ok_L_better (K := K) T) (hr.mono (by decide)) pass0 (pa_cons (pv 5) (pa_cons (pe_op (opAdd K) (pe_callTy Fg.call_strS (by rfl) T.b_str (by decide +kernel) (pa_cons (pv 7) pa_nil)) (pe_ix (ixK K) (pv 0) (pv 1) (fun _ _ => rfl))) pa_nil))))) pss_nil) (pss_one (ps_set (i := 5) sc_L_one_item.nd rfl (Or.inl rfl) (pe_f (ok_L_better (K := K) T) (hr.mono (by decide)) pass0 (pa_cons (pv 5) (pa_cons (pe_op (opAdd K) (pe_op (opAdd K) (pe_op (opAdd K) (pe_callTy Fg.call_strS (by rfl) T.b_str (by decide +kernel) (pa_cons (pv 7) pa_nil)) (pe_S [40])) (pe_dget (hu_of hr) (pv 3) (pe_tup (pa_cons (pv 1) (pa_cons (pe_op (opAdd K) (pv 1) (pv 6)) pa_nil))) (fun _ _ => rfl))) (pe_S [41])) pa_nil)))))) pss_nil)))) (pss_one (ps_ret (pv 5))))))), ?_⟩
  show (_ : TS) { nx := fun _ H' => Q .non H', rt := Q } [some x, some y, some z, some u, none, none, none, none] H
  obtain ⟨zz, a, m, t, n, g, rfl, rfl, rfl, rfl, hm1, ham, hz, pd, hg, q⟩ := h
  have pl := sub_len ham
  walk_at "go"
  have e0 : ((a + m : Nat) : Int) - (a : Int) = (m : Int) := by omega
  rw [e0]
  refine i_dec (fun e1 => ?_) (fun e1 => ?_)
  · walk_at "go"
    have hlt : a < zz.length := by omega
    refine i_ix_str (c := zz[a]) (by omega) (by omega) (by rw [Int.toNat_natCast]; exact List.getElem?_eq_getElem hlt) ?_
    have hm : m = 1 := by omega
    subst hm
    have hs : sub zz a 1 = [zz[a]] := by unfold sub; rw [List.drop_eq_getElem_cons hlt]; rfl
    have := q H (Same.refl H)
    rw [hs, fI_one] at this
    walk_at "go"
    exact this
  have hm2 : 2 ≤ m := by omega
  generalize hp : sub zz a m = p at *
  have hp1 : p.length ≠ 1 := by omega
  walk_at "go"
  refine f_rng2 1 (m / 2 + 1) (fun R k => by walk_at "go"; rw [show (m : Int) / 2 + 1 = ((m / 2 + 1 : Nat) : Int) by omega]; exact k) (by omega) (fun i σ H' => ∃ (o : Option (List Nat)) (v6 v7 : Option V), σ = [some (S zz), some (.int (a : Int)), some (.int ((a + m : Nat) : Int)), some (.ref t), some (.int (m : Int)), some (oS o), v6, v7] ∧ Same H H' ∧ Lo (CandB (1 + i) p) o ∧ ∀ s, o = some s → s.length ≤ 100)
    ⟨none, _, _, rfl, Same.refl H, fun t ⟨k, u, hu, _, _, hl, _⟩ => by have := List.length_pos_iff.mpr hu; omega, fun s e => by cases e⟩ ?_ ?_
  · rintro i σ H' hi ⟨o, v6, v7, rfl, s1, lo, ol⟩
    have hmi : 1 + i ≤ m / 2 := by omega
    have hk2 : 2 ≤ m / (1 + i) := (Nat.le_div_iff_mul_le (by omega)).mpr (by omega)
    have hk24 : m / (1 + i) ≤ 24 := Nat.le_trans (Nat.div_le_self _ _) (by omega)
    have htk : p.take (1 + i) = sub zz a (1 + i) := by rw [← hp, sub_take (by omega)]
    have htl : (p.take (1 + i)).length = 1 + i := by rw [List.length_take]; omega
    walk_at "go"
    have hdiv : (m : Int) / ((1 + i : Nat) : Int) = ((m / (1 + i) : Nat) : Int) := by rw [Int.natCast_ediv]
    rw [hdiv]
    generalize hk : m / (1 + i) = k at *
    have hkl : (1 + i) * k ≤ m := by rw [← hk]; exact Nat.mul_div_le _ _
    rw [← Int.natCast_add]
    refine i_sl_str (by omega) ?_
    rw [cutN_mid, show (zz.drop a).take (1 + i) = sub zz a (1 + i) from rfl, ← htk]
    walk_at "go"
    refine i_mul_strI (Int.natCast_nonneg _) ⟨by rw [htl, Int.toNat_natCast]; omega, by rw [Int.toNat_natCast]; omega⟩ ?_
    rw [Int.toNat_natCast, show (List.replicate k (p.take (1 + i))).flatten = rpt k (p.take (1 + i)) from rfl]
    walk_at "go"
    refine i_sl_str (by omega) ?_
    rw [cutN_mid, show (zz.drop a).take m = p from hp]
    walk_at "go"
    have hne : p.take (1 + i) ≠ [] := fun z => by
      have htl := htl
      rw [z] at htl
      have : 0 = 1 + i := htl
      omega
    have uniq : ∀ k' u, 2 ≤ k' → p = rpt k' u → u.length = 1 + i → u = p.take (1 + i) ∧ k' = k := fun k' u hk' hp' hul => by
      refine ⟨by rw [← hul, rpt_take (by omega) hp'], ?_⟩
      have := congrArg List.length hp'
      rw [rpt_len, hul, pl] at this
      rw [← hk, this, Nat.mul_div_cancel _ (by omega)]
    refine i_dec (fun e => ?_) (fun e => ?_)
    · have dl := dec_len k
      have hcl := fC_len hne
      refine i_cut (fun σ' H' => ∃ o : Option (List Nat), σ' = [some (S zz), some (.int (a : Int)), some (.int ((a + m : Nat) : Int)), some (.ref t), some (.int (m : Int)), some (oS o), some (.int ((1 + i : Nat) : Int)), some (.int (k : Int))] ∧ Same H H' ∧ Lo (fun t => CandB (1 + i) p t ∨ ((p.take (1 + i)).length = 1 ∧ t = dec k ++ p.take (1 + i))) o ∧ ∀ s, o = some s → s.length ≤ 100) ?_ ?_
      · walk_at "go"
        refine i_dec (fun e0 => ?_) (fun e0 => ?_)
        · walk_at "go"
          refine ⟨k, rfl, by omega, ?_⟩
          walk_at "go"
          have hlt : a < zz.length := by omega
          have hi0 : i = 0 := by omega
          have htk1 : p.take (1 + i) = [zz[a]] := by
            rw [htk, hi0]
            unfold sub
            rw [List.drop_eq_getElem_cons hlt]
            rfl
          refine i_ix_str (c := zz[a]) (by omega) (by omega) (by rw [Int.toNat_natCast]; exact List.getElem?_eq_getElem hlt) ?_
          walk_at "go"
          refine ⟨o, dec k ++ [zz[a]], rfl, rfl, fun s h => Nat.le_trans (ol s h) (by decide), by rw [List.length_append, List.length_singleton]; omega, fun H2 s2 => ?_⟩
          walk_at "go"
          refine ⟨some (bet o (dec k ++ [zz[a]])), rfl, s1.trans s2, lo.more fun x => ?_, fun s h => ?_⟩
          · rw [htk1]
            exact or_congr Iff.rfl ⟨fun h => h.2, fun h => ⟨rfl, h⟩⟩
          · cases h
            exact bet_len ol (by rw [List.length_append, List.length_singleton]; omega)
        · walk_at "go"
          exact ⟨o, rfl, s1, lo.same fun x => ⟨fun h => h.elim id fun h => absurd h.1 (by omega), .inl⟩, ol⟩
      rintro σ' H1 ⟨o1, rfl, s2, lo1, ol1⟩
      walk_at "go"
      refine ⟨k, rfl, by omega, ?_⟩
      walk_at "go"
      refine i_new (by show 2 ≤ 100000; omega) fun qa na => ?_
      rw [← Int.natCast_add]
      have hgk := hg (1 + i) (by omega) (by omega)
      rw [← htk] at hgk
      refine pd_get ((pd.mono s2).mono (same_upd na)) upd_same hgk ?_
      walk_at "go"
      refine ⟨o1, _, rfl, rfl, fun s h => Nat.le_trans (ol1 s h) (by decide), by simp only [List.length_append, List.length_singleton]; omega, fun H2 s3 => ?_⟩
      walk_at "go"
      have hg2 : dec k ++ [40] ++ fC (p.take (1 + i)) ++ [41] = dec k ++ ([40] ++ (fC (p.take (1 + i)) ++ [41])) := by simp
      rw [hg2]
      refine ⟨some (bet o1 (dec k ++ ([40] ++ (fC (p.take (1 + i)) ++ [41])))), _, _, rfl, (s2.trans (same_upd na)).trans s3, lo1.more fun x => ?_, fun s h => ?_⟩
      · constructor
        · rintro ⟨k', u, hu, hk', hp', hl, h⟩
          by_cases hlu : u.length < 1 + i
          · exact .inl (.inl ⟨k', u, hu, hk', hp', hlu, h⟩)
          · obtain ⟨rfl, rfl⟩ := uniq k' u hk' hp' (by omega)
            rcases h with h | h
            · exact .inl (.inr h)
            · exact .inr h
        · rintro ((⟨k', u, hu, hk', hp', hl, h⟩ | ⟨h, ht⟩) | h)
          · exact ⟨k', u, hu, hk', hp', by omega, h⟩
          · exact ⟨k, p.take (1 + i), hne, hk2, e.symm, by omega, .inl ⟨h, ht⟩⟩
          · exact ⟨k, p.take (1 + i), hne, hk2, e.symm, by omega, .inr h⟩
      · cases h
        exact bet_len ol1 (by simp only [List.length_append, List.length_singleton]; omega)
    · walk_at "go"
      refine ⟨o, _, _, rfl, s1, lo.same fun x => ?_, ol⟩
      constructor
      · rintro ⟨k', u, hu, hk', hp', hl, h⟩
        refine ⟨k', u, hu, hk', hp', ?_, h⟩
        by_cases hlu : u.length < 1 + i
        · exact hlu
        · obtain ⟨h1, h2⟩ := uniq k' u hk' hp' (by omega)
          exact absurd (by rw [← h1, ← h2, ← hp']) e
      · rintro ⟨k', u, hu, hk', hp', hl, h⟩
        exact ⟨k', u, hu, hk', hp', by omega, h⟩
  · rintro σ H' ⟨o, v6, v7, rfl, s1, lo, ol⟩
    have key : ∀ t, Cand fC p t ↔ CandB (1 + (m / 2 + 1 - 1)) p t := fun t => by
      constructor
      · rintro ⟨k, u, hu, hk, hp', h⟩
        have := congrArg List.length hp'
        rw [rpt_len, pl] at this
        have h2u : 2 * u.length ≤ k * u.length := Nat.mul_le_mul_right _ hk
        exact ⟨k, u, hu, hk, hp', by omega, h⟩
      · rintro ⟨k, u, hu, hk, hp', hl, h⟩
        exact ⟨k, u, hu, hk, hp', h⟩
    have lo2 := lo.same key
    have hI : fI p = o := by
      cases o with
      | none => exact fI_none hp1 lo2
      | some s => exact fI_isL hp1 lo2
    walk_at "go"
    rw [← hI]
    exact q H' s1
end
end K06
namespace K06
open PySem PySem.Spec PyProof.Rows L2 Fg
local macro_rules | `(tactic| walk_at "sq") => `(tactic| first
  | assumption
  | exact .inl (.inl (by assumption))
  | exact .inl (.inl upd_same))
local macro_rules | `(tactic| walk_at "st") => `(tactic| first
  | assumption
  | exact .inl (.inl (by assumption))
  | exact .inl (.inl upd_same))
local macro_rules | `(tactic| walk_at "o") => `(tactic| first
  | omega
  | assumption
  | (simp only [List.length_append, List.length_take, List.length_drop, List.length_cons, List.length_nil, List.length_singleton, List.length_map, List.length_range, Int.toNat_natCast] ; omega))
local macro_rules | `(tactic| walk_at "s") => `(tactic| first
  | (with_reducible refine i_seq ?_)
  | (with_reducible refine i_asg ?_)
  | ((with_reducible refine' i_var ?h1 ?_); (case h1 => rfl))
  | (with_reducible refine i_c ?_)
  | ((with_reducible refine' i_gname' ?h1 ?_); (case h1 => (simp only [List.set_cons_zero, List.set_cons_succ]; rfl)))
  | (with_reducible refine i_op ?_)
  | (with_reducible refine i_ifS ?_)
  | (with_reducible refine i_for ?_)
  | (with_reducible refine i_test ?_)
  | (with_reducible refine i_B ?_)
  | (with_reducible refine i_exbl ?_)
  | (with_reducible refine i_exint ?_)
  | (with_reducible refine i_cb ?_)
  | (with_reducible refine i_nil ?_)
  | (with_reducible refine i_cons ?_)
  | (with_reducible refine i_ret ?_)
  | (with_reducible refine i_sl ?_)
  | (with_reducible refine i_nopart ?_)
  | (with_reducible refine i_part ?_)
  | (with_reducible refine i_add_int ?_)
  | (with_reducible refine i_sub ?_)
  | (with_reducible refine i_lt ?_)
  | ((with_reducible refine' i_mod ?h1 ?_); (case h1 => walk_at "o"))
  | ((with_reducible refine' i_fdiv ?h1 ?_); (case h1 => (refine cdiv_small ?_ ?_ <;> walk_at "o")))
  | ((with_reducible refine' i_sl_to ?h1 ?h2 ?_); (case h1 => walk_at "o"); (case h2 => walk_at "o"))
  | ((with_reducible refine' i_sl_from ?h1 ?h2 ?_); (case h1 => walk_at "o"); (case h2 => walk_at "o"))
  | ((with_reducible refine' i_add_str ?h1 ?_); (case h1 => walk_at "o"))
  | ((with_reducible refine' i_mul_int ?h1 ?_); (case h1 => first | (refine mul_small ?_ ?_ <;> walk_at "o") | (refine mul_smallR ?_ ?_ <;> walk_at "o")))
  | (with_reducible refine i_le ?_)
  | (with_reducible refine i_gt ?_)
  | (with_reducible refine i_ge ?_)
  | (with_reducible refine i_eq_int ?_)
  | (with_reducible refine i_eq_str ?_)
  | (with_reducible refine i_ne_int ?_)
  | (with_reducible refine i_ne_str ?_)
  | (with_reducible refine i_eq_bl ?_)
  | (with_reducible refine i_ne_bl ?_)
  | (with_reducible refine i_in_sg ?_)
  | (with_reducible refine i_notIn_sg ?_)
  | (with_reducible refine i_call ?_)
  | (with_reducible refine i_callS ?_)
  | (with_reducible refine i_sp1 ?_)
  | (with_reducible refine i_sp2 ?_)
  | (with_reducible refine i_sp3 ?_)
  | (with_reducible refine i_sp4 ?_)
  | (with_reducible refine i_sp1' ?_)
  | (with_reducible refine i_sp2' ?_)
  | (with_reducible refine i_sp3' ?_)
  | ((with_reducible refine' i_ix_lst ?h1 ?h2 ?_); (case h1 => walk_at "sq"); (case h2 => first | exact atI_nat rfl | rfl))
  | ((with_reducible refine' i_ix_tup ?h1 ?h2 ?_); (case h1 => walk_at "st"); (case h2 => first | exact atI_nat rfl | rfl))
  | (with_reducible refine i_gsub ?_)
  | (with_reducible refine i_par ?_)
  | (with_reducible refine i_lstRg1 ?_)
  | (with_reducible refine i_app ?_)
  | (with_reducible refine i_par2 ?_)
  | ((with_reducible refine' i_aug ?h1 ?_); (case h1 => rfl))
  | (with_reducible refine i_ipI ?_)
  | ((with_reducible refine' i_gtup2 ?h1 ?_); (case h1 => walk_at "st"))
  | (with_reducible refine i_int_bl ?_)
  | (with_reducible refine i_raise ?_)
  | (with_reducible refine i_mkE ?_)
  | (with_reducible refine i_ex1 ?_)
  | (with_reducible refine i_and ?_)
  | (with_reducible refine i_or ?_)
  | (with_reducible refine i_not ?_)
  | (with_reducible refine i_tt ?_)
  | (with_reducible refine i_ff ?_)
  | (with_reducible refine i_nott ?_)
  | (with_reducible refine i_notf ?_)
  | (with_reducible refine i_andV ?_)
  | (with_reducible refine i_orV ?_)
  | (with_reducible refine i_notV ?_)
  | (with_reducible refine i_ifE ?_)
  | (with_reducible refine i_tup ?_)
  | (with_reducible refine i_lst ?_)
  | (with_reducible refine i_un ?_)
  | (with_reducible refine i_neg ?_)
  | (with_reducible refine i_chain ?_)
  | (with_reducible refine i_next ?_)
  | (with_reducible refine i_retN ?_)
  | (with_reducible refine i_drop ?_)
  | (with_reducible refine i_int_int ?_)
  | (with_reducible refine i_abs ?_)
  | (with_reducible refine i_m1c ?_)
  | (with_reducible refine i_is_non ?_)
  | (with_reducible refine i_is_int ?_)
  | (with_reducible refine i_is_bl ?_)
  | (with_reducible refine i_isn_bl ?_)
  | (with_reducible refine i_is_str ?_)
  | (with_reducible refine i_is_ref ?_)
  | (with_reducible refine i_isn_non ?_)
  | (with_reducible refine i_isn_int ?_)
  | (with_reducible refine i_isn_str ?_)
  | (with_reducible refine i_isn_ref ?_)
  | (with_reducible refine i_len_str ?h1 ?_; (case h1 => walk_at "o"))
  | (with_reducible refine i_dget ?_)
  | (with_reducible refine i_tru ?_)
  | (with_reducible refine i_dput ?_)
  | (with_reducible refine i_dnotin ?_)
  | (with_reducible refine i_din ?_)
  | (with_reducible refine i_isi_int_int ?_) | (with_reducible refine i_isi_int_bool ?_) | (with_reducible refine i_isi_int_str ?_) | (with_reducible refine i_isi_int_tuple ?_) | (with_reducible refine i_isi_int_list ?_)
  | (with_reducible refine i_isi_bl_int ?_) | (with_reducible refine i_isi_bl_bool ?_) | (with_reducible refine i_isi_bl_str ?_) | (with_reducible refine i_isi_bl_tuple ?_) | (with_reducible refine i_isi_bl_list ?_)
  | (with_reducible refine i_isi_str_int ?_) | (with_reducible refine i_isi_str_bool ?_) | (with_reducible refine i_isi_str_str ?_) | (with_reducible refine i_isi_str_tuple ?_) | (with_reducible refine i_isi_str_list ?_)
  | (with_reducible refine i_isi_non_int ?_) | (with_reducible refine i_isi_non_bool ?_) | (with_reducible refine i_isi_non_str ?_) | (with_reducible refine i_isi_non_tuple ?_) | (with_reducible refine i_isi_non_list ?_))
local macro_rules | `(tactic| walk_at "go") => `(tactic| (repeat' (walk_at "s")))
local macro_rules | `(tactic| walk_at "n") => `(tactic| simp only [wipe, List.map_cons, List.map_nil, List.set_cons_zero, List.set_cons_succ])
/-- the three tables, where they are filled -/
def Dt (z : List Nat) (H : Hp) (I1 I2 I3 : Addr) (N : Nat) (dom : Nat → Nat → Prop) : Prop := ∃ f1 f2 f3 n1 n2 n3, Fg.PD n1 H I1 f1 ∧ Fg.PD n2 H I2 f2 ∧ Fg.PD n3 H I3 f3 ∧ n1 ≤ N ∧ n2 ≤ N ∧ n3 ≤ N ∧
  ∀ a k, dom a k → 1 ≤ k → a + k ≤ z.length → f1 (a : Int) ((a + k : Nat) : Int) = some (oS (fI (sub z a k))) ∧ f2 (a : Int) ((a + k : Nat) : Int) = some (S (fT (sub z a k))) ∧ f3 (a : Int) ((a + k : Nat) : Int) = some (S (fC (sub z a k)))
theorem Dt.got {z : List Nat} {H : Hp} {I1 I2 I3 : Addr} {N N' : Nat} {dom dom' : Nat → Nat → Prop} (h : Dt z H I1 I2 I3 N dom) (hN : N ≤ N') (hd : ∀ a k, dom' a k → 1 ≤ k → a + k ≤ z.length → dom a k) : Dt z H I1 I2 I3 N' dom' := by
  obtain ⟨f1, f2, f3, n1, n2, n3, a1, a2, a3, a4, a5, a6, a7⟩ := h
  exact ⟨f1, f2, f3, n1, n2, n3, a1, a2, a3, by omega, by omega, by omega, fun a k x y w => a7 a k (hd a k x y w) y w⟩
theorem setP_ne {f : Int → Int → Option V} {a b i j : Int} {v : V} (h : ¬ (a = i ∧ b = j)) : setP f i j v a b = f a b := if_neg h
theorem setP_eq {f : Int → Int → Option V} {i j : Int} {v : V} : setP f i j v i j = some v := if_pos ⟨rfl, rfl⟩
theorem sub_split {z : List Nat} {a m k : Nat} (h : k ≤ m) : sub z a m = sub z a k ++ sub z (a + k) (m - k) := by
  have h1 := sub_take (z := z) (a := a) h
  have h2 := sub_drop (z := z) (a := a) (m := m) (k := k)
  rw [← h1, ← h2, List.take_append_drop]
section
variable {P : Program} {w : World} {K : PySem.W.Frag} {mg : Str → Option Value} {base : Heap} {C_GlimError C_BadRound C_BadText C_TooLong : Addr}
def p_table : P1 := fun x H Q _ => ∃ z : List Nat, x = S z ∧ 1 ≤ z.length ∧ z.length ≤ 24 ∧ ∀ a n f H', Same H H' → Fg.PD n H' a f → f 0 (z.length : Int) = some (S (fC z)) → Q (.ref a) H'
theorem ok_L_table (T : Txt K mg C_GlimError C_BadRound C_BadText C_TooLong) : OK P w K mg base CX0 3 "_law_table" ["_law_row_here"] (sp1  p_table) := by
  refine OK.mk (k := 2) T.d_L_table sc_L_table len1 fun f cdv A outer s H vs Q E hr h => ?_
  obtain ⟨x, rfl, h⟩ := h
  refine ⟨_, (pss_cons (ps_set (i := 1) sc_L_table.nd rfl (Or.inl rfl) pe_dnewT) (pss_cons (ps_set (i := 2) sc_L_table.nd rfl (Or.inl rfl) pe_dnewT) (pss_cons (ps_set (i := 3) sc_L_table.nd rfl (Or.inl rfl) pe_dnewT) (pss_cons (ps_for PassesOwn.never rfl (pi_range2 rfl T.b_range (pa_cons pe_int (pa_cons (pe_op (opAdd K) (pe_callB (cLen K) (by rfl) T.b_len (by decide +kernel) (pa_cons (pv 0) pa_nil)) pe_int) pa_nil))) (pg_name (i := 4) sc_L_table.nd rfl (Or.inl rfl)) (pss_one (ps_for PassesOwn.never rfl (pi_range1 rfl T.b_range (pa_cons (pe_op (opAdd K) (pe_op op_subP (pe_callB (cLen K) (by rfl) T.b_len (by decide +kernel) (pa_cons (pv 0) pa_nil)) (pv 4)) pe_int) pa_nil)) (pg_name (i := 5) sc_L_table.nd rfl (Or.inl rfl)) (pss_cons (ps_set (i := 6) sc_L_table.nd rfl (Or.inl rfl) (pe_op (opAdd K) (pv 5) (pv 4))) (pss_cons (ps_dput (hu_of hr) (pv 1) (pe_tup (pa_cons (pv 5) (pa_cons (pv 6) pa_nil))) (pe_f (ok_L_one_item (K := K) T) (hr.mono (by decide)) pass0 (pa_cons (pv 0) (pa_cons (pv 5) (pa_cons (pv 6) (pa_cons (pv 3) pa_nil))))) rfl) (pss_cons (ps_set (i := 7) sc_L_table.nd rfl (Or.inl rfl) (pe_dget (hu_of hr) (pv 1) (pe_tup (pa_cons (pv 5) (pa_cons (pv 6) pa_nil))) (fun _ _ => rfl))) (pss_cons (ps_for PassesOwn.never rfl (pi_range2 rfl T.b_range (pa_cons (pe_op (opAdd K) (pv 5) pe_int) (pa_cons (pv 6) pa_nil))) (pg_name (i := 8) sc_L_table.nd rfl (Or.inl rfl)) (pss_one (ps_if (pt_cmpR op_isNotP (pe_dget (hu_of hr) (pv 1) (pe_tup (pa_cons (pv 8) (pa_cons (pv 6) pa_nil))) (fun _ _ => rfl)) pe_non (nomark _)) (pss_one (ps_set (i := 7) sc_L_table.nd rfl (Or.inl rfl) (pe_f (ok_L_better (K := K) T) (hr.mono (by decide)) pass0 (pa_cons (pv 7) (pa_cons (pe_op (opAdd K) (pe_dget (hu_of hr) (pv 2) (pe_tup (pa_cons (pv 5) (pa_cons (pv 8) pa_nil))) (fun _ _ => rfl)) (pe_dget (hu_of hr) (pv 1) (pe_tup (pa_cons (pv 8) (pa_cons (pv 6) pa_nil))) (fun _ _ => rfl))) pa_nil))))) pss_nil))) (pss_cons (ps_dput (hu_of hr) (pv 2) (pe_tup (pa_cons (pv 5) (pa_cons (pv 6) pa_nil))) (pv 7) rfl) (pss_cons (ps_set (i := 8) sc_L_table.nd rfl (Or.inl rfl) (pe_op op_subP (pv 6) pe_int)) (pss_cons (ps_while PassesOwn.never (pw_and (pt_cmpR op_gtP (pv 8) (pv 5) (nomark _)) (pw_and1 (pt_cmpR (opEq K hr.units) (pe_ix (ixK K) (pv 0) (pv 8) (fun _ _ => rfl)) (pe_S [46]) (nomark _)))).pt (pss_cons (ps_set (i := 7) sc_L_table.nd rfl (Or.inl rfl) (pe_f (ok_L_better (K := K) T) (hr.mono (by decide)) pass0 (pa_cons (pv 7) (pa_cons (pe_op (opAdd K) (pe_op (opAdd K) (pe_dget (hu_of hr) (pv 2) (pe_tup (pa_cons (pv 5) (pa_cons (pv 8) pa_nil))) (fun _ _ => rfl)) (pe_S [64])) (pe_callTy Fg.call_strS (by rfl) T.b_str (by decide +kernel) (pa_cons (pv 4) pa_nil))) pa_nil)))) (pss_one (ps_set (i := 8) sc_L_table.nd rfl (Or.inl rfl) (pe_op op_subP (pv 8) pe_int))))) (pss_one (ps_dput (hu_of hr) (pv 3) (pe_tup (pa_cons (pv 5) (pa_cons (pv 6) pa_nil))) (pv 7) rfl)))))))))))) (pss_one (ps_ret (pv 3))))))), ?_⟩
  show (_ : TS) { nx := fun _ H' => Q .non H', rt := Q } [some x, none, none, none, none, none, none, none, none] H
  obtain ⟨z, rfl, hz1, hz2, q⟩ := h
  walk_at "go"
  refine i_dnewT fun I1 n1 => ?_
  walk_at "go"
  refine i_dnewT fun I2 n2 => ?_
  walk_at "go"
  refine i_dnewT fun I3 n3 => ?_
  have ne12 : I1 ≠ I2 := fun e => by rw [← e, upd_same] at n2; cases n2
  have n2' : H I2 = none := by rw [upd_ne (Ne.symm ne12)] at n2; exact n2
  have ne23 : I2 ≠ I3 := fun e => by rw [← e, upd_same] at n3; cases n3
  have n3' : upd H I1 (.dT []) I3 = none := by rw [upd_ne (Ne.symm ne23)] at n3; exact n3
  have ne13 : I1 ≠ I3 := fun e => by rw [← e, upd_same] at n3'; cases n3'
  have n3'' : H I3 = none := by rw [upd_ne (Ne.symm ne13)] at n3'; exact n3'
  have sB : Same H (upd (upd (upd H I1 (.dT [])) I2 (.dT [])) I3 (.dT [])) := Same.upd (Same.upd (same_upd n1) n2') n3''
  have d0 : Dt z (upd (upd (upd H I1 (.dT [])) I2 (.dT [])) I3 (.dT [])) I1 I2 I3 0 (fun a k => k < 1) := ⟨_, _, _, 0, 0, 0, (Fg.PD.new (H := H)).at (by rw [upd_ne ne13, upd_ne ne12]), (Fg.PD.new (H := upd H I1 (.dT []))).at (by rw [upd_ne ne23]), Fg.PD.new, Nat.le_refl _, Nat.le_refl _, Nat.le_refl _, fun a k h1 h2 => absurd h2 (by have : k < 1 := h1; omega)⟩
  generalize (upd (upd (upd H I1 (.dT [])) I2 (.dT [])) I3 (.dT [])) = H2 at *
  walk_at "go"
  refine f_rng2 1 (z.length + 1) (fun R k => by walk_at "go"; rw [Int.natCast_add] at k; exact k) (by omega) (fun i σ H' => ∃ v4 v5 v6 v7 v8 : Option V, σ = [some (S z), some (.ref I1), some (.ref I2), some (.ref I3), v4, v5, v6, v7, v8] ∧ Same H H' ∧ Dt z H' I1 I2 I3 (30 * i) (fun a k => k < 1 + i) ∧ i ≤ 24) ⟨_, _, _, _, _, rfl, sB, d0, by omega⟩ ?_ ?_
  · rintro i σ H3 hi ⟨v4, v5, v6, v7, v8, rfl, s3, dt3, hi24⟩
    walk_at "go"
    refine f_rng1 (z.length - i) (fun R k => by walk_at "go"; rw [show (z.length : Int) - ((1 + i : Nat) : Int) + 1 = ((z.length - i : Nat) : Int) by omega]; exact k) (by omega) (fun j σ H' => ∃ v5 v6 v7 v8 : Option V, σ = [some (S z), some (.ref I1), some (.ref I2), some (.ref I3), some (.int ((1 + i : Nat) : Int)), v5, v6, v7, v8] ∧ Same H H' ∧ Dt z H' I1 I2 I3 (30 * i + j) (fun a k => k < 1 + i ∨ (k = 1 + i ∧ a < j)) ∧ j ≤ 24) ⟨_, _, _, _, rfl, s3, dt3.got (by omega) (fun a k h _ _ => by omega), by omega⟩ ?_ ?_
    · rintro j σ H4 hj ⟨v5, v6, v7, v8, rfl, s4, dt4, hj24⟩
      have hjm : j + (1 + i) ≤ z.length := by omega
      generalize hM : 1 + i = M at *
      have hM1 : 1 ≤ M := by omega
      have hpl := sub_len hjm
      have hpn := sub_ne hjm hM1
      obtain ⟨f1, f2, f3, m1, m2, m3, p1, p2, p3, b1, b2, b3, dd⟩ := dt4
      walk_at "go"
      rw [← Int.natCast_add]
      refine ⟨z, j, M, I3, m3, f3, rfl, rfl, rfl, rfl, hM1, hjm, hz2, p3, fun k k1 k2 => (dd j k (.inl k2) k1 (by omega)).2.2, fun H5 s5 => ?_⟩
      walk_at "go"
      refine i_new (by show 2 ≤ 100000; omega) fun qa na => ?_
      refine pd_put ((p1.mono s5).mono (same_upd na)) upd_same (by omega) fun o5 t1 => ?_
      have s6 : Same H (upd (upd H5 qa (.tup [.int (j : Int), .int ((j + M : Nat) : Int)])) I1 o5) := Same.upd ((s4.trans s5).trans (same_upd na)) n1
      have t2 : Fg.PD m2 (upd (upd H5 qa (.tup [.int (j : Int), .int ((j + M : Nat) : Int)])) I1 o5) I2 f2 := ((p2.mono s5).mono (same_upd na)).at (upd_ne (Ne.symm ne12))
      have t3 : Fg.PD m3 (upd (upd H5 qa (.tup [.int (j : Int), .int ((j + M : Nat) : Int)])) I1 o5) I3 f3 := ((p3.mono s5).mono (same_upd na)).at (upd_ne (Ne.symm ne13))
      generalize (upd (upd H5 qa (.tup [.int (j : Int), .int ((j + M : Nat) : Int)])) I1 o5) = H6 at *
      walk_at "go"
      refine i_new (by show 2 ≤ 100000; omega) fun qb nb => ?_
      refine pd_get (t1.mono (same_upd nb)) upd_same setP_eq ?_
      have s7 := s6.trans (same_upd (o := .tup [.int (j : Int), .int ((j + M : Nat) : Int)]) nb)
      replace t1 := t1.mono (same_upd (o := .tup [.int (j : Int), .int ((j + M : Nat) : Int)]) nb)
      replace t2 := t2.mono (same_upd (o := .tup [.int (j : Int), .int ((j + M : Nat) : Int)]) nb)
      replace t3 := t3.mono (same_upd (o := .tup [.int (j : Int), .int ((j + M : Nat) : Int)]) nb)
      generalize (upd H6 qb (.tup [.int (j : Int), .int ((j + M : Nat) : Int)])) = H7 at *
      walk_at "go"
      have hIl : ∀ s, fI (sub z j M) = some s → s.length ≤ 100 := fun s h => Nat.le_trans (fI_len hpn (by omega) h) (by decide)
      refine f_rng2 (j + 1) (j + M) (fun R k => by walk_at "go"; rw [Int.natCast_add] at k; exact k) (by omega) (fun c σ H' => ∃ (o : Option (List Nat)) (v8 : Option V), σ = [some (S z), some (.ref I1), some (.ref I2), some (.ref I3), some (.int (M : Int)), some (.int (j : Int)), some (.int ((j + M : Nat) : Int)), some (oS o), v8] ∧ Same H7 H' ∧ Lo (fun t => fI (sub z j M) = some t ∨ ∃ e s, 1 ≤ e ∧ e < 1 + c ∧ fI (sub z (j + e) (M - e)) = some s ∧ t = fT (sub z j e) ++ s) o ∧ ∀ s, o = some s → s.length ≤ 100)
        ⟨fI (sub z j M), _, rfl, Same.refl _, ?_, hIl⟩ ?_ ?_
      · have e0 : ∀ t, (fI (sub z j M) = some t ∨ ∃ e s, 1 ≤ e ∧ e < 1 + 0 ∧ fI (sub z (j + e) (M - e)) = some s ∧ t = fT (sub z j e) ++ s) ↔ fI (sub z j M) = some t := fun t => ⟨fun h => h.elim id fun ⟨e, s, h1, h2, _⟩ => by omega, .inl⟩
        cases hI : fI (sub z j M) with
        | none =>
          intro t ht
          rw [hI] at e0
          have := (e0 t).mp ht
          cases this
        | some s =>
          rw [hI] at e0
          refine ⟨(e0 s).mpr rfl, fun y hy => ?_⟩
          have := (e0 y).mp hy
          cases this
          exact lt2_irrefl _
      · rintro c σ H8 hc ⟨o, v8, rfl, s8, lo, ol⟩
        have hc1 : 1 + c < M := by omega
        have hsn := sub_ne (z := z) (a := j + (1 + c)) (m := M - (1 + c)) (by omega) (by omega)
        have hsl := sub_len (z := z) (a := j + (1 + c)) (m := M - (1 + c)) (by omega)
        have g1 := (dd (j + (1 + c)) (M - (1 + c)) (.inl (by omega)) (by omega) (by omega)).1
        rw [show j + (1 + c) + (M - (1 + c)) = j + M by omega] at g1
        have g1' : setP f1 (j : Int) ((j + M : Nat) : Int) (oS (fI (sub z j M))) ((j + 1 + c : Nat) : Int) ((j + M : Nat) : Int) = some (oS (fI (sub z (j + (1 + c)) (M - (1 + c))))) := by
          rw [setP_ne (by omega), show j + 1 + c = j + (1 + c) by omega]; exact g1
        walk_at "go"
        refine i_new (by show 2 ≤ 100000; omega) fun qc nc => ?_
        refine pd_get ((t1.mono s8).mono (same_upd nc)) upd_same g1' ?_
        have s9 := s8.trans (same_upd (o := .tup [.int ((j + 1 + c : Nat) : Int), .int ((j + M : Nat) : Int)]) nc)
        generalize (upd H8 qc (.tup [.int ((j + 1 + c : Nat) : Int), .int ((j + M : Nat) : Int)])) = H9 at *
        cases hI : fI (sub z (j + (1 + c)) (M - (1 + c))) with
        | none =>
          rw [show oS none = V.non from rfl]
          walk_at "go"
          refine ⟨o, _, rfl, s9, lo.same fun t => or_congr Iff.rfl ⟨?_, ?_⟩, ol⟩
          · rintro ⟨e, s, h1, h2, h3, h4⟩
            refine ⟨e, s, h1, ?_, h3, h4⟩
            by_cases he : e < 1 + c
            · exact he
            · rw [show e = 1 + c by omega, hI] at h3; cases h3
          · rintro ⟨e, s, h1, h2, h3, h4⟩
            exact ⟨e, s, h1, by omega, h3, h4⟩
        | some s =>
          have sl := fI_len hsn (by omega) hI
          have tl := fT_len (sub z j (1 + c))
          rw [sub_len (by omega)] at tl
          rw [hI] at g1'
          rw [show oS (some s) = S s from rfl] at g1' ⊢
          have g2 := (dd j (1 + c) (.inl hc1) (by omega) (by omega)).2.1
          rw [← Nat.add_assoc] at g2
          walk_at "go"
          refine i_new (by show 2 ≤ 100000; omega) fun qd nd => ?_
          refine pd_get ((t2.mono s9).mono (same_upd nd)) upd_same g2 ?_
          have s10 := s9.trans (same_upd (o := .tup [.int (j : Int), .int ((j + 1 + c : Nat) : Int)]) nd)
          generalize (upd H9 qd (.tup [.int (j : Int), .int ((j + 1 + c : Nat) : Int)])) = H10 at *
          walk_at "go"
          refine i_new (by show 2 ≤ 100000; omega) fun qe ne' => ?_
          refine pd_get ((t1.mono s10).mono (same_upd ne')) upd_same g1' ?_
          have s11 := s10.trans (same_upd (o := .tup [.int ((j + 1 + c : Nat) : Int), .int ((j + M : Nat) : Int)]) ne')
          generalize (upd H10 qe (.tup [.int ((j + 1 + c : Nat) : Int), .int ((j + M : Nat) : Int)])) = H11 at *
          walk_at "go"
          refine ⟨o, fT (sub z j (1 + c)) ++ s, rfl, rfl, fun s h => Nat.le_trans (ol s h) (by decide), by rw [List.length_append]; omega, fun H12 s12 => ?_⟩
          walk_at "go"
          refine ⟨some (bet o (fT (sub z j (1 + c)) ++ s)), _, rfl, s11.trans s12, lo.more fun t => ?_, fun s' h => ?_⟩
          · constructor
            · rintro (h | ⟨e, s', h1, h2, h3, h4⟩)
              · exact .inl (.inl h)
              · by_cases he : e < 1 + c
                · exact .inl (.inr ⟨e, s', h1, he, h3, h4⟩)
                · rw [show e = 1 + c by omega] at h3 h4
                  rw [hI] at h3
                  cases h3
                  exact .inr h4
            · rintro ((h | ⟨e, s', h1, h2, h3, h4⟩) | h)
              · exact .inl h
              · exact .inr ⟨e, s', h1, by omega, h3, h4⟩
              · exact .inr ⟨1 + c, s, by omega, by omega, hI, h⟩
          · cases h
            exact bet_len ol (by rw [List.length_append]; omega)
      · rintro σ H8 ⟨o, v8, rfl, s8, lo, ol⟩
        rw [show 1 + (j + M - (j + 1)) = M by omega] at lo
        -- it is the least of all
        have hT : o = some (fT (sub z j M)) := by
          have comp : ∀ b a s, sub z j M = b ++ a → a ≠ [] → fI a = some s → (fI (sub z j M) = some (fT b ++ s) ∨ ∃ e s', 1 ≤ e ∧ e < M ∧ fI (sub z (j + e) (M - e)) = some s' ∧ fT b ++ s = fT (sub z j e) ++ s') := fun b a s e ha hs => by
            have hl := congrArg List.length e
            rw [hpl, List.length_append] at hl
            have hal := List.length_pos_iff.mpr ha
            by_cases hb : b = []
            · subst hb
              rw [fT_nil, List.nil_append] at *
              rw [e]
              exact .inl hs
            · have hbl := List.length_pos_iff.mpr hb
              have eb : sub z j b.length = b := by rw [← sub_take (z := z) (a := j) (m := M) (by omega), e, List.take_left]
              have ea : sub z (j + b.length) (M - b.length) = a := by rw [← sub_drop (z := z) (a := j), e, List.drop_left]
              exact .inr ⟨b.length, s, hbl, by omega, by rw [ea]; exact hs, by rw [eb]⟩
          cases o with
          | none =>
            obtain ⟨b, a, t', s, e, ha, hs, hb, ht⟩ := (fT_isL (sub z j M)).1.last hpn
            rcases comp b a s e ha hs with h | ⟨e', s', h1, h2, h3, h4⟩
            · exact absurd (.inl h) (lo _)
            · exact absurd (.inr ⟨e', s', h1, h2, h3, h4⟩) (lo _)
          | some m =>
            refine congrArg some (fT_last hpn ?_ fun b a s e ha hs => ?_).symm
            · rcases lo.1 with h | ⟨e, s, h1, h2, h3, h4⟩
              · exact ⟨[], sub z j M, m, by simp, hpn, h, by rw [fT_nil]; rfl⟩
              · exact ⟨sub z j e, sub z (j + e) (M - e), s, sub_split (by omega), sub_ne (by omega) (by omega), h3, h4⟩
            · rcases comp b a s e ha hs with h | ⟨e', s', h1, h2, h3, h4⟩
              · exact lo.2 _ (.inl h)
              · exact lo.2 _ (.inr ⟨e', s', h1, h2, h3, h4⟩)
        subst hT
        have hTl := fT_len (sub z j M)
        rw [hpl] at hTl
        rw [show oS (some (fT (sub z j M))) = S (fT (sub z j M)) from rfl]
        replace t1 := t1.mono s8
        replace t2 := t2.mono s8
        replace t3 := t3.mono s8
        walk_at "go"
        refine i_new (by show 2 ≤ 100000; omega) fun qf nf => ?_
        refine pd_put (t2.mono (same_upd nf)) upd_same (by omega) fun o6 u2 => ?_
        have s13 : Same H (upd (upd H8 qf (.tup [.int (j : Int), .int ((j + M : Nat) : Int)])) I2 o6) := Same.upd ((s7.trans s8).trans (same_upd nf)) n2'
        have u1 := (t1.mono (same_upd (o := .tup [.int (j : Int), .int ((j + M : Nat) : Int)]) nf)).at (upd_ne (o := o6) ne12)
        have u3 := (t3.mono (same_upd (o := .tup [.int (j : Int), .int ((j + M : Nat) : Int)]) nf)).at (upd_ne (o := o6) (Ne.symm ne23))
        generalize (upd (upd H8 qf (.tup [.int (j : Int), .int ((j + M : Nat) : Int)])) I2 o6) = H9 at *
        walk_at "go"
        refine i_while (fun m σ H' => ∃ (jj : Nat) (s : List Nat), m = M - jj ∧ jj < M ∧ σ = [some (S z), some (.ref I1), some (.ref I2), some (.ref I3), some (.int (M : Int)), some (.int (j : Int)), some (.int ((j + M : Nat) : Int)), some (S s), some (.int ((j + M - 1 - jj : Nat) : Int))] ∧ Same H9 H' ∧ (∀ x, M - jj ≤ x → x < M → z[j + x]? = some 46) ∧ IsL (fun t => t = fT (sub z j M) ∨ ∃ e, 1 ≤ e ∧ e ≤ jj ∧ t = fT (sub z j (M - e)) ++ (64 :: dec M)) s ∧ s.length ≤ 100) M ⟨0, fT (sub z j M), rfl, by omega, by rw [show ((j + M : Nat) : Int) - 1 = ((j + M - 1 - 0 : Nat) : Int) by omega], Same.refl _, fun x h1 h2 => by omega, ⟨.inl rfl, fun y hy => by
          rcases hy with rfl | ⟨e, h1, h2, _⟩
          · exact lt2_irrefl _
          · omega⟩, by omega⟩ ?_
        rintro m σ H10 ⟨jj, s, rfl, hjj, rfl, s14, hd, hL, hsl⟩
        have hLo : Lo (fun t => t = fT (sub z j M) ∨ ∃ e, 1 ≤ e ∧ e ≤ jj ∧ t = fT (sub z j (M - e)) ++ (64 :: dec M)) (some s) := hL
        have hcz : z[j + M - 1 - jj]? = some z[j + M - 1 - jj] := List.getElem?_eq_getElem (by omega)
        generalize z[j + M - 1 - jj] = cz at *
        -- the end
        have fin : (j + M - 1 - jj ≤ j ∨ cz ≠ 46) → fC (sub z j M) = s := fun hend => by
          refine fC_isL hpn (show Lo (ClC fT (sub z j M)) (some s) from hLo.same fun t => or_congr Iff.rfl ⟨?_, ?_⟩)
          · rintro ⟨a, e, ha, he, hp', ht⟩
            have hl := congrArg List.length hp'
            rw [hpl, List.length_append, List.length_replicate] at hl
            have hal := List.length_pos_iff.mpr ha
            have ea : sub z j (M - e) = a := by rw [← sub_take (z := z) (a := j) (m := M) (by omega), hp', show M - e = a.length by omega, List.take_left]
            refine ⟨e, he, ?_, by rw [ea, ht, hpl]⟩
            by_cases hle : e ≤ jj
            · exact hle
            · exfalso
              have h46 : (sub z j M)[M - 1 - jj]? = some 46 := by
                rw [hp', List.getElem?_append_right (by omega), List.getElem?_replicate, if_pos (by omega)]
              unfold sub at h46
              rw [List.getElem?_take, if_pos (by omega), List.getElem?_drop, show j + (M - 1 - jj) = j + M - 1 - jj by omega, hcz] at h46
              rcases hend with h | h
              · omega
              · exact h (Option.some.inj h46)
          · rintro ⟨e, he, hle, ht⟩
            refine ⟨sub z j (M - e), e, sub_ne (by omega) (by omega), he, ?_, by rw [ht, hpl]⟩
            conv => lhs; rw [sub_split (z := z) (a := j) (show M - e ≤ M by omega)]
            congr 1
            refine List.ext_getElem? fun x => ?_
            rw [List.getElem?_replicate]
            unfold sub
            rw [List.getElem?_take, List.getElem?_drop]
            by_cases hx : x < e
            · rw [if_pos (by omega), if_pos hx, show j + (M - e) + x = j + (M - e + x) by omega]
              exact hd _ (by omega) (by omega)
            · rw [if_neg (by omega), if_neg hx]
        have stop : (j + M - 1 - jj ≤ j ∨ cz ≠ 46) → ∀ (P : Hp → Prop), (∀ H', Same H H' → Dt z H' I1 I2 I3 (30 * i + (j + 1)) (fun a k => k < M ∨ (k = M ∧ a < j + 1)) → P H') → ∀ q9, H10 q9 = none → ∃ a' H4, V.ref I3 = .ref a' ∧ DPut (upd H10 q9 (.tup [.int (j : Int), .int ((j + M : Nat) : Int)])) a' (.ref q9) (S s) H4 ∧ P H4 := fun hend P k q9 n9 => by
          refine pd_put ((u3.mono s14).mono (same_upd n9)) upd_same (by omega) fun o7 w3 => k _ (Same.upd ((s13.trans s14).trans (same_upd n9)) n3'') ?_
          refine ⟨_, _, _, m1 + 1, m2 + 1, m3 + 1, ((u1.mono s14).mono (same_upd n9)).at (upd_ne ne13), ((u2.mono s14).mono (same_upd n9)).at (upd_ne ne23), w3, by omega, by omega, by omega, fun a k hk k1 k2 => ?_⟩
          by_cases e : a = j ∧ k = M
          · obtain ⟨rfl, rfl⟩ := e
            rw [setP_eq, setP_eq, setP_eq, fin hend]
            exact ⟨rfl, rfl, rfl⟩
          · rw [setP_ne (by omega), setP_ne (by omega), setP_ne (by omega)]
            exact dd a k (by omega) k1 k2
        walk_at "go"
        refine i_dec (fun a1 => ?_) (fun a1 => ?_)
        · walk_at "go"
          refine i_ix_str (by omega) (by omega) (by rw [Int.toNat_natCast]; exact hcz) ?_
          walk_at "go"
          refine i_dec (fun a2 => ?_) (fun a2 => ?_)
          · have a2 : cz = 46 := (List.cons.inj a2).1
            have hj1 : jj + 1 < M := by omega
            have g2 := (dd j (M - 1 - jj) (.inl (by omega)) (by omega) (by omega)).2.1
            rw [show j + (M - 1 - jj) = j + M - 1 - jj by omega] at g2
            have tl := fT_len (sub z j (M - 1 - jj))
            rw [sub_len (by omega)] at tl
            have dl := dec_len M
            refine i_turn ?_
            walk_at "go"
            refine i_new (by show 2 ≤ 100000; omega) fun q8 n8 => ?_
            refine pd_get ((u2.mono s14).mono (same_upd n8)) upd_same (by rw [setP_ne (by omega)]; exact g2) ?_
            walk_at "go"
            refine ⟨M, rfl, by omega, ?_⟩
            walk_at "go"
            have hg3 : fT (sub z j (M - 1 - jj)) ++ [64] ++ dec M = fT (sub z j (M - (jj + 1))) ++ (64 :: dec M) := by
              rw [show M - 1 - jj = M - (jj + 1) by omega]; simp
            refine ⟨some s, _, rfl, rfl, fun s' h => by cases h; omega, by simp only [List.length_append, List.length_singleton]; omega, fun H12 s15 => ?_⟩
            walk_at "go"
            rw [hg3]
            have hB : Lo (fun t => t = fT (sub z j M) ∨ ∃ e, 1 ≤ e ∧ e ≤ jj + 1 ∧ t = fT (sub z j (M - e)) ++ (64 :: dec M)) (some (bet (some s) (fT (sub z j (M - (jj + 1))) ++ (64 :: dec M)))) := hLo.more fun t => by
              constructor
              · rintro (h | ⟨e, h1, h2, h⟩)
                · exact .inl (.inl h)
                · by_cases he : e ≤ jj
                  · exact .inl (.inr ⟨e, h1, he, h⟩)
                  · rw [show e = jj + 1 by omega] at h; exact .inr h
              · rintro ((h | ⟨e, h1, h2, h⟩) | h)
                · exact .inl h
                · exact .inr ⟨e, h1, by omega, h⟩
                · exact .inr ⟨jj + 1, by omega, Nat.le_refl _, h⟩
            refine ⟨M - (jj + 1), by omega, jj + 1, _, rfl, hj1, ?_, (s14.trans (same_upd n8)).trans s15, fun x h1 h2 => ?_, hB, bet_len (o := some s) (fun s' h => by cases h; exact hsl) ?_⟩
            · rw [show ((j + M - 1 - jj : Nat) : Int) - 1 = ((j + M - 1 - (jj + 1) : Nat) : Int) by omega]
            · by_cases hx : M - jj ≤ x
              · exact hd x hx h2
              · rw [show j + x = j + M - 1 - jj by omega, hcz, a2]
            · rw [← hg3]; simp only [List.length_append, List.length_singleton]; omega
          · walk_at "go"
            refine i_new (by show 2 ≤ 100000; omega) fun q9 n9 => ?_
            refine stop (.inr fun h => a2 (by rw [h])) _ (fun H' sH dt' => ?_) q9 n9
            exact ⟨_, _, _, _, rfl, sH, dt', by omega⟩
        · walk_at "go"
          refine i_new (by show 2 ≤ 100000; omega) fun q9 n9 => ?_
          refine stop (.inl (by omega)) _ (fun H' sH dt' => ?_) q9 n9
          exact ⟨_, _, _, _, rfl, sH, dt', by omega⟩
    · rintro σ H4 ⟨v5, v6, v7, v8, rfl, s4, dt4, hj24⟩
      refine ⟨_, _, _, _, _, rfl, s4, dt4.got (by omega) (fun a k h h1 h2 => by omega), by omega⟩
  · rintro σ H3 ⟨v4, v5, v6, v7, v8, rfl, s3, dt3, hi24⟩
    obtain ⟨f1, f2, f3, m1, m2, m3, p1, p2, p3, b1, b2, b3, dd⟩ := dt3
    walk_at "go"
    have := (dd 0 z.length (by omega) hz1 (by omega)).2.2
    rw [sub_all, Nat.zero_add] at this
    exact q I3 m3 f3 H3 s3 p3 this
end
end K06
namespace K06
open PySem PySem.Spec PyProof.Rows L2 Fg
local macro_rules | `(tactic| walk_at "sq") => `(tactic| first
  | assumption
  | exact .inl (.inl (by assumption))
  | exact .inl (.inl upd_same))
local macro_rules | `(tactic| walk_at "st") => `(tactic| first
  | assumption
  | exact .inl (.inl (by assumption))
  | exact .inl (.inl upd_same))
local macro_rules | `(tactic| walk_at "o") => `(tactic| first
  | omega
  | assumption
  | (simp only [List.length_append, List.length_take, List.length_drop, List.length_cons, List.length_nil, List.length_singleton, List.length_map, List.length_range, Int.toNat_natCast] ; omega))
local macro_rules | `(tactic| walk_at "s") => `(tactic| first
  | (with_reducible refine i_seq ?_)
  | (with_reducible refine i_asg ?_)
  | ((with_reducible refine' i_var ?h1 ?_); (case h1 => rfl))
  | (with_reducible refine i_c ?_)
  | ((with_reducible refine' i_gname' ?h1 ?_); (case h1 => (simp only [List.set_cons_zero, List.set_cons_succ]; rfl)))
  | (with_reducible refine i_op ?_)
  | (with_reducible refine i_ifS ?_)
  | (with_reducible refine i_for ?_)
  | (with_reducible refine i_test ?_)
  | (with_reducible refine i_B ?_)
  | (with_reducible refine i_exbl ?_)
  | (with_reducible refine i_exint ?_)
  | (with_reducible refine i_cb ?_)
  | (with_reducible refine i_nil ?_)
  | (with_reducible refine i_cons ?_)
  | (with_reducible refine i_ret ?_)
  | (with_reducible refine i_sl ?_)
  | (with_reducible refine i_nopart ?_)
  | (with_reducible refine i_part ?_)
  | (with_reducible refine i_add_int ?_)
  | (with_reducible refine i_sub ?_)
  | (with_reducible refine i_lt ?_)
  | ((with_reducible refine' i_mod ?h1 ?_); (case h1 => walk_at "o"))
  | ((with_reducible refine' i_fdiv ?h1 ?_); (case h1 => (refine cdiv_small ?_ ?_ <;> walk_at "o")))
  | ((with_reducible refine' i_sl_to ?h1 ?h2 ?_); (case h1 => walk_at "o"); (case h2 => walk_at "o"))
  | ((with_reducible refine' i_sl_from ?h1 ?h2 ?_); (case h1 => walk_at "o"); (case h2 => walk_at "o"))
  | ((with_reducible refine' i_add_str ?h1 ?_); (case h1 => walk_at "o"))
  | ((with_reducible refine' i_mul_int ?h1 ?_); (case h1 => first | (refine mul_small ?_ ?_ <;> walk_at "o") | (refine mul_smallR ?_ ?_ <;> walk_at "o")))
  | (with_reducible refine i_le ?_)
  | (with_reducible refine i_gt ?_)
  | (with_reducible refine i_ge ?_)
  | (with_reducible refine i_eq_int ?_)
  | (with_reducible refine i_eq_str ?_)
  | (with_reducible refine i_ne_int ?_)
  | (with_reducible refine i_ne_str ?_)
  | (with_reducible refine i_eq_bl ?_)
  | (with_reducible refine i_ne_bl ?_)
  | (with_reducible refine i_in_sg ?_)
  | (with_reducible refine i_notIn_sg ?_)
  | (with_reducible refine i_call ?_)
  | (with_reducible refine i_callS ?_)
  | (with_reducible refine i_sp1 ?_)
  | (with_reducible refine i_sp2 ?_)
  | (with_reducible refine i_sp3 ?_)
  | (with_reducible refine i_sp4 ?_)
  | (with_reducible refine i_sp1' ?_)
  | (with_reducible refine i_sp2' ?_)
  | (with_reducible refine i_sp3' ?_)
  | ((with_reducible refine' i_ix_lst ?h1 ?h2 ?_); (case h1 => walk_at "sq"); (case h2 => first | exact atI_nat rfl | rfl))
  | ((with_reducible refine' i_ix_tup ?h1 ?h2 ?_); (case h1 => walk_at "st"); (case h2 => first | exact atI_nat rfl | rfl))
  | (with_reducible refine i_gsub ?_)
  | (with_reducible refine i_par ?_)
  | (with_reducible refine i_lstRg1 ?_)
  | (with_reducible refine i_app ?_)
  | (with_reducible refine i_par2 ?_)
  | ((with_reducible refine' i_aug ?h1 ?_); (case h1 => rfl))
  | (with_reducible refine i_ipI ?_)
  | ((with_reducible refine' i_gtup2 ?h1 ?_); (case h1 => walk_at "st"))
  | (with_reducible refine i_int_bl ?_)
  | (with_reducible refine i_raise ?_)
  | (with_reducible refine i_mkE ?_)
  | (with_reducible refine i_ex1 ?_)
  | (with_reducible refine i_and ?_)
  | (with_reducible refine i_or ?_)
  | (with_reducible refine i_not ?_)
  | (with_reducible refine i_tt ?_)
  | (with_reducible refine i_ff ?_)
  | (with_reducible refine i_nott ?_)
  | (with_reducible refine i_notf ?_)
  | (with_reducible refine i_andV ?_)
  | (with_reducible refine i_orV ?_)
  | (with_reducible refine i_notV ?_)
  | (with_reducible refine i_ifE ?_)
  | (with_reducible refine i_tup ?_)
  | (with_reducible refine i_lst ?_)
  | (with_reducible refine i_un ?_)
  | (with_reducible refine i_neg ?_)
  | (with_reducible refine i_chain ?_)
  | (with_reducible refine i_next ?_)
  | (with_reducible refine i_retN ?_)
  | (with_reducible refine i_drop ?_)
  | (with_reducible refine i_int_int ?_)
  | (with_reducible refine i_abs ?_)
  | (with_reducible refine i_m1c ?_)
  | (with_reducible refine i_is_non ?_)
  | (with_reducible refine i_is_int ?_)
  | (with_reducible refine i_is_bl ?_)
  | (with_reducible refine i_isn_bl ?_)
  | (with_reducible refine i_is_str ?_)
  | (with_reducible refine i_is_ref ?_)
  | (with_reducible refine i_isn_non ?_)
  | (with_reducible refine i_isn_int ?_)
  | (with_reducible refine i_isn_str ?_)
  | (with_reducible refine i_isn_ref ?_)
  | (with_reducible refine i_len_str ?h1 ?_; (case h1 => walk_at "o"))
  | (with_reducible refine i_dget ?_)
  | (with_reducible refine i_tru ?_)
  | (with_reducible refine i_dput ?_)
  | (with_reducible refine i_dnotin ?_)
  | (with_reducible refine i_din ?_)
  | (with_reducible refine i_isi_int_int ?_) | (with_reducible refine i_isi_int_bool ?_) | (with_reducible refine i_isi_int_str ?_) | (with_reducible refine i_isi_int_tuple ?_) | (with_reducible refine i_isi_int_list ?_)
  | (with_reducible refine i_isi_bl_int ?_) | (with_reducible refine i_isi_bl_bool ?_) | (with_reducible refine i_isi_bl_str ?_) | (with_reducible refine i_isi_bl_tuple ?_) | (with_reducible refine i_isi_bl_list ?_)
  | (with_reducible refine i_isi_str_int ?_) | (with_reducible refine i_isi_str_bool ?_) | (with_reducible refine i_isi_str_str ?_) | (with_reducible refine i_isi_str_tuple ?_) | (with_reducible refine i_isi_str_list ?_)
  | (with_reducible refine i_isi_non_int ?_) | (with_reducible refine i_isi_non_bool ?_) | (with_reducible refine i_isi_non_str ?_) | (with_reducible refine i_isi_non_tuple ?_) | (with_reducible refine i_isi_non_list ?_))
local macro_rules | `(tactic| walk_at "go") => `(tactic| (repeat' (walk_at "s")))
local macro_rules | `(tactic| walk_at "n") => `(tactic| simp only [wipe, List.map_cons, List.map_nil, List.set_cons_zero, List.set_cons_succ])
abbrev TOLD : List Nat := [116, 111, 108, 100]
abbrev ROUND : List Nat := [114, 111, 117, 110, 100]
abbrev ODD : List Nat := [120, 87, 71, 48, 45, 44, 32, 50]
theorem odd_bad : ∀ c ∈ ODD, c ∉ SG := by decide
theorem Rz.imp {E E' : XK} {H : Hp} {C : Addr} {f : Str} {v : V} (h : ∀ d H', H d = none → Same H H' → H' d = some (.xd [(f, v)]) → E' (.ref C) (some d) H') : Rz E' H C f v := h
theorem small_ok {l : List Nat} (h : ∀ c ∈ l, c < 0x110000) : PyData.strOk ⟨l.toArray⟩ = true := by
  show (⟨l.toArray⟩ : Str).cps.all (· < 0x110000) = true
  rw [Array.all_eq_true_iff_forall_mem]
  intro c hc
  exact decide_eq_true (h c (by simpa using hc))
theorem sg_small : ∀ c ∈ SG, c < 0x110000 := by decide
theorem two_shaped {w l : List Nat} (hw : ∀ c ∈ w, c < 0x110000) (hl : ∀ c ∈ l, c ∈ SG) : SeqAt.shaped (.tuple [.str ⟨w.toArray⟩, .str ⟨l.toArray⟩]) = true := by
  unfold SeqAt.shaped
  rw [Bool.and_eq_true]
  refine ⟨?_, rfl⟩
  show (PyData.strOk _ && (PyData.strOk _ && true)) = true
  rw [small_ok hw, small_ok fun c hc => sg_small c (hl c hc)]
  rfl
section
variable {P : Program} {w : World} {K : PySem.W.Frag} {mg : Str → Option Value} {base : Heap} {C_GlimError C_BadRound C_BadText C_TooLong : Addr}
def p_told : P2 := fun x y H Q _ => (x = .int 0 ∧ ((∃ l, y = S l ∧ IsRound l ∧ ∀ p H', Same H H' → H' p = some (.tup [S TOLD, S (fC l)]) → Q (.ref p) H') ∨ ∃ k, BadR H y k ∧ ∀ p H', Same H H' → H' p = some (.tup [S ROUND, .int k]) → Q (.ref p) H')) ∨
  (x = .int 1 ∧ ∃ z s, y = S z ∧ z.length ≤ 1700 ∧ told z = .done s ∧ s.1 ≤ 24 ∧ ∀ p H', Same H H' → H' p = some (.tup [S TOLD, S s.2]) → Q (.ref p) H')
theorem ok_L_told (T : Txt K mg C_GlimError C_BadRound C_BadText C_TooLong) : OK P w K mg base CX0 26 "_law_told" ["_law_kind", "_law_thing"] (sp2  p_told) := by
  refine OK.mk (k := 25) T.d_L_told sc_L_told len2 fun f cdv A outer s H vs Q E hr h => ?_
  obtain ⟨x, y, rfl, h⟩ := h
  refine ⟨_, (pss_cons (ps_try_as (i := 2) rfl rfl sc_L_told.nd rfl rfl ⟨rfl, by decide, Or.inl T.c_GlimError⟩ takes0 (fun W pn xe tk _ => (pss_cons (ps_if (pt_cmpR (opEq K hr.units) (pv 0) pe_int (nomark _)) (pss_one (ps_ret (pe_tup (pa_cons (pe_S [116, 111, 108, 100]) (pa_cons (pe_fS (ok_fold_round (K := K) T) (hr.mono (by decide)) (fun σ => passAt tk σ) (pa_cons (pv 1) pa_nil)) pa_nil))))) pss_nil) (pss_one (ps_ret (pe_tup (pa_cons (pe_S [116, 111, 108, 100]) (pa_cons (pe_fS (ok_read_round (K := K) T) (hr.mono (by decide)) (fun σ => passAt tk σ) (pa_cons (pv 1) pa_nil)) pa_nil))))))) (fun a oe cls d pn hz hf => (pss_one (ps_if (pw_and (pt_val (pe_callB (cIsX K hz hf) (by rfl) T.b_isinstance (by decide +kernel) (pa_cons (pv 2) (pa_cons (pe_gR _ T.c_BadRound) pa_nil)))) (pw_and (pt_not (pt_val (pe_callB (cIsX K hz hf) (by rfl) T.b_isinstance (by decide +kernel) (pa_cons (pv 2) (pa_cons (pe_gR _ T.c_BadText) pa_nil))))) (pw_and1 (pt_val (pe_callB (cIsX K hz hf) (by rfl) T.b_isinstance (by decide +kernel) (pa_cons (pv 2) (pa_cons (pe_bltn (v := .ty "ValueError") (by rfl) T.b_ValueError (by decide +kernel) rfl) pa_nil))))))).pt (pss_one (ps_ret (pe_tup (pa_cons (pe_S [114, 111, 117, 110, 100]) (pa_cons (pe_xf T.e_BadRound.xf T.nf_BadRound hz hf (pv 2)) pa_nil))))) pss_nil)))) (pss_one (ps_ret (pe_tup (pa_cons (pe_S [110, 111, 110, 101]) (pa_cons pe_non pa_nil)))))), ?_⟩
  show (_ : TS) { nx := fun _ H' => Q .non H', rt := Q } [some x, some y, none] H
  rcases h with ⟨rfl, h⟩ | ⟨rfl, z, st, rfl, hz, ht, h24, q⟩
  · walk_at "go"
    refine i_dec (fun _ => ?_) (fun e => absurd rfl e)
    walk_at "go"
    rcases h with ⟨l, rfl, hl, q⟩ | ⟨k, hb, q⟩
    · refine .inl ⟨l, rfl, hl, fun H1 s1 => ?_⟩
      walk_at "go"
      refine i_new (by show 2 ≤ 100000; omega) fun p np => ?_
      exact q p _ (s1.trans (same_upd np)) upd_same
    · refine .inr ⟨k, hb, fun dd H1 n1 s1 e2 => ?_⟩
      refine i_caught T.m_BadRound_GlimError fun a na => ?_
      show (_ : TS) _ [some (.int 0), some y, some (.ref a)] H1
      walk_at "go"
      refine i_isX e2 T.e_BadRound (.own _) T.k_BadRound_BadRound ?_
      walk_at "go"
      refine i_isX e2 T.e_BadRound (.own _) T.k_BadRound_BadText ?_
      walk_at "go"
      refine i_isX e2 T.e_BadRound (.ty _) T.k_BadRound_ValueError ?_
      walk_at "go"
      refine i_xf rfl e2 ?_
      walk_at "go"
      refine i_new (by show 2 ≤ 100000; omega) fun p np => ?_
      exact q p _ (s1.trans (same_upd np)) upd_same
  · have hrd : ∃ e, rd z 6 0 = .ok (st, e) ∧ ¬ e < z.length := by
      unfold told at ht
      cases hr : rd z 6 0 with
      | error k => rw [hr] at ht; cases ht
      | ok se =>
        obtain ⟨s1, e1⟩ := se
        rw [hr] at ht
        dsimp only at ht
        by_cases he : e1 < z.length
        · rw [if_pos he] at ht; cases ht
        · rw [if_neg he] at ht
          cases ht
          exact ⟨e1, rfl, he⟩
    obtain ⟨e1, hr1, he⟩ := hrd
    walk_at "go"
    refine i_dec (fun e => absurd e (by decide)) (fun _ => ?_)
    walk_at "go"
    refine .inl ⟨z, rfl, hz, ?_⟩
    unfold OutR
    rw [hr1]
    dsimp only
    rw [if_neg he, if_neg (by omega)]
    intro H1 s1
    walk_at "go"
    refine i_new (by show 2 ≤ 100000; omega) fun p np => ?_
    exact q p _ (s1.trans (same_upd np)) upd_same
def p_bad_round (K : PySem.W.Frag) : P2 := fun x y H Q _ => ∃ (H0 : Hp) (d : Dd) (l : List Nat), x = .ref d.a ∧ y = S l ∧ Dr K d H0 H ∧ IsRound l ∧ ∀ p v k H', Dr K d H0 H' → H' p = some (.tup [v, .int k]) → BadR H' v k → Q (.ref p) H'
theorem ok_L_bad_round (T : Txt K mg C_GlimError C_BadRound C_BadText C_TooLong) : OK P w K mg base CX0 3 "_law_bad_round" ["_law_draw_here", "_law_row_here"] (sp2  (p_bad_round K)) := by
  refine OK.mk (k := 2) T.d_L_bad_round sc_L_bad_round len2 fun f cdv A outer s H vs Q E hr h => ?_
  obtain ⟨x, y, rfl, h⟩ := h
  refine ⟨_, (pss_cons (ps_if (pt_cmpR (opEq K hr.units) (pe_f (ok_L_pick (K := K) T) (hr.mono (by decide)) pass0 (pa_cons (pv 0) (pa_cons pe_int pa_nil))) pe_int (nomark _)) (pss_cons (ps_set (i := 2) sc_L_bad_round.nd rfl (Or.inl rfl) (pe_lst (pa_cons (pe_S []) (pa_cons (pe_slice (slK K) (pe_op op_mulP (pv 1) pe_int) po_none (po_some pe_int)) (pa_cons (pe_op op_mulP (pe_S [120]) pe_int) (pa_cons pe_non (pa_cons pe_int (pa_cons pe_bl (pa_cons (pe_tup (pa_cons (pe_S [119]) pa_nil)) (pa_cons (pe_lst (pa_cons (pe_S [119]) pa_nil)) pa_nil)))))))))) (pss_one (ps_ret (pe_tup (pa_cons (pe_ix (ixK K) (pv 2) (pe_f (ok_L_pick (K := K) T) (hr.mono (by decide)) pass0 (pa_cons (pv 0) (pa_cons pe_int pa_nil))) (fun _ _ => rfl)) (pa_cons (pe_un un_neg pe_int) pa_nil)))))) pss_nil) (pss_cons (ps_set (i := 3) sc_L_bad_round.nd rfl (Or.inl rfl) (pe_f (ok_L_pick (K := K) T) (hr.mono (by decide)) pass0 (pa_cons (pv 0) (pa_cons (pe_callB (cLen K) (by rfl) T.b_len (by decide +kernel) (pa_cons (pv 1) pa_nil)) pa_nil)))) (pss_cons (ps_set (i := 4) sc_L_bad_round.nd rfl (Or.inl rfl) (pe_op (opAdd K) (pv 3) (pe_f (ok_L_pick (K := K) T) (hr.mono (by decide)) pass0 (pa_cons (pv 0) (pa_cons (pe_op op_subP (pe_callB (cLen K) (by rfl) T.b_len (by decide +kernel) (pa_cons (pv 1) pa_nil)) (pv 3)) pa_nil))))) (pss_cons (ps_set (i := 5) sc_L_bad_round.nd rfl (Or.inl rfl) (pe_op (opAdd K) (pe_op (opAdd K) (pe_slice (slK K) (pv 1) po_none (po_some (pv 4))) (pe_ix (ixK K) (pe_S [120, 87, 71, 48, 45, 44, 32, 50]) (pe_f (ok_L_pick (K := K) T) (hr.mono (by decide)) pass0 (pa_cons (pv 0) (pa_cons pe_int pa_nil))) (fun _ _ => rfl))) (pe_slice (slK K) (pv 1) (po_some (pe_op (opAdd K) (pv 4) pe_int)) po_none))) (pss_one (ps_ret (pe_tup (pa_cons (pe_op (opAdd K) (pe_op (opAdd K) (pe_slice (slK K) (pv 5) po_none (po_some (pv 3))) (pe_ix (ixK K) (pe_S [120, 87, 71, 48, 45, 44, 32, 50]) (pe_f (ok_L_pick (K := K) T) (hr.mono (by decide)) pass0 (pa_cons (pv 0) (pa_cons pe_int pa_nil))) (fun _ _ => rfl))) (pe_slice (slK K) (pv 5) (po_some (pe_op (opAdd K) (pv 3) pe_int)) po_none)) (pa_cons (pv 3) pa_nil))))))))), ?_⟩
  show (_ : TS) { nx := fun _ H' => Q .non H', rt := Q } [some x, some y, none, none, none, none] H
  obtain ⟨H0, d, l, rfl, rfl, dr, ⟨h1, h2, h3⟩, q⟩ := h
  walk_at "go"
  refine ⟨H0, d, 3, rfl, rfl, dr, by decide, fun n H1 dr1 _ => ?_⟩
  walk_at "go"
  refine i_dec (fun a1 => ?_) (fun a1 => ?_)
  · walk_at "go"
    refine i_mul_str (n := 25) ⟨by omega, by decide⟩ ?_
    have hl25 := rep_len 25 l
    generalize (List.replicate 25 l).flatten = w at *
    walk_at "go"
    refine i_mul_str (n := 25) ⟨by decide, by decide⟩ ?_
    rw [flat_rep]
    walk_at "go"
    refine i_new (by show 1 ≤ 100000; omega) fun q1 n1 => ?_
    walk_at "go"
    refine i_new (by show 1 ≤ 100000; omega) fun q2 n2 => ?_
    walk_at "go"
    refine i_new (by show 8 ≤ 100000; omega) fun q3 n3 => ?_
    have ne12 : q1 ≠ q2 := fun z => by rw [z, upd_same] at n2; cases n2
    have ne13 : q1 ≠ q3 := fun z => by rw [z, upd_ne (z ▸ ne12), ← z, upd_same] at n3; cases n3
    have ne23 : q2 ≠ q3 := fun z => by rw [z, upd_same] at n3; cases n3
    obtain ⟨Hk1, t1, g1, k1⟩ := dr1.step (.tup [S [119]]) n1
    obtain ⟨Hk2, t2, g2, k2⟩ := k1.step (.lst [S [119]]) n2
    obtain ⟨Hk3, t3, g3, k3⟩ := k2.step (.lst [S [], S (w.take (25 : Int).toNat), S (List.replicate 25 120), .non, .int 7, .bl true, .ref q1, .ref q2]) n3
    walk_at "go"
    refine ⟨_, d, 8, rfl, rfl, k3, by decide, fun n H2 dr2 b2 => ?_⟩
    have b0 := b2.1
    have b1 := b2.2.1 (by decide)
    have e1 : H2 q1 = some (.tup [S [119]]) := dr2.old (t3 _ _ (t2 _ _ g1))
    have e2 : H2 q2 = some (.lst [S [119]]) := dr2.old (t3 _ _ g2)
    have key : ∃ v, [S [], S (w.take (25 : Int).toNat), S (List.replicate 25 120), .non, .int 7, .bl true, .ref q1, .ref q2][n.toNat]? = some v ∧ ∀ H', Same H2 H' → BadR H' v (-1) := by
      have hn : n.toNat = 0 ∨ n.toNat = 1 ∨ n.toNat = 2 ∨ n.toNat = 3 ∨ n.toNat = 4 ∨ n.toNat = 5 ∨ n.toNat = 6 ∨ n.toNat = 7 := by omega
      rcases hn with h | h | h | h | h | h | h | h <;> rw [h]
      · exact ⟨_, rfl, fun H' _ => .inr ⟨[], rfl, by decide, .inl ⟨by decide, rfl⟩⟩⟩
      · refine ⟨_, rfl, fun H' _ => .inr ⟨_, rfl, by rw [List.length_take]; show min 25 _ ≤ 1000; omega, .inl ⟨?_, rfl⟩⟩⟩
        rw [List.length_take]
        show ¬ (1 ≤ min 25 _ ∧ min 25 _ ≤ 24)
        omega
      · exact ⟨_, rfl, fun H' _ => .inr ⟨_, rfl, by decide, .inl ⟨by decide, rfl⟩⟩⟩
      · exact ⟨_, rfl, fun H' _ => .inl ⟨.inl rfl, rfl⟩⟩
      · exact ⟨_, rfl, fun H' _ => .inl ⟨.inr (.inr (.inl ⟨_, rfl⟩)), rfl⟩⟩
      · exact ⟨_, rfl, fun H' _ => .inl ⟨.inr (.inl ⟨_, rfl⟩), rfl⟩⟩
      · exact ⟨_, rfl, fun H' s => .inl ⟨.inr (.inr (.inr ⟨_, _, rfl, .inl (s _ _ e1)⟩)), rfl⟩⟩
      · exact ⟨_, rfl, fun H' s => .inl ⟨.inr (.inr (.inr ⟨_, _, rfl, .inr (s _ _ e2)⟩)), rfl⟩⟩
    obtain ⟨v, hv, hb⟩ := key
    refine i_ix_lst (v := v) (.inl (.inl (dr2.old g3))) (atI_int b0 hv) ?_
    walk_at "go"
    refine i_new (by show 2 ≤ 100000; omega) fun q5 n5 => ?_
    refine q q5 v (-1) _ ?_ upd_same (hb _ (same_upd n5))
    exact (dr2.back dr1 ((t1.trans t2).trans t3)).skip n5
  · walk_at "go"
    refine ⟨H0, d, l.length, rfl, rfl, dr1, by omega, fun pl H2 dr2 b2 => ?_⟩
    have p0 := b2.1
    have p1 : pl < l.length := by have := b2.2.1; have := b2.2.2; omega
    walk_at "go"
    refine ⟨H0, d, (l.length : Int) - pl, rfl, rfl, dr2, by omega, fun x H3 dr3 b3 => ?_⟩
    have x0 := b3.1
    have x1 : x < (l.length : Int) - pl := by have := b3.2.1; have := b3.2.2; omega
    obtain ⟨p, rfl⟩ : ∃ p : Nat, pl = (p : Int) := ⟨pl.toNat, by omega⟩
    obtain ⟨y, rfl⟩ : ∃ y : Nat, x = (y : Int) := ⟨x.toNat, by omega⟩
    have pick8 : ∀ n : Int, Btw n 8 → ∃ c, ODD[n.toNat]? = some c ∧ c ∈ ODD := fun n b => by
      have b0 := b.1
      have b1 := b.2.1 (by decide)
      have hn : n.toNat < ODD.length := by show n.toNat < 8; omega
      exact ⟨_, List.getElem?_eq_getElem hn, List.getElem_mem hn⟩
    walk_at "go"
    refine ⟨H0, d, 8, rfl, rfl, dr3, by decide, fun n H4 dr4 b4 => ?_⟩
    obtain ⟨c1, hc1, hm1⟩ := pick8 n b4
    refine i_ix_str (by decide) b4.1 hc1 ?_
    walk_at "go"
    rw [show ((p : Int) + (y : Int)).toNat = p + y by omega, show ((p : Int) + (y : Int) + 1).toNat = p + y + 1 by omega]
    have bl : (l.take (p + y) ++ [c1] ++ l.drop (p + y + 1)).length = l.length := by
      simp only [List.length_append, List.length_take, List.length_drop, List.length_singleton]
      omega
    have bp : ∀ k < p, (l.take (p + y) ++ [c1] ++ l.drop (p + y + 1))[k]? = l[k]? := fun k hk => by
      rw [List.append_assoc, List.getElem?_append_left (by rw [List.length_take]; omega), List.getElem?_take, if_pos (by omega)]
    generalize l.take (p + y) ++ [c1] ++ l.drop (p + y + 1) = bad at *
    walk_at "go"
    refine ⟨H0, d, 8, rfl, rfl, dr4, by decide, fun n H5 dr5 b5 => ?_⟩
    obtain ⟨c2, hc2, hm2⟩ := pick8 n b5
    refine i_ix_str (by decide) b5.1 hc2 ?_
    walk_at "go"
    refine i_new (by show 2 ≤ 100000; omega) fun q5 n5 => ?_
    refine q q5 _ (p : Int) _ (dr5.skip n5) upd_same (.inr ⟨_, rfl, ?_, .inr ⟨?_, p, ?_, rfl⟩⟩)
    · simp only [List.length_append, List.length_take, List.length_drop, List.length_singleton]; omega
    · simp only [List.length_append, List.length_take, List.length_drop, List.length_singleton]; omega
    · rw [Int.toNat_natCast]
      refine firstBad_some (c := c2) ?_ (odd_bad c2 hm2) fun k hk c hc => ?_
      · rw [List.append_assoc, List.getElem?_append_right (by rw [List.length_take]; omega), List.length_take, show p - min p bad.length = 0 by omega]
        rfl
      · rw [List.append_assoc, List.getElem?_append_left (by rw [List.length_take]; omega), List.getElem?_take, if_pos (by omega), bp k hk] at hc
        exact h3 c (List.mem_of_getElem? hc)
/-- what the law asks -/
def p_law (K : PySem.W.Frag) : P1 := fun x H Q _ => ∃ (a : Addr) (ns : List Int), x = .ref a ∧ SqL K H a (ns.map V.int) ∧ ns.length ≤ 63 ∧ ∀ H', Q (.bl true) H'
theorem ok_law_at {f : Addr} {fd : FuncData} (F : Fun K "law" "law" s_law f fd) (T : Txt K mg C_GlimError C_BadRound C_BadText C_TooLong) : FnOk P w K mg base CX0 27 f fd ["_law_script"] (sp1 (p_law K)) := by
  refine FnOK.mk (k := 26) F sc_law len1 fun cdv A outer s H vs Q E hr h => ?_
  obtain ⟨x, rfl, h⟩ := h
  refine ⟨_, (pss_cons (ps_set (i := 1) sc_law.nd rfl (Or.inl rfl) (pe_f (ok_L_draw (K := K) T) (hr.mono (by decide)) pass0 (pa_cons (pv 0) pa_nil))) (pss_cons (ps_set (i := 2) sc_law.nd rfl (Or.inl rfl) (pe_lst (pa_cons (pe_f (ok_L_row (K := K) T) (hr.mono (by decide)) pass0 (pa_cons (pv 1) pa_nil)) (pa_cons (pe_f (ok_L_row (K := K) T) (hr.mono (by decide)) pass0 (pa_cons (pv 1) pa_nil)) pa_nil)))) (pss_cons (ps_for PassesOwn.never rfl (piAny K (pe_op (opAdd K) (pv 2) (pe_lst (pa_cons (pe_ix (ixK K) (pv 2) pe_int (fun _ _ => rfl)) pa_nil)))) (pg_name (i := 3) sc_law.nd rfl (Or.inl rfl)) (pss_cons (ps_set (i := 4) sc_law.nd rfl (Or.inl rfl) (pe_f (ok_L_told (K := K) T) (hr.mono (by decide)) pass0 (pa_cons pe_int (pa_cons (pv 3) pa_nil)))) (pss_cons (ps_if (pw_or (pt_cmpR (opNe K hr.units) (pe_ix (ixK K) (pv 4) pe_int (fun _ _ => rfl)) (pe_S [116, 111, 108, 100]) (nomark _)) (pw_or (pt_not (pt_val (pe_callB (cIsi K) (by rfl) T.b_isinstance (by decide +kernel) (pa_cons (pe_ix (ixK K) (pv 4) pe_int (fun _ _ => rfl)) (pa_cons (pe_bltn (v := .ty "str") (by rfl) T.b_str (by decide +kernel) rfl) pa_nil))))) (pw_or1 (pt_cmpR (opIn K) (pe_S [38]) (pe_ix (ixK K) (pv 4) pe_int (fun _ _ => rfl)) (by with_unfolding_all rfl))))).pt (pss_one (ps_ret pe_bl)) pss_nil) (pss_cons (ps_if (pt_cmpR (opNe K hr.units) (pe_ix (ixK K) (pv 4) pe_int (fun _ _ => rfl)) (pe_dget (hu_of hr) (pe_f (ok_L_table (K := K) T) (hr.mono (by decide)) pass0 (pa_cons (pv 3) pa_nil)) (pe_tup (pa_cons pe_int (pa_cons (pe_callB (cLen K) (by rfl) T.b_len (by decide +kernel) (pa_cons (pv 3) pa_nil)) pa_nil))) (fun _ _ => rfl)) (nomark _)) (pss_one (ps_ret pe_bl)) pss_nil) (pss_one (ps_if (pt_cmpR (opNe K hr.units) (pe_f (ok_L_told (K := K) T) (hr.mono (by decide)) pass0 (pa_cons pe_int (pa_cons (pe_ix (ixK K) (pv 4) pe_int (fun _ _ => rfl)) pa_nil))) (pe_tup (pa_cons (pe_S [116, 111, 108, 100]) (pa_cons (pv 3) pa_nil))) (nomark _)) (pss_one (ps_ret pe_bl)) pss_nil)))))) (pss_cons (ps_set (i := 5) sc_law.nd rfl (Or.inl rfl) (pe_f (ok_L_bad_round (K := K) T) (hr.mono (by decide)) pass0 (pa_cons (pv 1) (pa_cons (pe_ix (ixK K) (pv 2) pe_int (fun _ _ => rfl)) pa_nil)))) (pss_cons (ps_set (i := 4) sc_law.nd rfl (Or.inl rfl) (pe_f (ok_L_told (K := K) T) (hr.mono (by decide)) pass0 (pa_cons pe_int (pa_cons (pe_ix (ixK K) (pv 5) pe_int (fun _ _ => rfl)) pa_nil)))) (pss_one (ps_ret (pe_and (pe_cmpR (opEq K hr.units) (pe_ix (ixK K) (pv 4) pe_int (fun _ _ => rfl)) (pe_S [114, 111, 117, 110, 100]) (nomark _)) (pe_and (pe_f (ok_L_is_int (K := K) T) (hr.mono (by decide)) pass0 (pa_cons (pe_ix (ixK K) (pv 4) pe_int (fun _ _ => rfl)) pa_nil)) (pe_one (pe_cmpR (opEq K hr.units) (pe_ix (ixK K) (pv 4) pe_int (fun _ _ => rfl)) (pe_ix (ixK K) (pv 5) pe_int (fun _ _ => rfl)) (nomark _)))))))))))), ?_⟩
  show (_ : TS) { nx := fun _ H' => Q .non H', rt := Q } [some x, none, none, none, none, none] H
  obtain ⟨a, ns, rfl, hS, hl, q⟩ := h
  walk_at "go"
  refine ⟨a, ns, rfl, hS, by omega, fun H0 d H1 s0 dr => ?_⟩
  walk_at "go"
  refine ⟨H0, d, rfl, dr, fun l1 H2 dr2 hl1 => ?_⟩
  walk_at "go"
  refine ⟨H0, d, rfl, dr2, fun l2 H3 dr3 hl2 => ?_⟩
  walk_at "go"
  refine i_new (by show 2 ≤ 100000; omega) fun pr nr => ?_
  obtain ⟨HR, tR, gR, drR⟩ := dr3.step (.lst [S l1, S l2]) nr
  have eR : (upd H3 pr (.lst [S l1, S l2])) pr = some (.lst [S l1, S l2]) := upd_same
  generalize (upd H3 pr (.lst [S l1, S l2])) = H4 at *
  walk_at "go"
  refine i_new (by show 1 ≤ 100000; omega) fun p1 n1 => ?_
  refine i_catL ((upd_ne (ne_of_none eR n1)).trans eR) upd_same (show 2 + 1 ≤ 100000 by decide) fun p2 n2 => ?_
  obtain ⟨HG, tG, gG, drG⟩ := (drR.skip (o := .lst [S l1]) n1).step (.lst ([S l1, S l2] ++ [S l1])) n2
  refine i_forL (.inl (.inl upd_same)) (fun i σ' H' => ∃ v3 v4 : Option V, σ' = [some (.ref a), some (.ref d.a), some (.ref pr), v3, v4, none] ∧ Dr K d HG H') ⟨_, _, rfl, drG⟩ ?_ ?_ ?_
  · rintro i σ' H' _ ⟨v3, v4, rfl, dr8⟩
    exact .inl (.inl (dr8.old gG))
  · rintro i x σ' H8 hi ⟨v3, v4, rfl, dr8⟩
    have hx : ∃ l, x = S l ∧ IsRound l := by
      match i, hi with
      | 0, h => cases h; exact ⟨l1, rfl, hl1⟩
      | 1, h => cases h; exact ⟨l2, rfl, hl2⟩
      | 2, h => cases h; exact ⟨l1, rfl, hl1⟩
    obtain ⟨l, rfl, hl⟩ := hx
    have hne : l ≠ [] := List.length_pos_iff.mp hl.1
    obtain ⟨hback, h38⟩ := fold_back hl.2.1 hl.2.2 hne
    have hcl := fC_len hne
    have hl24 := hl.2.1
    walk_at "go"
    refine .inl ⟨rfl, .inl ⟨l, rfl, hl, fun p H9 s9 h9 => ?_⟩⟩
    generalize hC : fC l = C at *
    walk_at "go"
    refine i_decN (fun e => absurd rfl e) (fun _ => ?_)
    walk_at "go"
    refine i_dec (fun e => absurd e h38) (fun _ => ?_)
    walk_at "go"
    refine ⟨l, rfl, hl.1, hl.2.1, fun ta n f H10 s10 pd hf => ?_⟩
    rw [hC] at hf
    walk_at "go"
    refine i_new (by show 2 ≤ 100000; omega) fun pk nk => ?_
    refine pd_get (pd.mono (same_upd nk)) upd_same hf ?_
    walk_at "go"
    refine i_decN (fun e => absurd rfl e) (fun _ => ?_)
    have h10 := s10 _ _ h9
    have h11 : (upd H10 pk (.tup [.int 0, .int (l.length : Int)])) p = some (.tup [S TOLD, S C]) := (upd_ne (ne_of_none h10 nk)).trans h10
    have s11 := (s9.trans s10).trans (same_upd (o := .tup [.int 0, .int (l.length : Int)]) nk)
    generalize (upd H10 pk (.tup [.int 0, .int (l.length : Int)])) = H11 at *
    walk_at "go"
    refine .inr ⟨rfl, C, (l.length, l), rfl, by omega, hback, by omega, fun p' H12 s12 h12 => ?_⟩
    walk_at "go"
    refine i_new (by show 2 ≤ 100000; omega) fun pt nt => ?_
    have h13 : (upd H12 pt (.tup [S TOLD, S l])) p' = some (.tup [S TOLD, S l]) := (upd_ne (ne_of_none h12 nt)).trans h12
    refine i_ne_data (d1 := .tuple [.str ⟨TOLD.toArray⟩, .str ⟨l.toArray⟩]) (d2 := .tuple [.str ⟨TOLD.toArray⟩, .str ⟨l.toArray⟩]) (.tup (.inl (.inl h13)) (.cons (.str _) (.cons (.str _) .nil))) (.tup (.inl (.inl upd_same)) (.cons (.str _) (.cons (.str _) .nil))) (two_shaped (by decide) hl.2.2) (two_shaped (by decide) hl.2.2) (r := true) (SeqAt.eqv_refl _ (SeqAt.canLay_of_shaped (two_shaped (by decide) hl.2.2))) ?_
    rw [show (!true) = false from rfl]
    walk_at "go"
    exact ⟨_, _, rfl, (((dr8.same s11).same s12).skip nt)⟩
  · rintro σ' H8 ⟨v3, v4, rfl, dr8⟩
    have eR8 : H8 pr = some (.lst [S l1, S l2]) := dr8.old (tG _ _ gR)
    walk_at "go"
    refine ⟨HG, d, l2, rfl, rfl, dr8, hl2, fun p v k H9 dr9 h9 hb => ?_⟩
    walk_at "go"
    refine .inl ⟨rfl, .inr ⟨k, hb, fun p' H10 s10 h10 => ?_⟩⟩
    have h11 := s10 _ _ h9
    walk_at "go"
    refine i_dec (fun _ => ?_) (fun e => absurd rfl e)
    walk_at "go"
    refine ⟨.inr (.inr (.inr (.inl ⟨_, rfl⟩))), ?_⟩
    rw [show isI (.int k) = true from rfl]
    walk_at "go"
    rw [decide_eq_true rfl]
    exact q _
end
end K06
namespace K06
open PySem PySem.Spec PyProof.Rows L2 Fg
theorem all_mk {l : PySem.W.OpenLaw} {w : World} {K : PySem.W.Frag} {h : Heap} {mg : Str → Option Value} {fa C_GlimError C_BadRound C_BadText C_TooLong f1 f2 f3 f4 f5 f6 f7 f8 f9 f10 f11 f12 f13 f14 f15 f16 f17 f18 f19 f20 f21 f22 f23 f24 f25 f26 f27 f28 f29 f30 f31 f32 f33 f34 f35 f36 f37 : Addr} (X : K.In h) (G : h.Ns mainGlobals mg) (hfa : mg "law" = some (.ref fa))
    {od1 an1 od2 an2 od3 an3 od4 an4 od5 an5 od6 an6 od7 an7 od8 an8 od9 an9 od10 an10 od11 an11 od12 an12 od13 an13 od14 an14 od15 an15 od16 an16 od17 an17 od18 an18 od19 an19 od20 an20 od21 an21 od22 an22 od23 an23 od24 an24 od25 an25 od26 an26 od27 an27 od28 an28 od29 an29 od30 an30 od31 an31 od32 an32 od33 an33 od34 an34 od35 an35 od36 an36 od37 an37 : Option Addr} {sl1 sl2 sl3 sl4 sl5 sl6 sl7 sl8 sl9 sl10 sl11 sl12 sl13 sl14 sl15 sl16 sl17 sl18 sl19 sl20 sl21 sl22 sl23 sl24 sl25 sl26 sl27 sl28 sl29 sl30 sl31 sl32 sl33 sl34 sl35 sl36 sl37 : Array (Option Value)} {oc1 kV1 dc1 pm1 cd1 ct1 oc2 kV2 dc2 pm2 cd2 ct2 oc3 kV3 dc3 pm3 cd3 ct3 oc4 kV4 dc4 pm4 cd4 ct4 oc5 kV5 dc5 pm5 cd5 ct5 oc6 kV6 dc6 pm6 cd6 ct6 oc7 kV7 dc7 pm7 cd7 ct7 oc8 kV8 dc8 pm8 cd8 ct8 oc9 kV9 dc9 pm9 cd9 ct9 oc10 kV10 dc10 pm10 cd10 ct10 oc11 kV11 dc11 pm11 cd11 ct11 oc12 kV12 dc12 pm12 cd12 ct12 oc13 kV13 dc13 pm13 cd13 ct13 oc14 kV14 dc14 pm14 cd14 ct14 oc15 kV15 dc15 pm15 cd15 ct15 oc16 kV16 dc16 pm16 cd16 ct16 oc17 kV17 dc17 pm17 cd17 ct17 oc18 kV18 dc18 pm18 cd18 ct18 oc19 kV19 dc19 pm19 cd19 ct19 oc20 kV20 dc20 pm20 cd20 ct20 oc21 kV21 dc21 pm21 cd21 ct21 oc22 kV22 dc22 pm22 cd22 ct22 oc23 kV23 dc23 pm23 cd23 ct23 oc24 kV24 dc24 pm24 cd24 ct24 oc25 kV25 dc25 pm25 cd25 ct25 oc26 kV26 dc26 pm26 cd26 ct26 oc27 kV27 dc27 pm27 cd27 ct27 oc28 kV28 dc28 pm28 cd28 ct28 oc29 kV29 dc29 pm29 cd29 ct29 oc30 kV30 dc30 pm30 cd30 ct30 oc31 kV31 dc31 pm31 cd31 ct31 oc32 kV32 dc32 pm32 cd32 ct32 oc33 kV33 dc33 pm33 cd33 ct33 oc34 kV34 dc34 pm34 cd34 ct34 oc35 kV35 dc35 pm35 cd35 ct35 oc36 kV36 dc36 pm36 cd36 ct36 oc37 kV37 dc37 pm37 cd37 ct37 : Value}
    {nm_TooLong q_TooLong : Str} {N_TooLong : Addr} {bs_TooLong bm_TooLong : List Value} {sn_TooLong : List Str} {sub_TooLong : List Value} {ab_TooLong : Bool} {col_TooLong : Option Bool} {dd_TooLong : Option Addr} {m0_TooLong m1_TooLong m2_TooLong m3_TooLong m5_TooLong : Option Value}
    {nm_BadText q_BadText : Str} {N_BadText : Addr} {bs_BadText bm_BadText : List Value} {sn_BadText : List Str} {sub_BadText : List Value} {ab_BadText : Bool} {col_BadText : Option Bool} {dd_BadText : Option Addr} {m0_BadText m1_BadText m2_BadText m3_BadText m5_BadText : Option Value}
    {nm_BadRound q_BadRound : Str} {N_BadRound : Addr} {bs_BadRound bm_BadRound : List Value} {sn_BadRound : List Str} {sub_BadRound : List Value} {ab_BadRound : Bool} {col_BadRound : Option Bool} {dd_BadRound : Option Addr} {m0_BadRound m1_BadRound m2_BadRound m3_BadRound m5_BadRound : Option Value}
    {t_SIGNS t_MOST_ROUND t_DIGITS t_MOST_OPEN : Tok}
    (a1 : PySem.W.nsIn K mainGlobals "wrong_sign" = some (some (.ref f1)))
    (l1 : K.lookup f1 = some ⟨oc1, od1, .func (PySem.W.fnOf "wrong_sign" "wrong_sign" (defArgs s_wrong_sign) (defBody s_wrong_sign) (defScope s_wrong_sign) .none kV1 dc1 pm1 an1 cd1 ct1), sl1⟩)
    (c1 : PySem.W.codeIn K cd1 "wrong_sign" = true)
    (k1 : PySem.W.keepIn K (.ref f1) = true)
    (a2 : PySem.W.nsIn K mainGlobals "check_round" = some (some (.ref f2)))
    (l2 : K.lookup f2 = some ⟨oc2, od2, .func (PySem.W.fnOf "check_round" "check_round" (defArgs s_check_round) (defBody s_check_round) (defScope s_check_round) .none kV2 dc2 pm2 an2 cd2 ct2), sl2⟩)
    (c2 : PySem.W.codeIn K cd2 "check_round" = true)
    (k2 : PySem.W.keepIn K (.ref f2) = true)
    (a3 : PySem.W.nsIn K mainGlobals "shortlex" = some (some (.ref f3)))
    (l3 : K.lookup f3 = some ⟨oc3, od3, .func (PySem.W.fnOf "shortlex" "shortlex" (defArgs s_shortlex) (defBody s_shortlex) (defScope s_shortlex) .none kV3 dc3 pm3 an3 cd3 ct3), sl3⟩)
    (c3 : PySem.W.codeIn K cd3 "shortlex" = true)
    (k3 : PySem.W.keepIn K (.ref f3) = true)
    (a4 : PySem.W.nsIn K mainGlobals "least_text" = some (some (.ref f4)))
    (l4 : K.lookup f4 = some ⟨oc4, od4, .func (PySem.W.fnOf "least_text" "least_text" (defArgs s_least_text) (defBody s_least_text) (defScope s_least_text) .none kV4 dc4 pm4 an4 cd4 ct4), sl4⟩)
    (c4 : PySem.W.codeIn K cd4 "least_text" = true)
    (k4 : PySem.W.keepIn K (.ref f4) = true)
    (a5 : PySem.W.nsIn K mainGlobals "closed_text" = some (some (.ref f5)))
    (l5 : K.lookup f5 = some ⟨oc5, od5, .func (PySem.W.fnOf "closed_text" "closed_text" (defArgs s_closed_text) (defBody s_closed_text) (defScope s_closed_text) .none kV5 dc5 pm5 an5 cd5 ct5), sl5⟩)
    (c5 : PySem.W.codeIn K cd5 "closed_text" = true)
    (k5 : PySem.W.keepIn K (.ref f5) = true)
    (a6 : PySem.W.nsIn K mainGlobals "item_text" = some (some (.ref f6)))
    (l6 : K.lookup f6 = some ⟨oc6, od6, .func (PySem.W.fnOf "item_text" "item_text" (defArgs s_item_text) (defBody s_item_text) (defScope s_item_text) .none kV6 dc6 pm6 an6 cd6 ct6), sl6⟩)
    (c6 : PySem.W.codeIn K cd6 "item_text" = true)
    (k6 : PySem.W.keepIn K (.ref f6) = true)
    (a7 : PySem.W.nsIn K mainGlobals "items_text" = some (some (.ref f7)))
    (l7 : K.lookup f7 = some ⟨oc7, od7, .func (PySem.W.fnOf "items_text" "items_text" (defArgs s_items_text) (defBody s_items_text) (defScope s_items_text) .none kV7 dc7 pm7 an7 cd7 ct7), sl7⟩)
    (c7 : PySem.W.codeIn K cd7 "items_text" = true)
    (k7 : PySem.W.keepIn K (.ref f7) = true)
    (a8 : PySem.W.nsIn K mainGlobals "fold_round" = some (some (.ref f8)))
    (l8 : K.lookup f8 = some ⟨oc8, od8, .func (PySem.W.fnOf "fold_round" "fold_round" (defArgs s_fold_round) (defBody s_fold_round) (defScope s_fold_round) .none kV8 dc8 pm8 an8 cd8 ct8), sl8⟩)
    (c8 : PySem.W.codeIn K cd8 "fold_round" = true)
    (k8 : PySem.W.keepIn K (.ref f8) = true)
    (a9 : PySem.W.nsIn K mainGlobals "common_beats" = some (some (.ref f9)))
    (l9 : K.lookup f9 = some ⟨oc9, od9, .func (PySem.W.fnOf "common_beats" "common_beats" (defArgs s_common_beats) (defBody s_common_beats) (defScope s_common_beats) .none kV9 dc9 pm9 an9 cd9 ct9), sl9⟩)
    (c9 : PySem.W.codeIn K cd9 "common_beats" = true)
    (k9 : PySem.W.keepIn K (.ref f9) = true)
    (a10 : PySem.W.nsIn K mainGlobals "repeated" = some (some (.ref f10)))
    (l10 : K.lookup f10 = some ⟨oc10, od10, .func (PySem.W.fnOf "repeated" "repeated" (defArgs s_repeated) (defBody s_repeated) (defScope s_repeated) .none kV10 dc10 pm10 an10 cd10 ct10), sl10⟩)
    (c10 : PySem.W.codeIn K cd10 "repeated" = true)
    (k10 : PySem.W.keepIn K (.ref f10) = true)
    (a11 : PySem.W.nsIn K mainGlobals "put_behind" = some (some (.ref f11)))
    (l11 : K.lookup f11 = some ⟨oc11, od11, .func (PySem.W.fnOf "put_behind" "put_behind" (defArgs s_put_behind) (defBody s_put_behind) (defScope s_put_behind) .none kV11 dc11 pm11 an11 cd11 ct11), sl11⟩)
    (c11 : PySem.W.codeIn K cd11 "put_behind" = true)
    (k11 : PySem.W.keepIn K (.ref f11) = true)
    (a12 : PySem.W.nsIn K mainGlobals "first_lit" = some (some (.ref f12)))
    (l12 : K.lookup f12 = some ⟨oc12, od12, .func (PySem.W.fnOf "first_lit" "first_lit" (defArgs s_first_lit) (defBody s_first_lit) (defScope s_first_lit) .none kV12 dc12 pm12 an12 cd12 ct12), sl12⟩)
    (c12 : PySem.W.codeIn K cd12 "first_lit" = true)
    (k12 : PySem.W.keepIn K (.ref f12) = true)
    (a13 : PySem.W.nsIn K mainGlobals "shown_together" = some (some (.ref f13)))
    (l13 : K.lookup f13 = some ⟨oc13, od13, .func (PySem.W.fnOf "shown_together" "shown_together" (defArgs s_shown_together) (defBody s_shown_together) (defScope s_shown_together) .none kV13 dc13 pm13 an13 cd13 ct13), sl13⟩)
    (c13 : PySem.W.codeIn K cd13 "shown_together" = true)
    (k13 : PySem.W.keepIn K (.ref f13) = true)
    (a14 : PySem.W.nsIn K mainGlobals "behind_digits" = some (some (.ref f14)))
    (l14 : K.lookup f14 = some ⟨oc14, od14, .func (PySem.W.fnOf "behind_digits" "behind_digits" (defArgs s_behind_digits) (defBody s_behind_digits) (defScope s_behind_digits) .none kV14 dc14 pm14 an14 cd14 ct14), sl14⟩)
    (c14 : PySem.W.codeIn K cd14 "behind_digits" = true)
    (k14 : PySem.W.keepIn K (.ref f14) = true)
    (a15 : PySem.W.nsIn K mainGlobals "is_within" = some (some (.ref f15)))
    (l15 : K.lookup f15 = some ⟨oc15, od15, .func (PySem.W.fnOf "is_within" "is_within" (defArgs s_is_within) (defBody s_is_within) (defScope s_is_within) .none kV15 dc15 pm15 an15 cd15 ct15), sl15⟩)
    (c15 : PySem.W.codeIn K cd15 "is_within" = true)
    (k15 : PySem.W.keepIn K (.ref f15) = true)
    (a16 : PySem.W.nsIn K mainGlobals "read_item" = some (some (.ref f16)))
    (l16 : K.lookup f16 = some ⟨oc16, od16, .func (PySem.W.fnOf "read_item" "read_item" (defArgs s_read_item) (defBody s_read_item) (defScope s_read_item) .none kV16 dc16 pm16 an16 cd16 ct16), sl16⟩)
    (c16 : PySem.W.codeIn K cd16 "read_item" = true)
    (k16 : PySem.W.keepIn K (.ref f16) = true)
    (a17 : PySem.W.nsIn K mainGlobals "read_filled" = some (some (.ref f17)))
    (l17 : K.lookup f17 = some ⟨oc17, od17, .func (PySem.W.fnOf "read_filled" "read_filled" (defArgs s_read_filled) (defBody s_read_filled) (defScope s_read_filled) .none kV17 dc17 pm17 an17 cd17 ct17), sl17⟩)
    (c17 : PySem.W.codeIn K cd17 "read_filled" = true)
    (k17 : PySem.W.keepIn K (.ref f17) = true)
    (a18 : PySem.W.nsIn K mainGlobals "read_part" = some (some (.ref f18)))
    (l18 : K.lookup f18 = some ⟨oc18, od18, .func (PySem.W.fnOf "read_part" "read_part" (defArgs s_read_part) (defBody s_read_part) (defScope s_read_part) .none kV18 dc18 pm18 an18 cd18 ct18), sl18⟩)
    (c18 : PySem.W.codeIn K cd18 "read_part" = true)
    (k18 : PySem.W.keepIn K (.ref f18) = true)
    (a19 : PySem.W.nsIn K mainGlobals "read_parts" = some (some (.ref f19)))
    (l19 : K.lookup f19 = some ⟨oc19, od19, .func (PySem.W.fnOf "read_parts" "read_parts" (defArgs s_read_parts) (defBody s_read_parts) (defScope s_read_parts) .none kV19 dc19 pm19 an19 cd19 ct19), sl19⟩)
    (c19 : PySem.W.codeIn K cd19 "read_parts" = true)
    (k19 : PySem.W.keepIn K (.ref f19) = true)
    (a20 : PySem.W.nsIn K mainGlobals "read_round" = some (some (.ref f20)))
    (l20 : K.lookup f20 = some ⟨oc20, od20, .func (PySem.W.fnOf "read_round" "read_round" (defArgs s_read_round) (defBody s_read_round) (defScope s_read_round) .none kV20 dc20 pm20 an20 cd20 ct20), sl20⟩)
    (c20 : PySem.W.codeIn K cd20 "read_round" = true)
    (k20 : PySem.W.keepIn K (.ref f20) = true)
    (a21 : PySem.W.nsIn K mainGlobals "_law_draw" = some (some (.ref f21)))
    (l21 : K.lookup f21 = some ⟨oc21, od21, .func (PySem.W.fnOf "_law_draw" "_law_draw" (defArgs s_L_draw) (defBody s_L_draw) (defScope s_L_draw) .none kV21 dc21 pm21 an21 cd21 ct21), sl21⟩)
    (c21 : PySem.W.codeIn K cd21 "_law_draw" = true)
    (k21 : PySem.W.keepIn K (.ref f21) = true)
    (a22 : PySem.W.nsIn K mainGlobals "_law_mix" = some (some (.ref f22)))
    (l22 : K.lookup f22 = some ⟨oc22, od22, .func (PySem.W.fnOf "_law_mix" "_law_mix" (defArgs s_L_mix) (defBody s_L_mix) (defScope s_L_mix) .none kV22 dc22 pm22 an22 cd22 ct22), sl22⟩)
    (c22 : PySem.W.codeIn K cd22 "_law_mix" = true)
    (k22 : PySem.W.keepIn K (.ref f22) = true)
    (a23 : PySem.W.nsIn K mainGlobals "_law_pick" = some (some (.ref f23)))
    (l23 : K.lookup f23 = some ⟨oc23, od23, .func (PySem.W.fnOf "_law_pick" "_law_pick" (defArgs s_L_pick) (defBody s_L_pick) (defScope s_L_pick) .none kV23 dc23 pm23 an23 cd23 ct23), sl23⟩)
    (c23 : PySem.W.codeIn K cd23 "_law_pick" = true)
    (k23 : PySem.W.keepIn K (.ref f23) = true)
    (a24 : PySem.W.nsIn K mainGlobals "_law_is_int" = some (some (.ref f24)))
    (l24 : K.lookup f24 = some ⟨oc24, od24, .func (PySem.W.fnOf "_law_is_int" "_law_is_int" (defArgs s_L_is_int) (defBody s_L_is_int) (defScope s_L_is_int) .none kV24 dc24 pm24 an24 cd24 ct24), sl24⟩)
    (c24 : PySem.W.codeIn K cd24 "_law_is_int" = true)
    (k24 : PySem.W.keepIn K (.ref f24) = true)
    (a25 : PySem.W.nsIn K mainGlobals "_law_sign" = some (some (.ref f25)))
    (l25 : K.lookup f25 = some ⟨oc25, od25, .func (PySem.W.fnOf "_law_sign" "_law_sign" (defArgs s_L_sign) (defBody s_L_sign) (defScope s_L_sign) .none kV25 dc25 pm25 an25 cd25 ct25), sl25⟩)
    (c25 : PySem.W.codeIn K cd25 "_law_sign" = true)
    (k25 : PySem.W.keepIn K (.ref f25) = true)
    (a26 : PySem.W.nsIn K mainGlobals "_law_round" = some (some (.ref f26)))
    (l26 : K.lookup f26 = some ⟨oc26, od26, .func (PySem.W.fnOf "_law_round" "_law_round" (defArgs s_L_round) (defBody s_L_round) (defScope s_L_round) .none kV26 dc26 pm26 an26 cd26 ct26), sl26⟩)
    (c26 : PySem.W.codeIn K cd26 "_law_round" = true)
    (k26 : PySem.W.keepIn K (.ref f26) = true)
    (a27 : PySem.W.nsIn K mainGlobals "_law_bent" = some (some (.ref f27)))
    (l27 : K.lookup f27 = some ⟨oc27, od27, .func (PySem.W.fnOf "_law_bent" "_law_bent" (defArgs s_L_bent) (defBody s_L_bent) (defScope s_L_bent) .none kV27 dc27 pm27 an27 cd27 ct27), sl27⟩)
    (c27 : PySem.W.codeIn K cd27 "_law_bent" = true)
    (k27 : PySem.W.keepIn K (.ref f27) = true)
    (a28 : PySem.W.nsIn K mainGlobals "_law_row" = some (some (.ref f28)))
    (l28 : K.lookup f28 = some ⟨oc28, od28, .func (PySem.W.fnOf "_law_row" "_law_row" (defArgs s_L_row) (defBody s_L_row) (defScope s_L_row) .none kV28 dc28 pm28 an28 cd28 ct28), sl28⟩)
    (c28 : PySem.W.codeIn K cd28 "_law_row" = true)
    (k28 : PySem.W.keepIn K (.ref f28) = true)
    (a29 : PySem.W.nsIn K mainGlobals "_law_better" = some (some (.ref f29)))
    (l29 : K.lookup f29 = some ⟨oc29, od29, .func (PySem.W.fnOf "_law_better" "_law_better" (defArgs s_L_better) (defBody s_L_better) (defScope s_L_better) .none kV29 dc29 pm29 an29 cd29 ct29), sl29⟩)
    (c29 : PySem.W.codeIn K cd29 "_law_better" = true)
    (k29 : PySem.W.keepIn K (.ref f29) = true)
    (a30 : PySem.W.nsIn K mainGlobals "_law_one_item" = some (some (.ref f30)))
    (l30 : K.lookup f30 = some ⟨oc30, od30, .func (PySem.W.fnOf "_law_one_item" "_law_one_item" (defArgs s_L_one_item) (defBody s_L_one_item) (defScope s_L_one_item) .none kV30 dc30 pm30 an30 cd30 ct30), sl30⟩)
    (c30 : PySem.W.codeIn K cd30 "_law_one_item" = true)
    (k30 : PySem.W.keepIn K (.ref f30) = true)
    (a31 : PySem.W.nsIn K mainGlobals "_law_table" = some (some (.ref f31)))
    (l31 : K.lookup f31 = some ⟨oc31, od31, .func (PySem.W.fnOf "_law_table" "_law_table" (defArgs s_L_table) (defBody s_L_table) (defScope s_L_table) .none kV31 dc31 pm31 an31 cd31 ct31), sl31⟩)
    (c31 : PySem.W.codeIn K cd31 "_law_table" = true)
    (k31 : PySem.W.keepIn K (.ref f31) = true)
    (a32 : PySem.W.nsIn K mainGlobals "_law_told" = some (some (.ref f32)))
    (l32 : K.lookup f32 = some ⟨oc32, od32, .func (PySem.W.fnOf "_law_told" "_law_told" (defArgs s_L_told) (defBody s_L_told) (defScope s_L_told) .none kV32 dc32 pm32 an32 cd32 ct32), sl32⟩)
    (c32 : PySem.W.codeIn K cd32 "_law_told" = true)
    (k32 : PySem.W.keepIn K (.ref f32) = true)
    (a33 : PySem.W.nsIn K mainGlobals "_law_bad_round" = some (some (.ref f33)))
    (l33 : K.lookup f33 = some ⟨oc33, od33, .func (PySem.W.fnOf "_law_bad_round" "_law_bad_round" (defArgs s_L_bad_round) (defBody s_L_bad_round) (defScope s_L_bad_round) .none kV33 dc33 pm33 an33 cd33 ct33), sl33⟩)
    (c33 : PySem.W.codeIn K cd33 "_law_bad_round" = true)
    (k33 : PySem.W.keepIn K (.ref f33) = true)
    (a34 : PySem.W.nsIn K mainGlobals "law" = some (some (.ref f34)))
    (l34 : K.lookup f34 = some ⟨oc34, od34, .func (PySem.W.fnOf "law" "law" (defArgs s_law) (defBody s_law) (defScope s_law) .none kV34 dc34 pm34 an34 cd34 ct34), sl34⟩)
    (c34 : PySem.W.codeIn K cd34 "law" = true)
    (k34 : PySem.W.keepIn K (.ref f34) = true)
    (z_ValueError : PySem.W.nsIn K mainGlobals "ValueError" = some none)
    (z_abs : PySem.W.nsIn K mainGlobals "abs" = some none)
    (z_bool : PySem.W.nsIn K mainGlobals "bool" = some none)
    (z_enumerate : PySem.W.nsIn K mainGlobals "enumerate" = some none)
    (z_int : PySem.W.nsIn K mainGlobals "int" = some none)
    (z_isinstance : PySem.W.nsIn K mainGlobals "isinstance" = some none)
    (z_len : PySem.W.nsIn K mainGlobals "len" = some none)
    (z_max : PySem.W.nsIn K mainGlobals "max" = some none)
    (z_min : PySem.W.nsIn K mainGlobals "min" = some none)
    (z_range : PySem.W.nsIn K mainGlobals "range" = some none)
    (z_str : PySem.W.nsIn K mainGlobals "str" = some none)
    (z_sum : PySem.W.nsIn K mainGlobals "sum" = some none)
    (v_SIGNS : PySem.W.nsIn K mainGlobals "SIGNS" = some (some (.str ".grw" t_SIGNS)))
    (v_MOST_ROUND : PySem.W.nsIn K mainGlobals "MOST_ROUND" = some (some (.int 24 t_MOST_ROUND)))
    (v_DIGITS : PySem.W.nsIn K mainGlobals "DIGITS" = some (some (.str "0123456789" t_DIGITS)))
    (v_MOST_OPEN : PySem.W.nsIn K mainGlobals "MOST_OPEN" = some (some (.int 6 t_MOST_OPEN)))
    (g_GlimError : PySem.W.nsIn K mainGlobals "GlimError" = some (some (.ref C_GlimError)))
    (g_BadRound : PySem.W.nsIn K mainGlobals "BadRound" = some (some (.ref C_BadRound)))
    (g_BadText : PySem.W.nsIn K mainGlobals "BadText" = some (some (.ref C_BadText)))
    (g_TooLong : PySem.W.nsIn K mainGlobals "TooLong" = some (some (.ref C_TooLong)))
    (xl_BadRound : K.lookup C_BadRound = some (excClassObj nm_BadRound q_BadRound C_BadRound N_BadRound bs_BadRound bm_BadRound true sn_BadRound sub_BadRound ab_BadRound col_BadRound dd_BadRound m0_BadRound m1_BadRound m2_BadRound m3_BadRound m5_BadRound "ValueError.__new__"))
    (xr_BadRound : PySem.HandSPX.refsVE bm_BadRound = true)
    (xsa_BadRound : PySem.W.findIn K (.ref C_BadRound) "__setattr__" = some (some (.builtin "object.__setattr__")))
    (xga_BadRound : PySem.W.findIn K (.ref C_BadRound) "__getattribute__" = some (some (.builtin "BaseException.__getattribute__")))
    (xgg_BadRound : PySem.W.findIn K (.ref C_BadRound) "__getattr__" = some none)
    (xnf_BadRound : PySem.W.findIn K (.ref C_BadRound) "number" = some none)
    (xi_BadRound : PySem.W.findIn K (.ref C_BadRound) "__init__" = some (some (.ref f35)))
    (xt_BadRound : PySem.W.typeIn K (.ref f35) = some (.type "function"))
    (xf_BadRound : K.lookup f35 = some ⟨oc35, od35, .func (PySem.W.fnOf "__init__" "BadRound.__init__" (defArgs s_BadRound) (defBody s_BadRound) (defScope s_BadRound) .none kV35 dc35 pm35 an35 cd35 ct35), sl35⟩)
    (xc_BadRound : PySem.W.codeIn K cd35 "BadRound.__init__" = true)
    (xkf_BadRound : PySem.W.keepIn K (.ref f35) = true)
    (xk_BadRound : PySem.W.keepIn K (.ref C_BadRound) = true)
    (xe_BadRound : PySem.W.subIn K (.ref C_BadRound) (.type "BaseException") = some true)
    (xty_BadRound : PySem.W.typeIn K (.ref C_BadRound) = some (.type "type"))
    (xhd_BadRound : PySem.W.hasDictIn K C_BadRound = true)
    (xis_BadRound : PySem.W.isClsIn K C_BadRound = true)
    (xca_BadRound : PySem.W.findIn K (.ref C_BadRound) "__class__" = some (some (.builtin "object.__class__")))
    (xm_BadRound : PySem.W.mroIn K C_BadRound (.type "object") = some true)
    (xl_BadText : K.lookup C_BadText = some (excClassObj nm_BadText q_BadText C_BadText N_BadText bs_BadText bm_BadText true sn_BadText sub_BadText ab_BadText col_BadText dd_BadText m0_BadText m1_BadText m2_BadText m3_BadText m5_BadText "ValueError.__new__"))
    (xr_BadText : PySem.HandSPX.refsVE bm_BadText = true)
    (xsa_BadText : PySem.W.findIn K (.ref C_BadText) "__setattr__" = some (some (.builtin "object.__setattr__")))
    (xga_BadText : PySem.W.findIn K (.ref C_BadText) "__getattribute__" = some (some (.builtin "BaseException.__getattribute__")))
    (xgg_BadText : PySem.W.findIn K (.ref C_BadText) "__getattr__" = some none)
    (xnf_BadText : PySem.W.findIn K (.ref C_BadText) "at" = some none)
    (xi_BadText : PySem.W.findIn K (.ref C_BadText) "__init__" = some (some (.ref f36)))
    (xt_BadText : PySem.W.typeIn K (.ref f36) = some (.type "function"))
    (xf_BadText : K.lookup f36 = some ⟨oc36, od36, .func (PySem.W.fnOf "__init__" "BadText.__init__" (defArgs s_BadText) (defBody s_BadText) (defScope s_BadText) .none kV36 dc36 pm36 an36 cd36 ct36), sl36⟩)
    (xc_BadText : PySem.W.codeIn K cd36 "BadText.__init__" = true)
    (xkf_BadText : PySem.W.keepIn K (.ref f36) = true)
    (xk_BadText : PySem.W.keepIn K (.ref C_BadText) = true)
    (xe_BadText : PySem.W.subIn K (.ref C_BadText) (.type "BaseException") = some true)
    (xty_BadText : PySem.W.typeIn K (.ref C_BadText) = some (.type "type"))
    (xhd_BadText : PySem.W.hasDictIn K C_BadText = true)
    (xis_BadText : PySem.W.isClsIn K C_BadText = true)
    (xca_BadText : PySem.W.findIn K (.ref C_BadText) "__class__" = some (some (.builtin "object.__class__")))
    (xm_BadText : PySem.W.mroIn K C_BadText (.type "object") = some true)
    (xl_TooLong : K.lookup C_TooLong = some (excClassObj nm_TooLong q_TooLong C_TooLong N_TooLong bs_TooLong bm_TooLong true sn_TooLong sub_TooLong ab_TooLong col_TooLong dd_TooLong m0_TooLong m1_TooLong m2_TooLong m3_TooLong m5_TooLong "ValueError.__new__"))
    (xr_TooLong : PySem.HandSPX.refsVE bm_TooLong = true)
    (xsa_TooLong : PySem.W.findIn K (.ref C_TooLong) "__setattr__" = some (some (.builtin "object.__setattr__")))
    (xga_TooLong : PySem.W.findIn K (.ref C_TooLong) "__getattribute__" = some (some (.builtin "BaseException.__getattribute__")))
    (xgg_TooLong : PySem.W.findIn K (.ref C_TooLong) "__getattr__" = some none)
    (xnf_TooLong : PySem.W.findIn K (.ref C_TooLong) "number" = some none)
    (xi_TooLong : PySem.W.findIn K (.ref C_TooLong) "__init__" = some (some (.ref f37)))
    (xt_TooLong : PySem.W.typeIn K (.ref f37) = some (.type "function"))
    (xf_TooLong : K.lookup f37 = some ⟨oc37, od37, .func (PySem.W.fnOf "__init__" "TooLong.__init__" (defArgs s_TooLong) (defBody s_TooLong) (defScope s_TooLong) .none kV37 dc37 pm37 an37 cd37 ct37), sl37⟩)
    (xc_TooLong : PySem.W.codeIn K cd37 "TooLong.__init__" = true)
    (xkf_TooLong : PySem.W.keepIn K (.ref f37) = true)
    (xk_TooLong : PySem.W.keepIn K (.ref C_TooLong) = true)
    (xe_TooLong : PySem.W.subIn K (.ref C_TooLong) (.type "BaseException") = some true)
    (xty_TooLong : PySem.W.typeIn K (.ref C_TooLong) = some (.type "type"))
    (xhd_TooLong : PySem.W.hasDictIn K C_TooLong = true)
    (xis_TooLong : PySem.W.isClsIn K C_TooLong = true)
    (xca_TooLong : PySem.W.findIn K (.ref C_TooLong) "__class__" = some (some (.builtin "object.__class__")))
    (xm_TooLong : PySem.W.mroIn K C_TooLong (.type "object") = some true)
    (xsp : PySem.W.specialIn K (.builtin "object.__class__") "__get__" = some (some (.builtin "getset_descriptor.__get__")))
    (xtk : PySem.W.takesIn K (.builtin "object.__class__") = some true)
    (qi_BadRound : PySem.W.isClsIn K C_BadRound = true)
    (qt_BadRound : PySem.W.typeIn K (.ref C_BadRound) = some (.type "type"))
    (qs_BadRound : PySem.W.subIn K (.ref C_BadRound) (.ref C_BadRound) = some true)
    (qb_BadRound : PySem.W.subIn K (.ref C_BadRound) (.type "BaseException") = some true)
    (qi_BadText : PySem.W.isClsIn K C_BadText = true)
    (qt_BadText : PySem.W.typeIn K (.ref C_BadText) = some (.type "type"))
    (qs_BadText : PySem.W.subIn K (.ref C_BadText) (.ref C_BadText) = some true)
    (qb_BadText : PySem.W.subIn K (.ref C_BadText) (.type "BaseException") = some true)
    (qi_GlimError : PySem.W.isClsIn K C_GlimError = true)
    (qt_GlimError : PySem.W.typeIn K (.ref C_GlimError) = some (.type "type"))
    (qs_GlimError : PySem.W.subIn K (.ref C_GlimError) (.ref C_GlimError) = some true)
    (qb_GlimError : PySem.W.subIn K (.ref C_GlimError) (.type "BaseException") = some true)
    (y_BadRound_BadRound : PySem.W.subIn K (.ref C_BadRound) (.ref C_BadRound) = some true)
    (y_BadRound_BadText : PySem.W.subIn K (.ref C_BadRound) (.ref C_BadText) = some false)
    (y_BadRound_ValueError : PySem.W.subIn K (.ref C_BadRound) (.type "ValueError") = some true)
    (x_BadRound_GlimError : PySem.W.subIn K (.ref C_BadRound) (.ref C_GlimError) = some true)
    : ∃ fd : FuncData, (∀ (s : Shared) (v : Value), BindsTo s fd ⟨[v], []⟩ [("_law_script", v)]) ∧ ∀ base : Heap, K.In base → base.Ns mainGlobals mg → FnOk l.prog w K mg base CX0 27 fa fd ["_law_script"] (sp1 (p_law K)) := by
  have e := hfa.symm.trans (PySem.W.mg_of X G a34)
  cases e
  have F1 := fun_mk (st := s_wrong_sign) l1 c1 k1
  have F2 := fun_mk (st := s_check_round) l2 c2 k2
  have F3 := fun_mk (st := s_shortlex) l3 c3 k3
  have F4 := fun_mk (st := s_least_text) l4 c4 k4
  have F5 := fun_mk (st := s_closed_text) l5 c5 k5
  have F6 := fun_mk (st := s_item_text) l6 c6 k6
  have F7 := fun_mk (st := s_items_text) l7 c7 k7
  have F8 := fun_mk (st := s_fold_round) l8 c8 k8
  have F9 := fun_mk (st := s_common_beats) l9 c9 k9
  have F10 := fun_mk (st := s_repeated) l10 c10 k10
  have F11 := fun_mk (st := s_put_behind) l11 c11 k11
  have F12 := fun_mk (st := s_first_lit) l12 c12 k12
  have F13 := fun_mk (st := s_shown_together) l13 c13 k13
  have F14 := fun_mk (st := s_behind_digits) l14 c14 k14
  have F15 := fun_mk (st := s_is_within) l15 c15 k15
  have F16 := fun_mk (st := s_read_item) l16 c16 k16
  have F17 := fun_mk (st := s_read_filled) l17 c17 k17
  have F18 := fun_mk (st := s_read_part) l18 c18 k18
  have F19 := fun_mk (st := s_read_parts) l19 c19 k19
  have F20 := fun_mk (st := s_read_round) l20 c20 k20
  have F21 := fun_mk (st := s_L_draw) l21 c21 k21
  have F22 := fun_mk (st := s_L_mix) l22 c22 k22
  have F23 := fun_mk (st := s_L_pick) l23 c23 k23
  have F24 := fun_mk (st := s_L_is_int) l24 c24 k24
  have F25 := fun_mk (st := s_L_sign) l25 c25 k25
  have F26 := fun_mk (st := s_L_round) l26 c26 k26
  have F27 := fun_mk (st := s_L_bent) l27 c27 k27
  have F28 := fun_mk (st := s_L_row) l28 c28 k28
  have F29 := fun_mk (st := s_L_better) l29 c29 k29
  have F30 := fun_mk (st := s_L_one_item) l30 c30 k30
  have F31 := fun_mk (st := s_L_table) l31 c31 k31
  have F32 := fun_mk (st := s_L_told) l32 c32 k32
  have F33 := fun_mk (st := s_L_bad_round) l33 c33 k33
  have F34 := fun_mk (st := s_law) l34 c34 k34
  have F35 := fun_mk (st := s_BadRound) xf_BadRound xc_BadRound xkf_BadRound
  have F36 := fun_mk (st := s_BadText) xf_BadText xc_BadText xkf_BadText
  have F37 := fun_mk (st := s_TooLong) xf_TooLong xc_TooLong xkf_TooLong
  have T : Txt K mg C_GlimError C_BadRound C_BadText C_TooLong := {
    d_wrong_sign := ⟨_, _, F1, PySem.W.mg_of X G a1, (F1.binds (ps := ["row"]) fun _ _ _ _ _ _ us hl => match us, hl with | [_], _ => rfl)⟩
    d_check_round := ⟨_, _, F2, PySem.W.mg_of X G a2, (F2.binds (ps := ["thing"]) fun _ _ _ _ _ _ us hl => match us, hl with | [_], _ => rfl)⟩
    d_shortlex := ⟨_, _, F3, PySem.W.mg_of X G a3, (F3.binds (ps := ["row"]) fun _ _ _ _ _ _ us hl => match us, hl with | [_], _ => rfl)⟩
    d_least_text := ⟨_, _, F4, PySem.W.mg_of X G a4, (F4.binds (ps := ["texts"]) fun _ _ _ _ _ _ us hl => match us, hl with | [_], _ => rfl)⟩
    d_closed_text := ⟨_, _, F5, PySem.W.mg_of X G a5, (F5.binds (ps := ["part", "texts"]) fun _ _ _ _ _ _ us hl => match us, hl with | [_, _], _ => rfl)⟩
    d_item_text := ⟨_, _, F6, PySem.W.mg_of X G a6, (F6.binds (ps := ["part", "texts"]) fun _ _ _ _ _ _ us hl => match us, hl with | [_, _], _ => rfl)⟩
    d_items_text := ⟨_, _, F7, PySem.W.mg_of X G a7, (F7.binds (ps := ["part", "items", "texts"]) fun _ _ _ _ _ _ us hl => match us, hl with | [_, _, _], _ => rfl)⟩
    d_fold_round := ⟨_, _, F8, PySem.W.mg_of X G a8, (F8.binds (ps := ["row"]) fun _ _ _ _ _ _ us hl => match us, hl with | [_], _ => rfl)⟩
    d_common_beats := ⟨_, _, F9, PySem.W.mg_of X G a9, (F9.binds (ps := ["first", "second"]) fun _ _ _ _ _ _ us hl => match us, hl with | [_, _], _ => rfl)⟩
    d_repeated := ⟨_, _, F10, PySem.W.mg_of X G a10, (F10.binds (ps := ["stretch", "times"]) fun _ _ _ _ _ _ us hl => match us, hl with | [_, _], _ => rfl)⟩
    d_put_behind := ⟨_, _, F11, PySem.W.mg_of X G a11, (F11.binds (ps := ["stretch", "other"]) fun _ _ _ _ _ _ us hl => match us, hl with | [_, _], _ => rfl)⟩
    d_first_lit := ⟨_, _, F12, PySem.W.mg_of X G a12, (F12.binds (ps := ["signs"]) fun _ _ _ _ _ _ us hl => match us, hl with | [_], _ => rfl)⟩
    d_shown_together := ⟨_, _, F13, PySem.W.mg_of X G a13, (F13.binds (ps := ["parts"]) fun _ _ _ _ _ _ us hl => match us, hl with | [_], _ => rfl)⟩
    d_behind_digits := ⟨_, _, F14, PySem.W.mg_of X G a14, (F14.binds (ps := ["text", "at"]) fun _ _ _ _ _ _ us hl => match us, hl with | [_, _], _ => rfl)⟩
    d_is_within := ⟨_, _, F15, PySem.W.mg_of X G a15, (F15.binds (ps := ["run", "low", "high"]) fun _ _ _ _ _ _ us hl => match us, hl with | [_, _, _], _ => rfl)⟩
    d_read_item := ⟨_, _, F16, PySem.W.mg_of X G a16, (F16.binds (ps := ["text", "at", "opened"]) fun _ _ _ _ _ _ us hl => match us, hl with | [_, _, _], _ => rfl)⟩
    d_read_filled := ⟨_, _, F17, PySem.W.mg_of X G a17, (F17.binds (ps := ["text", "at", "part"]) fun _ _ _ _ _ _ us hl => match us, hl with | [_, _, _], _ => rfl)⟩
    d_read_part := ⟨_, _, F18, PySem.W.mg_of X G a18, (F18.binds (ps := ["text", "at", "opened"]) fun _ _ _ _ _ _ us hl => match us, hl with | [_, _, _], _ => rfl)⟩
    d_read_parts := ⟨_, _, F19, PySem.W.mg_of X G a19, (F19.binds (ps := ["text", "at", "opened"]) fun _ _ _ _ _ _ us hl => match us, hl with | [_, _, _], _ => rfl)⟩
    d_read_round := ⟨_, _, F20, PySem.W.mg_of X G a20, (F20.binds (ps := ["text"]) fun _ _ _ _ _ _ us hl => match us, hl with | [_], _ => rfl)⟩
    d_L_draw := ⟨_, _, F21, PySem.W.mg_of X G a21, (F21.binds (ps := ["_law_script"]) fun _ _ _ _ _ _ us hl => match us, hl with | [_], _ => rfl)⟩
    d_L_mix := ⟨_, _, F22, PySem.W.mg_of X G a22, (F22.binds (ps := ["_law_cell", "_law_turn"]) fun _ _ _ _ _ _ us hl => match us, hl with | [_, _], _ => rfl)⟩
    d_L_pick := ⟨_, _, F23, PySem.W.mg_of X G a23, (F23.binds (ps := ["_law_draw_here", "_law_many"]) fun _ _ _ _ _ _ us hl => match us, hl with | [_, _], _ => rfl)⟩
    d_L_is_int := ⟨_, _, F24, PySem.W.mg_of X G a24, (F24.binds (ps := ["_law_thing"]) fun _ _ _ _ _ _ us hl => match us, hl with | [_], _ => rfl)⟩
    d_L_sign := ⟨_, _, F25, PySem.W.mg_of X G a25, (F25.binds (ps := ["_law_draw_here"]) fun _ _ _ _ _ _ us hl => match us, hl with | [_], _ => rfl)⟩
    d_L_round := ⟨_, _, F26, PySem.W.mg_of X G a26, (F26.binds (ps := ["_law_draw_here", "_law_most"]) fun _ _ _ _ _ _ us hl => match us, hl with | [_, _], _ => rfl)⟩
    d_L_bent := ⟨_, _, F27, PySem.W.mg_of X G a27, (F27.binds (ps := ["_law_draw_here", "_law_row_here"]) fun _ _ _ _ _ _ us hl => match us, hl with | [_, _], _ => rfl)⟩
    d_L_row := ⟨_, _, F28, PySem.W.mg_of X G a28, (F28.binds (ps := ["_law_draw_here"]) fun _ _ _ _ _ _ us hl => match us, hl with | [_], _ => rfl)⟩
    d_L_better := ⟨_, _, F29, PySem.W.mg_of X G a29, (F29.binds (ps := ["_law_one", "_law_two"]) fun _ _ _ _ _ _ us hl => match us, hl with | [_, _], _ => rfl)⟩
    d_L_one_item := ⟨_, _, F30, PySem.W.mg_of X G a30, (F30.binds (ps := ["_law_row_here", "_law_low", "_law_high", "_law_filled"]) fun _ _ _ _ _ _ us hl => match us, hl with | [_, _, _, _], _ => rfl)⟩
    d_L_table := ⟨_, _, F31, PySem.W.mg_of X G a31, (F31.binds (ps := ["_law_row_here"]) fun _ _ _ _ _ _ us hl => match us, hl with | [_], _ => rfl)⟩
    d_L_told := ⟨_, _, F32, PySem.W.mg_of X G a32, (F32.binds (ps := ["_law_kind", "_law_thing"]) fun _ _ _ _ _ _ us hl => match us, hl with | [_, _], _ => rfl)⟩
    d_L_bad_round := ⟨_, _, F33, PySem.W.mg_of X G a33, (F33.binds (ps := ["_law_draw_here", "_law_row_here"]) fun _ _ _ _ _ _ us hl => match us, hl with | [_, _], _ => rfl)⟩
    d_law := ⟨_, _, F34, PySem.W.mg_of X G a34, (F34.binds (ps := ["_law_script"]) fun _ _ _ _ _ _ us hl => match us, hl with | [_], _ => rfl)⟩
    b_ValueError := PySem.W.mg_none_of X G z_ValueError
    b_abs := PySem.W.mg_none_of X G z_abs
    b_bool := PySem.W.mg_none_of X G z_bool
    b_enumerate := PySem.W.mg_none_of X G z_enumerate
    b_int := PySem.W.mg_none_of X G z_int
    b_isinstance := PySem.W.mg_none_of X G z_isinstance
    b_len := PySem.W.mg_none_of X G z_len
    b_max := PySem.W.mg_none_of X G z_max
    b_min := PySem.W.mg_none_of X G z_min
    b_range := PySem.W.mg_none_of X G z_range
    b_str := PySem.W.mg_none_of X G z_str
    b_sum := PySem.W.mg_none_of X G z_sum
    g_SIGNS := ⟨t_SIGNS, (PySem.W.mg_of X G v_SIGNS).trans (congrArg some (congrArg (fun z => Value.str z t_SIGNS) (by decide +kernel : (".grw" : Str) = ⟨([46, 103, 114, 119] : List Nat).toArray⟩)))⟩
    g_MOST_ROUND := ⟨t_MOST_ROUND, PySem.W.mg_of X G v_MOST_ROUND⟩
    g_DIGITS := ⟨t_DIGITS, (PySem.W.mg_of X G v_DIGITS).trans (congrArg some (congrArg (fun z => Value.str z t_DIGITS) (by decide +kernel : ("0123456789" : Str) = ⟨([48, 49, 50, 51, 52, 53, 54, 55, 56, 57] : List Nat).toArray⟩)))⟩
    g_MOST_OPEN := ⟨t_MOST_OPEN, PySem.W.mg_of X G v_MOST_OPEN⟩
    c_GlimError := PySem.W.mg_of X G g_GlimError
    c_BadRound := PySem.W.mg_of X G g_BadRound
    c_BadText := PySem.W.mg_of X G g_BadText
    c_TooLong := PySem.W.mg_of X G g_TooLong
    o_BadRound := ⟨⟨nm_BadRound, q_BadRound, N_BadRound, bs_BadRound, bm_BadRound, sn_BadRound, sub_BadRound, ab_BadRound, col_BadRound, dd_BadRound, m0_BadRound, m1_BadRound, m2_BadRound, m3_BadRound, m5_BadRound, xl_BadRound, xr_BadRound⟩, xsa_BadRound, xe_BadRound, xty_BadRound, xk_BadRound⟩
    nf_BadRound := xnf_BadRound
    i_BadRound := ⟨f35, _, xi_BadRound, xt_BadRound, F35, (F35.binds (ps := ["self", "number"]) fun _ _ _ _ _ _ us hl => match us, hl with | [_, _], _ => rfl)⟩
    e_BadRound := ⟨xis_BadRound, xga_BadRound, xgg_BadRound, xe_BadRound, xhd_BadRound, xca_BadRound, xsp, xtk, xm_BadRound⟩
    o_BadText := ⟨⟨nm_BadText, q_BadText, N_BadText, bs_BadText, bm_BadText, sn_BadText, sub_BadText, ab_BadText, col_BadText, dd_BadText, m0_BadText, m1_BadText, m2_BadText, m3_BadText, m5_BadText, xl_BadText, xr_BadText⟩, xsa_BadText, xe_BadText, xty_BadText, xk_BadText⟩
    nf_BadText := xnf_BadText
    i_BadText := ⟨f36, _, xi_BadText, xt_BadText, F36, (F36.binds (ps := ["self", "at"]) fun _ _ _ _ _ _ us hl => match us, hl with | [_, _], _ => rfl)⟩
    e_BadText := ⟨xis_BadText, xga_BadText, xgg_BadText, xe_BadText, xhd_BadText, xca_BadText, xsp, xtk, xm_BadText⟩
    o_TooLong := ⟨⟨nm_TooLong, q_TooLong, N_TooLong, bs_TooLong, bm_TooLong, sn_TooLong, sub_TooLong, ab_TooLong, col_TooLong, dd_TooLong, m0_TooLong, m1_TooLong, m2_TooLong, m3_TooLong, m5_TooLong, xl_TooLong, xr_TooLong⟩, xsa_TooLong, xe_TooLong, xty_TooLong, xk_TooLong⟩
    nf_TooLong := xnf_TooLong
    i_TooLong := ⟨f37, _, xi_TooLong, xt_TooLong, F37, (F37.binds (ps := ["self", "number"]) fun _ _ _ _ _ _ us hl => match us, hl with | [_, _], _ => rfl)⟩
    e_TooLong := ⟨xis_TooLong, xga_TooLong, xgg_TooLong, xe_TooLong, xhd_TooLong, xca_TooLong, xsp, xtk, xm_TooLong⟩
    k_BadRound_BadRound := Fg.kit_ref qi_BadRound qt_BadRound qs_BadRound y_BadRound_BadRound
    k_BadRound_BadText := Fg.kit_ref qi_BadText qt_BadText qs_BadText y_BadRound_BadText
    k_BadRound_ValueError := Fg.kit_base (by decide +kernel) y_BadRound_ValueError
    m_BadRound_GlimError := Fg.exm_ref qi_GlimError qt_GlimError qb_GlimError x_BadRound_GlimError }
  refine ⟨PySem.W.fnOf "law" "law" (defArgs s_law) (defBody s_law) (defScope s_law) .none kV34 dc34 pm34 an34 cd34 ct34, fun s v => .of_eq rfl, fun base _ _ => ?_⟩
  exact ok_law_at F34 T
end K06
open PySem PySem.W PyProof.Rows
set_option maxRecDepth 100000 in
set_option maxHeartbeats 0 in
theorem PySem.Challenge.cw_falseglim_k06_whole_shortest_text_holds : PySem.Challenge.rw_falseglim_k06_whole_shortest_text.Holds := by
  w_on; o_law; k_head; (case hw => w_witness2)
  k_fill
  refine L2.walk_of (l := PySem.Challenge.rw_falseglim_k06_whole_shortest_text) (n := 63) (k := 27) (x := "_law_script") (CX := fun _ => L2.CX0) (sp := fun w => Fg.sp1 (K06.p_law _)) rfl (by decide) rfl ⟨rfl, by decide, by decide⟩ (fun w h Y => PySem.W.kIn_of Y) ?F (fun _ _ a ns hl _ hS => ⟨.ref a, rfl, a, ns, rfl, hS, hl, fun _ => rfl⟩) (fun _ _ _ _ _ h => h)
  case F =>
    intro w mg fa h KX G hmg
    refine' K06.all_mk KX G hmg ?a1 ?l1 ?c1 ?k1 ?a2 ?l2 ?c2 ?k2 ?a3 ?l3 ?c3 ?k3 ?a4 ?l4 ?c4 ?k4 ?a5 ?l5 ?c5 ?k5 ?a6 ?l6 ?c6 ?k6 ?a7 ?l7 ?c7 ?k7 ?a8 ?l8 ?c8 ?k8 ?a9 ?l9 ?c9 ?k9 ?a10 ?l10 ?c10 ?k10 ?a11 ?l11 ?c11 ?k11 ?a12 ?l12 ?c12 ?k12 ?a13 ?l13 ?c13 ?k13 ?a14 ?l14 ?c14 ?k14 ?a15 ?l15 ?c15 ?k15 ?a16 ?l16 ?c16 ?k16 ?a17 ?l17 ?c17 ?k17 ?a18 ?l18 ?c18 ?k18 ?a19 ?l19 ?c19 ?k19 ?a20 ?l20 ?c20 ?k20 ?a21 ?l21 ?c21 ?k21 ?a22 ?l22 ?c22 ?k22 ?a23 ?l23 ?c23 ?k23 ?a24 ?l24 ?c24 ?k24 ?a25 ?l25 ?c25 ?k25 ?a26 ?l26 ?c26 ?k26 ?a27 ?l27 ?c27 ?k27 ?a28 ?l28 ?c28 ?k28 ?a29 ?l29 ?c29 ?k29 ?a30 ?l30 ?c30 ?k30 ?a31 ?l31 ?c31 ?k31 ?a32 ?l32 ?c32 ?k32 ?a33 ?l33 ?c33 ?k33 ?a34 ?l34 ?c34 ?k34 ?z_ValueError ?z_abs ?z_bool ?z_enumerate ?z_int ?z_isinstance ?z_len ?z_max ?z_min ?z_range ?z_str ?z_sum ?v_SIGNS ?v_MOST_ROUND ?v_DIGITS ?v_MOST_OPEN ?g_GlimError ?g_BadRound ?g_BadText ?g_TooLong ?xl_BadRound ?xr_BadRound ?xsa_BadRound ?xga_BadRound ?xgg_BadRound ?xnf_BadRound ?xi_BadRound ?xt_BadRound ?xf_BadRound ?xc_BadRound ?xkf_BadRound ?xk_BadRound ?xe_BadRound ?xty_BadRound ?xhd_BadRound ?xis_BadRound ?xca_BadRound ?xm_BadRound ?xl_BadText ?xr_BadText ?xsa_BadText ?xga_BadText ?xgg_BadText ?xnf_BadText ?xi_BadText ?xt_BadText ?xf_BadText ?xc_BadText ?xkf_BadText ?xk_BadText ?xe_BadText ?xty_BadText ?xhd_BadText ?xis_BadText ?xca_BadText ?xm_BadText ?xl_TooLong ?xr_TooLong ?xsa_TooLong ?xga_TooLong ?xgg_TooLong ?xnf_TooLong ?xi_TooLong ?xt_TooLong ?xf_TooLong ?xc_TooLong ?xkf_TooLong ?xk_TooLong ?xe_TooLong ?xty_TooLong ?xhd_TooLong ?xis_TooLong ?xca_TooLong ?xm_TooLong ?xsp ?xtk ?qi_BadRound ?qt_BadRound ?qs_BadRound ?qb_BadRound ?qi_BadText ?qt_BadText ?qs_BadText ?qb_BadText ?qi_GlimError ?qt_GlimError ?qs_GlimError ?qb_GlimError ?y_BadRound_BadRound ?y_BadRound_BadText ?y_BadRound_ValueError ?x_BadRound_GlimError
    (case a1 => k_is)
    (case l1 => k_is)
    (case c1 => k_is)
    (case k1 => k_is)
    (case a2 => k_is)
    (case l2 => k_is)
    (case c2 => k_is)
    (case k2 => k_is)
    (case a3 => k_is)
    (case l3 => k_is)
    (case c3 => k_is)
    (case k3 => k_is)
    (case a4 => k_is)
    (case l4 => k_is)
    (case c4 => k_is)
    (case k4 => k_is)
    (case a5 => k_is)
    (case l5 => k_is)
    (case c5 => k_is)
    (case k5 => k_is)
    (case a6 => k_is)
    (case l6 => k_is)
    (case c6 => k_is)
    (case k6 => k_is)
    (case a7 => k_is)
    (case l7 => k_is)
    (case c7 => k_is)
    (case k7 => k_is)
    (case a8 => k_is)
    (case l8 => k_is)
    (case c8 => k_is)
    (case k8 => k_is)
    (case a9 => k_is)
    (case l9 => k_is)
    (case c9 => k_is)
    (case k9 => k_is)
    (case a10 => k_is)
    (case l10 => k_is)
    (case c10 => k_is)
    (case k10 => k_is)
    (case a11 => k_is)
    (case l11 => k_is)
    (case c11 => k_is)
    (case k11 => k_is)
    (case a12 => k_is)
    (case l12 => k_is)
    (case c12 => k_is)
    (case k12 => k_is)
    (case a13 => k_is)
    (case l13 => k_is)
    (case c13 => k_is)
    (case k13 => k_is)
    (case a14 => k_is)
    (case l14 => k_is)
    (case c14 => k_is)
    (case k14 => k_is)
    (case a15 => k_is)
    (case l15 => k_is)
    (case c15 => k_is)
    (case k15 => k_is)
    (case a16 => k_is)
    (case l16 => k_is)
    (case c16 => k_is)
    (case k16 => k_is)
    (case a17 => k_is)
    (case l17 => k_is)
    (case c17 => k_is)
    (case k17 => k_is)
    (case a18 => k_is)
    (case l18 => k_is)
    (case c18 => k_is)
    (case k18 => k_is)
    (case a19 => k_is)
    (case l19 => k_is)
    (case c19 => k_is)
    (case k19 => k_is)
    (case a20 => k_is)
    (case l20 => k_is)
    (case c20 => k_is)
    (case k20 => k_is)
    (case a21 => k_is)
    (case l21 => k_is)
    (case c21 => k_is)
    (case k21 => k_is)
    (case a22 => k_is)
    (case l22 => k_is)
    (case c22 => k_is)
    (case k22 => k_is)
    (case a23 => k_is)
    (case l23 => k_is)
    (case c23 => k_is)
    (case k23 => k_is)
    (case a24 => k_is)
    (case l24 => k_is)
    (case c24 => k_is)
    (case k24 => k_is)
    (case a25 => k_is)
    (case l25 => k_is)
    (case c25 => k_is)
    (case k25 => k_is)
    (case a26 => k_is)
    (case l26 => k_is)
    (case c26 => k_is)
    (case k26 => k_is)
    (case a27 => k_is)
    (case l27 => k_is)
    (case c27 => k_is)
    (case k27 => k_is)
    (case a28 => k_is)
    (case l28 => k_is)
    (case c28 => k_is)
    (case k28 => k_is)
    (case a29 => k_is)
    (case l29 => k_is)
    (case c29 => k_is)
    (case k29 => k_is)
    (case a30 => k_is)
    (case l30 => k_is)
    (case c30 => k_is)
    (case k30 => k_is)
    (case a31 => k_is)
    (case l31 => k_is)
    (case c31 => k_is)
    (case k31 => k_is)
    (case a32 => k_is)
    (case l32 => k_is)
    (case c32 => k_is)
    (case k32 => k_is)
    (case a33 => k_is)
    (case l33 => k_is)
    (case c33 => k_is)
    (case k33 => k_is)
    (case a34 => k_is)
    (case l34 => k_is)
    (case c34 => k_is)
    (case k34 => k_is)
    (case z_ValueError => k_is)
    (case z_abs => k_is)
    (case z_bool => k_is)
    (case z_enumerate => k_is)
    (case z_int => k_is)
    (case z_isinstance => k_is)
    (case z_len => k_is)
    (case z_max => k_is)
    (case z_min => k_is)
    (case z_range => k_is)
    (case z_str => k_is)
    (case z_sum => k_is)
    (case v_SIGNS => k_is)
    (case v_MOST_ROUND => k_is)
    (case v_DIGITS => k_is)
    (case v_MOST_OPEN => k_is)
    (case g_GlimError => k_is)
    (case g_BadRound => k_is)
    (case g_BadText => k_is)
    (case g_TooLong => k_is)
    (case xl_BadRound => k_is)
    (case xr_BadRound => first | rfl | k_is | decide +kernel)
    (case xsa_BadRound => k_is)
    (case xga_BadRound => k_is)
    (case xgg_BadRound => k_is)
    (case xnf_BadRound => k_is)
    (case xi_BadRound => k_is)
    (case xt_BadRound => k_is)
    (case xf_BadRound => k_is)
    (case xc_BadRound => k_is)
    (case xkf_BadRound => k_is)
    (case xk_BadRound => k_is)
    (case xe_BadRound => k_is)
    (case xty_BadRound => k_is)
    (case xhd_BadRound => k_is)
    (case xis_BadRound => k_is)
    (case xca_BadRound => k_is)
    (case xm_BadRound => k_is)
    (case xl_BadText => k_is)
    (case xr_BadText => first | rfl | k_is | decide +kernel)
    (case xsa_BadText => k_is)
    (case xga_BadText => k_is)
    (case xgg_BadText => k_is)
    (case xnf_BadText => k_is)
    (case xi_BadText => k_is)
    (case xt_BadText => k_is)
    (case xf_BadText => k_is)
    (case xc_BadText => k_is)
    (case xkf_BadText => k_is)
    (case xk_BadText => k_is)
    (case xe_BadText => k_is)
    (case xty_BadText => k_is)
    (case xhd_BadText => k_is)
    (case xis_BadText => k_is)
    (case xca_BadText => k_is)
    (case xm_BadText => k_is)
    (case xl_TooLong => k_is)
    (case xr_TooLong => first | rfl | k_is | decide +kernel)
    (case xsa_TooLong => k_is)
    (case xga_TooLong => k_is)
    (case xgg_TooLong => k_is)
    (case xnf_TooLong => k_is)
    (case xi_TooLong => k_is)
    (case xt_TooLong => k_is)
    (case xf_TooLong => k_is)
    (case xc_TooLong => k_is)
    (case xkf_TooLong => k_is)
    (case xk_TooLong => k_is)
    (case xe_TooLong => k_is)
    (case xty_TooLong => k_is)
    (case xhd_TooLong => k_is)
    (case xis_TooLong => k_is)
    (case xca_TooLong => k_is)
    (case xm_TooLong => k_is)
    (case xsp => k_is)
    (case xtk => k_is)
    (case qi_BadRound => k_is)
    (case qt_BadRound => k_is)
    (case qs_BadRound => k_is)
    (case qb_BadRound => k_is)
    (case qi_BadText => k_is)
    (case qt_BadText => k_is)
    (case qs_BadText => k_is)
    (case qb_BadText => k_is)
    (case qi_GlimError => k_is)
    (case qt_GlimError => k_is)
    (case qs_GlimError => k_is)
    (case qb_GlimError => k_is)
    (case y_BadRound_BadRound => k_is)
    (case y_BadRound_BadText => k_is)
    (case y_BadRound_ValueError => k_is)
    (case x_BadRound_GlimError => k_is)
