import PyProof.Rows.All
import Wide.All
import OpenK.AllK
import Wide.FinOn
import HandS.ForMost
import HandS.Exc
import HandS.ExcOwn
import HandS.WordsExc
import HandS.TryOnly
import HandS.ExcInit
import HandS.ExcField
import HandS.ExcIs
import HandS.IsInst
import HandS.TryMany
import HandS.Wide
import HandS.Steps
import HandS.TupAny
import HandS.Walk
import HandS.Evl
import KE.GoesEnum
import KE.KExcIs
import HandS.Conv
import PySem.Challenge.RW_falseglim_k05_bad_rhythm_texts
set_option Elab.async false
set_option linter.all false
set_option maxRecDepth 100000
set_option maxHeartbeats 4000000
/-! Rules that ask nothing of the kinds: one rule for each sign of Python, its reading told by the values. -/
namespace Fg
open PySem PySem.Spec PyProof.Rows L2

/-- a text by its signs -/
def S (l : List Nat) : V := .str ⟨l.toArray⟩
theorem S_inj {l m : List Nat} : S l = S m ↔ l = m := by
  constructor
  · intro h
    have h1 := V.str.inj h
    have h2 := congrArg PySem.Str.cps h1
    exact List.toArray_inj h2
  · rintro rfl; rfl
theorem S_dec {l m : List Nat} : decide (S l = S m) = decide (l = m) := by
  rw [Bool.eq_iff_iff]; simp [S_inj]
theorem str_len (l : List Nat) : (⟨l.toArray⟩ : Str).length = l.length := by
  show l.toArray.size = l.length
  simp
theorem pe_S {X : Cx} {x : Str} {j : Nat} {pos : Pos} (l : List Nat) (h : x = ⟨l.toArray⟩ := by decide +kernel) : PE X (.Constant (.str x) j pos) (tC (S l)) := by
  subst h
  exact pe_str

/-! ### either of two readings -/
def or2 (r r' : R2) : R2 := fun x y H Q => r x y H Q ∨ r' x y H Q
theorem or2_op {X : Cx} {f : Value → Value → Sem Value} {r r' : R2} (h : OpR X f r) (h' : OpR X f r') : OpR X f (or2 r r') := by
  intro pins s σ H x y v u Q I rx ry q
  rcases q with q | q
  · exact h pins s σ H x y v u Q I rx ry q
  · exact h' pins s σ H x y v u Q I rx ry q
theorem or2_ix {X : Cx} {r r' : R2} (h : IxR X r) (h' : IxR X r') : IxR X (or2 r r') := by
  intro value slice pins s σ H x y v u Q I rx ry q hs
  rcases q with q | q
  · exact h value slice pins s σ H x y v u Q I rx ry q hs
  · exact h' value slice pins s σ H x y v u Q I rx ry q hs
abbrev RC := List V → Hp → VK → Prop
def orC (r r' : RC) : RC := fun xs H Q => r xs H Q ∨ r' xs H Q
theorem orC_call {X : Cx} {f : Value} {r r' : RC} (h : CallR X f r) (h' : CallR X f r') : CallR X f (orC r r') := by
  intro pins s σ H xs us Q I rx q
  rcases q with q | q
  · exact h pins s σ H xs us Q I rx q
  · exact h' pins s σ H xs us Q I rx q
abbrev RS := V → Option Int → Option Int → Hp → VK → Prop
def orS (r r' : RS) : RS := fun x lo hi H Q => r x lo hi H Q ∨ r' x lo hi H Q
theorem orS_sl {X : Cx} {r r' : RS} (h : SlR X r) (h' : SlR X r') : SlR X (orS r r') := by
  intro pins s σ H x v vl vu lo hi sl Q I rx hs pl pu q
  rcases q with q | q
  · exact h pins s σ H x v vl vu lo hi sl Q I rx hs pl pu q
  · exact h' pins s σ H x v vl vu lo hi sl Q I rx hs pl pu q

/-! ### + - * // % ** -/
def rAddI : R2 := rI0 fun i j => .int (i + j)
def rAddT : R2 := fun x y H Q => ∃ i j, x = .str i ∧ y = .str j ∧ i.length + j.length ≤ sizeLine ∧ Q (.str (i ++ j)) H
def addP (K : PySem.W.Frag) : R2 := or2 rAddI (or2 rAddT (or2 rCat (rCatA K)))
theorem op_addP {X : Cx} : OpR X (binaryOp .Add) (addP X.K) := or2_op op_add (or2_op op_add_str (or2_op op_cat op_catA))
def subP : R2 := rI0 fun i j => .int (i - j)
theorem op_subP {X : Cx} : OpR X (binaryOp .Sub) subP := op_sub
/-- a text so many times -/
def rRepS : R2 := fun x y H Q => ∃ (l : List Nat) (n : Nat), x = S l ∧ y = .int (n : Int) ∧ l.length * n ≤ 100000 ∧ n ≤ 100000 ∧ Q (S (List.replicate n l).flatten) H
theorem foldl_app (l : List Nat) : ∀ (n : Nat) (acc : List Nat), (List.replicate n l.toArray).foldl (· ++ ·) acc.toArray = (acc ++ (List.replicate n l).flatten).toArray
  | 0, acc => by simp
  | n + 1, acc => by
    rw [List.replicate_succ, List.foldl_cons, List.append_toArray, foldl_app l n (acc ++ l), List.replicate_succ, List.flatten_cons, List.append_assoc]
theorem op_repS {X : Cx} : OpR X (binaryOp .Mult) rRepS := by
  intro pins s σ H x y v u Q I rx ry h
  obtain ⟨l, n, rfl, rfl, hz, hn, q⟩ := h
  obtain ⟨t, rfl⟩ := rx
  obtain ⟨t', rfl⟩ := ry
  have hl := str_len l
  have hs : sizeLine = 16777216 := sizeLine_eq
  refine PySem.P.mul_str ?_ (fun h1 h2 => ?_) (fun h1 h2 => ?_) ?_
  · rw [decide_eq_false (by omega), decide_eq_false (by omega)]; rfl
  · rw [hl]
    have hn0 : (0 : Int) < (n : Int) := by omega
    have : ((l.length : Int)) ≤ (2 ^ 63 - 1) / (n : Int) := by
      rw [Int.le_ediv_iff_mul_le hn0]
      have : ((l.length * n : Nat) : Int) ≤ 100000 := by omega
      rw [Int.natCast_mul] at this
      omega
    omega
  · rw [hl, Int.toNat_natCast]
    unfold PySem.Builtin.Str.tooLong
    rw [decide_eq_false]
    omega
  · by_cases h1 : (n : Int) < 1
    · rw [if_pos h1]
      have e : n = 0 := by omega
      subst e
      exact ⟨by decide, S [], H, I.tok _, ⟨_, rfl⟩, by simpa using q⟩
    · rw [if_neg h1]
      by_cases h2 : ((n : Int) == 1 || (⟨l.toArray⟩ : Str).length == 0) = true
      · rw [if_pos h2]
        have e : (List.replicate n l).flatten = l := by
          rw [hl, Bool.or_eq_true, beq_iff_eq, beq_iff_eq] at h2
          rcases h2 with h2 | h2
          · have e : n = 1 := by omega
            subst e; simp
          · have e : l = [] := List.length_eq_zero_iff.mp h2
            subst e; simp
        rw [e] at q
        exact ⟨S l, H, I, ⟨_, rfl⟩, q⟩
      · rw [if_neg h2]
        have e : (⟨(List.replicate ((n : Int)).toNat l.toArray).foldl (· ++ ·) #[]⟩ : Str) = ⟨((List.replicate n l).flatten).toArray⟩ := by
          rw [Int.toNat_natCast]
          have := foldl_app l n []
          simpa using this
        refine ⟨?_, S (List.replicate n l).flatten, H, I.tok _, ⟨_, by rw [e]⟩, q⟩
        rw [e, str_len]
        simp only [List.length_flatten, List.map_replicate, List.sum_replicate_nat]
        rw [Nat.mul_comm]
        omega
def rMulI : R2 := rI (fun i j => IntMulOk i j) fun i j => .int (i * j)
theorem op_mulI {X : Cx} : OpR X (binaryOp .Mult) rMulI := opI fun _ _ _ _ _ _ _ hc q => mul_int q hc
def mulP : R2 := or2 rMulI (or2 rRepS rRep)
theorem op_mulP {X : Cx} : OpR X (binaryOp .Mult) mulP := or2_op op_mulI (or2_op op_repS op_rep)
def modP : R2 := rI (fun _ j => 0 < j) fun i j => .int (i % j)
theorem op_modP {X : Cx} : OpR X (binaryOp .Mod) modP := op_mod
def fdivP : R2 := rI CDivW fun i j => .int (i / j)
theorem op_fdivP {X : Cx} : OpR X (binaryOp .FloorDiv) fdivP := op_fdivW
/-- i ** j, the result below some hundred million bits -/
def powP : R2 := rI (fun i j => 0 ≤ j ∧ (Builtin.Int.intBits i : Int) * j ≤ 2 ^ 27) fun i j => .int (i ^ j.toNat)
theorem op_powP {X : Cx} : OpR X (binaryOp .Pow) powP := opI fun _ _ _ _ _ _ _ hc q => pow_int hc.1 hc.2 q
/-! ### comparisons -/
def eqP (K : PySem.W.Frag) : R2 := or2 rEq (rEqD K)
theorem op_eqP {X : Cx} (hu : X.A.units + 64 < cLine) : OpR X (compareOp .Eq) (eqP X.K) := or2_op op_eq (op_eqD hu)
def neP (K : PySem.W.Frag) : R2 := or2 rNe (rNeD K)
theorem op_neP {X : Cx} (hu : X.A.units + 64 < cLine) : OpR X (compareOp .NotEq) (neP X.K) := or2_op op_ne (op_neD hu)
def ltP : R2 := or2 (rI0 fun i j => .bl (decide (i < j))) fun x y H Q => ∃ i j, x = .str i ∧ y = .str j ∧ Q (.bl (decide (i.cps.toList < j.cps.toList))) H
theorem op_ltP {X : Cx} : OpR X (compareOp .Lt) ltP := or2_op op_lt op_lt_str
def leP : R2 := rI0 fun i j => .bl (decide (i ≤ j))
theorem op_leP {X : Cx} : OpR X (compareOp .LtE) leP := op_le
def gtP : R2 := rI0 fun i j => .bl (decide (j < i))
theorem op_gtP {X : Cx} : OpR X (compareOp .Gt) gtP := op_gt
def geP : R2 := rI0 fun i j => .bl (decide (j ≤ i))
theorem op_geP {X : Cx} : OpR X (compareOp .GtE) geP := op_ge
def isP : R2 := fun x y H Q => y = .non ∧ Q (.bl (decide (x = .non))) H
theorem op_isP {X : Cx} : OpR X (compareOp .Is) isP := op_isN
def isNotP : R2 := fun x y H Q => y = .non ∧ Q (.bl (!decide (x = .non))) H
theorem op_isNotP {X : Cx} : OpR X (compareOp .IsNot) isNotP := op_notN
def rInSg : R2 := fun x y H Q => ∃ (c : Nat) (z : Str), x = .str ⟨#[c]⟩ ∧ y = .str z ∧ Q (.bl (decide (c ∈ z.cps.toList))) H
def rNotInSg : R2 := fun x y H Q => ∃ (c : Nat) (z : Str), x = .str ⟨#[c]⟩ ∧ y = .str z ∧ Q (.bl (!decide (c ∈ z.cps.toList))) H
def inP (K : PySem.W.Frag) : R2 := or2 rInSg (rIn K false)
theorem op_inP {X : Cx} : OpR X (compareOp .In) (inP X.K) := or2_op op_in_sign op_in_seq
def notInP (K : PySem.W.Frag) : R2 := or2 rNotInSg (rIn K true)
theorem op_notInP {X : Cx} : OpR X (compareOp .NotIn) (notInP X.K) := or2_op op_notIn_sign op_notIn_seq
/-! ### subscripts, slices -/
def ixP (K : PySem.W.Frag) : R2 := or2 (rIxL K) (or2 (rIxT K) rIxS)
theorem ix_P {X : Cx} : IxR X (ixP X.K) := or2_ix ix_list (or2_ix ix_tup ix_str)
def slP (K : PySem.W.Frag) : RS := orS (rSlL K) (orS (rSlA K) rSlS)
theorem sl_P {X : Cx} : SlR X (slP X.K) := orS_sl sl_list (orS_sl sl_tupA sl_str)
/-! ### what is walked -/
def iAny (K : PySem.W.Frag) (te : TE) : TI := fun σ H R => te σ H fun x H1 => (∃ a xs, x = .ref a ∧ SqL K H1 a xs ∧ R (Itl K a) H1) ∨ (∃ a xs, x = .ref a ∧ SqT K H1 a xs ∧ R (Itt K a) H1) ∨ (∃ z, x = .str z ∧ R (Its z) H1)
section
variable {X : Cx} {tg e : Expr} {te : TE}
theorem pi_any (he : PE X e te) : PI X tg e (iAny X.K te) := by
  refine ⟨fun pins s σ H R I h => thn (he.run pins s σ H _ I h) fun v s1 ⟨x, H1, J, r1, q1⟩ => ?_⟩
  rcases q1 with ⟨a, xs, rfl, hq, q⟩ | ⟨a, xs, rfl, hq, q⟩ | ⟨z, rfl, q⟩
  · cases r1
    obtain ⟨its, rv, pl, hz⟩ := J.list hq
    exact wpAny_pyIter_list pl.isList (pi_one (tk := s1.toks) J _ (turn_list a _) ⟨_, Heap.get?_push_size _ rfl, rfl, rfl⟩ q)
  · cases r1
    obtain ⟨its, rv, pl, hz⟩ := J.tuple hq
    exact wpAny_pyIter_tuple (show s1.heap.IsTuple a its.toArray from pl) (pi_one (tk := s1.toks) J _ (turn_tuple a _) ⟨_, Heap.get?_push_size _ rfl, rfl, rfl⟩ q)
  · obtain ⟨t, rfl⟩ := r1
    cases hw : z.cps.all (· < 128)
    · exact wpAny_pyIter_wide hw (pi_one (tk := s1.toks) J _ (turn_str _ z t "str_iterator" (.inr rfl)) ⟨_, Heap.get?_push_size _ rfl, rfl, rfl⟩ q)
    · exact wpAny_pyIter_ascii hw (pi_one (tk := s1.toks) J _ (turn_str _ z t "str_ascii_iterator" (.inl rfl)) ⟨_, Heap.get?_push_size _ rfl, rfl, rfl⟩ q)
end
/-! ### enumerate(a text) -/
/-- the signs of z, each in a new pair with its place -/
def Ites (z : Str) : It :=
  ⟨fun i _ => i < z.cps.size, fun i H v H' => ∃ T c, v = .ref T ∧ H T = none ∧ H' = upd H T (.tup [.int (i : Nat), .str ⟨#[c]⟩]) ∧ z.cps[i]? = some c, fun i _ => i = z.cps.size⟩
theorem turn_enumS {P : Program} {w : World} {K : PySem.W.Frag} {elts : List Expr} {kk : Nat} {tpos : Pos} (z : Str) (t : Tok) (e it : Addr) :
    Turn P w K (.Tuple elts kk tpos) (Ites z) [e, it] e (fun i h => (∃ old, IsEnum h e it ((i : Nat) : Int) old) ∧ h.IsStrIter it (strIterType z) z t i ∧ e ≠ it) where
  mem := List.mem_cons_self ..
  obj := fun i h st b hb => by
    obtain ⟨⟨old, hE⟩, ⟨o, hO, hC, hD⟩, _⟩ := st
    rcases List.mem_cons.mp hb with rfl | hb
    · exact ⟨_, hE, fun v q => nomatch q⟩
    · rw [List.mem_singleton.mp hb]
      exact ⟨o, hO, fun v q => by rw [hD] at q; cases q⟩
  keep := fun i h h' st k => by
    obtain ⟨⟨old, hE⟩, ⟨o, hO, r⟩, hne⟩ := st
    exact ⟨⟨old, k e (by simp) _ hE⟩, ⟨o, k it (by simp) _ hO, r⟩, hne⟩
  item := by
    intro X hP hW hK hc i pins s σ H E I hf st hg
    subst hP hW hK
    obtain ⟨⟨old, hE⟩, hS, hne⟩ := st
    have le : e < s.heap.objs.size := Heap.lt_size hE
    have li : it < s.heap.objs.size := by obtain ⟨_, q, _⟩ := hS; exact Heap.lt_size q
    have D := Draws.text (prog := X.prog) (w := X.w) (A := X.A.in1) (I.ok.hd hc) it z t
    refine wpAny_pyNext_enum_itemC D hE hS hg hne (by simp [hne]) fun x h' tk hx hO hS' hT hsz hk => ?_
    obtain ⟨c, u, hcx, rfl⟩ := hx
    refine ⟨_, rfl, wpAny_letOwnedTupleGo_enum (s := { s with heap := h', toks := tk + 1 }) hO fun h2 hE2 sb => ?_⟩
    have T2 : h2.get? s.heap.objs.size = some { cls := .type "tuple", data := .seq #[.int i tk, .str ⟨#[c]⟩ u] } := (sb.2 _ (Nat.ne_of_gt le)).trans hT
    have new : ObjOk X.prog X.w (upd H s.heap.objs.size (.tup [.int (i : Nat), .str ⟨#[c]⟩])) h2 s.heap.objs.size (.tup [.int (i : Nat), .str ⟨#[c]⟩]) :=
      ⟨by show 2 ≤ sizeLine; decide, [.int i tk, .str ⟨#[c]⟩ u], .cons ⟨_, rfl⟩ (.cons ⟨_, rfl⟩ .nil), ⟨_, T2, rfl, _, rfl⟩⟩
    have J : Inv X pins σ (upd H s.heap.objs.size (.tup [.int (i : Nat), .str ⟨#[c]⟩])) { s with heap := h2, toks := tk + 1 } :=
      I.turnedNew (ch := [e, it]) (fun b ob hb q => (sb.2 b (fun y => hb (by simp [y]))).trans (hk b ob (fun y => hb (by simp [y])) (fun y => hb (by simp [y])) q)) hf (Nat.le_refl _) new
    refine ⟨.ref s.heap.objs.size, _, J, rfl, ⟨_, c, rfl, I.hok.fresh (Nat.le_refl _), rfl, hcx⟩, ⟨⟨.str ⟨#[c]⟩ u, ?_⟩, ?_, hne⟩, fun b hb => ?_⟩
    · have e1 : ((i + 1 : Nat) : Int) = (i : Int) + 1 := by omega
      rw [e1]
      exact hE2
    · obtain ⟨o, ho, r⟩ := hS'
      exact ⟨o, (sb.2 it (Ne.symm hne)).trans ho, r⟩
    · have lb : b < s.heap.objs.size := by
        rcases List.mem_cons.mp hb with rfl | hb
        · exact le
        · rw [List.mem_singleton.mp hb]; exact li
      rw [upd_ne (Nat.ne_of_lt lb)]
      exact (hf b hb).1
  done := by
    intro X hP hW hK hc i pins s σ H E I hf st hg
    subst hP hW hK
    obtain ⟨⟨old, hE⟩, hS, hne⟩ := st
    obtain ⟨f0, f1, f2, f3, f4, f5⟩ := hf it (by simp)
    have D := Draws.text (prog := X.prog) (w := X.w) (A := X.A.in1) (I.ok.hd hc) it z t
    have hg' : i = z.cps.size := hg
    subst hg'
    exact wpAny_pyNext_enum_endD D hE hS fun h' eb => ⟨rfl, I.turned (t' := s.toks) (fun b o hb q => eb b o hb q) f0 f1 f3 f4 f5⟩
  self := fun A i s Q E st h => by
    obtain ⟨⟨_, hE⟩, _⟩ := st
    exact wpAny_pyIter_enum hE h
def iEnumP (K : PySem.W.Frag) (ta : TA) : TI := fun σ H R => ta σ H fun vs H1 => (∃ a xs, vs = [.ref a] ∧ SqL K H1 a xs ∧ R (Ite K a) H1) ∨ (∃ z, vs = [.str z] ∧ R (Ites z) H1)
theorem pi_enumP {X : Cx} {e : Expr} {ta : TA} {p pos tpos : Pos} {elts : List Expr} {kk : Nat} (hg : Gl X "enumerate") (hm : X.mg "enumerate" = none) (ha : PA X [e] ta) (hs : starEach [e] X.env = [(false, eval e X.env)] := by rfl) :
    PI X (.Tuple elts kk tpos) (.Call (.Name "enumerate" p) [e] [] pos) (iEnumP X.K ta) := by
  refine ⟨fun pins s σ H R I h => Call_ (ld_blt I hg hm boot_enumerate (PyProof.Rows.callWith_type1 (thn (ha.run pos pins s σ H _ I h) fun us s1 ⟨vs, H1, J, r1, q1⟩ => ?_) hs rfl))⟩
  have far : ∀ b ∈ [s1.heap.objs.size + 1, s1.heap.objs.size], s1.heap.objs.size ≤ b := fun b hb => by
    rcases List.mem_cons.mp hb with rfl | hb
    · exact Nat.le_succ _
    · rw [List.mem_singleton.mp hb]; exact Nat.le_refl _
  rcases q1 with ⟨a, xs, rfl, hq, q⟩ | ⟨z, rfl, q⟩
  · cases r1 with
    | cons r rr =>
      cases rr
      cases r
      obtain ⟨its, rv, pl, hz⟩ := J.list hq
      refine call_enumerate_list pl.isList fun h' hE hit hsz hk => wpAny_pyIter_enum hE ?_
      have J2 : Inv X pins σ H1 { s1 with heap := h' } := J.kept (t' := s1.toks) hk
      exact ⟨_, _, _, _, H1, rfl, J2, turn_enum a (s1.heap.objs.size + 1) s1.heap.objs.size, ⟨⟨.none, hE⟩, hit, Nat.succ_ne_self _⟩, fun b hb => J.fpOk (far b hb) (J.hok.fresh (far b hb)), q⟩
  · cases r1 with
    | cons r rr =>
      cases rr
      obtain ⟨t, rfl⟩ := r
      refine call_enumerate_str fun h' hE hit hsz hk => wpAny_pyIter_enum hE ?_
      have J2 : Inv X pins σ H1 { s1 with heap := h' } := J.kept (t' := s1.toks) hk
      exact ⟨_, _, _, _, H1, rfl, J2, turn_enumS z t (s1.heap.objs.size + 1) s1.heap.objs.size, ⟨⟨.none, hE⟩, hit, Nat.succ_ne_self _⟩, fun b hb => J.fpOk (far b hb) (J.hok.fresh (far b hb)), q⟩
end Fg
/-! Steps: what a reading asks, one sign of Python at a time. -/
namespace Fg
open PySem PySem.Spec PyProof.Rows L2
section
variable {K : PySem.W.Frag} {σ : L2.St} {H : Hp} {Q : VK} {D : Ends} {ta tb tc te : TE} {t u : TT} {i j : Nat} {v x y : V} {tr tq : TS} {QB : Bool → Hp → Prop} {QL : List V → Hp → Prop} {Qs : L2.St → Hp → Prop} {tl : TA}
theorem i_var (h : σ[i]? = some (some v)) (q : Q v H) : tVar i σ H Q := ⟨v, h, q⟩
theorem i_c (q : Q v H) : tC v σ H Q := q
theorem i_seq (q : tr { D with nx := tq D } σ H) : tSeq tr tq D σ H := q
theorem i_next (q : D.nx σ H) : tNext D σ H := q
theorem i_brk (q : D.bk σ H) : tBreak D σ H := q
theorem i_cont (q : D.ct σ H) : tCont D σ H := q
theorem i_asg {g : TG} (q : te σ H fun x H1 => g x σ H1 D.nx) : tAsg te g D σ H := q
theorem i_gname (q : Qs (σ.set i (some v)) H) : gName i v σ H Qs := q
theorem i_gname' {σ' : L2.St} (e : σ.set i (some v) = σ') (q : Qs σ' H) : gName i v σ H Qs := by
  subst e; exact q
theorem i_ret (q : te σ H D.rt) : tRet te D σ H := q
theorem i_retN (q : D.rt .non H) : tRetN D σ H := q
theorem i_drop (q : te σ H fun _ H1 => D.nx σ H1) : tDrop te D σ H := q
theorem i_ifS (q : t σ H fun b H1 => if b = true then tr D σ H1 else tq D σ H1) : tIfS t tr tq D σ H := q
theorem i_test (q : te σ H fun x H' => ∃ k, x = .bl k ∧ QB k H') : tTest te σ H QB := q
theorem i_B (q : te σ H fun x H' => ∃ k, x = .bl k ∧ QB k H') : tB te σ H QB := q
theorem i_exbl {P : Bool → Prop} {b : Bool} (q : P b) : ∃ k, V.bl b = .bl k ∧ P k := ⟨b, rfl, q⟩
theorem i_and (q : t σ H fun c H1 => if c = true then u σ H1 QB else QB false H1) : tAnd t u σ H QB := q
theorem i_or (q : t σ H fun c H1 => if c = true then QB true H1 else u σ H1 QB) : tOr t u σ H QB := q
theorem i_not (q : t σ H fun c H1 => QB (!c) H1) : tNot t σ H QB := q
theorem i_andV (q : ta σ H fun x H1 => ∃ c, x = .bl c ∧ if c = true then tb σ H1 Q else Q (.bl false) H1) : tAndV ta tb σ H Q := q
theorem i_orV (q : ta σ H fun x H1 => ∃ c, x = .bl c ∧ if c = true then Q (.bl true) H1 else tb σ H1 Q) : tOrV ta tb σ H Q := q
theorem i_notV (q : ta σ H fun x H1 => ∃ c, x = .bl c ∧ Q (.bl (!c)) H1) : tNotV ta σ H Q := q
theorem i_ifE (q : t σ H fun c H1 => if c = true then ta σ H1 Q else tb σ H1 Q) : tIf t ta tb σ H Q := q
theorem i_op {r : R2} (q : ta σ H fun x H1 => tb σ H1 fun y H2 => r x y H2 Q) : tOp r ta tb σ H Q := q
theorem i_un {r : V → Hp → VK → Prop} (q : ta σ H fun x H1 => r x H1 Q) : tUn r ta σ H Q := q
theorem i_neg {k : Int} (q : Q (.int (-k)) H) : rU (fun i => .int (-i)) (.int k) H Q := ⟨k, rfl, q⟩
theorem i_chain {r r' : R2} (q : ta σ H fun x H1 => tb σ H1 fun y H2 => r x y H2 fun z H3 => ∃ k, z = .bl k ∧ (if k = true then tc σ H3 fun w' H4 => r' y w' H4 Q else Q (.bl false) H3)) : tChain r r' ta tb tc σ H Q := q
theorem i_nil (q : QL [] H) : tNil σ H QL := q
theorem i_cons (q : te σ H fun x H1 => tl σ H1 fun xs H2 => QL (x :: xs) H2) : tCons te tl σ H QL := q
theorem i_call {sp : Sp} {E : XK} (q : tl σ H fun vs H1 => sp (vs ++ []) H1 Q E) : tCall sp [] E tl σ H Q := q
theorem i_callS {sp : Sp} {E : L2.St → XK} (q : tl σ H fun vs H1 => sp vs H1 Q (E σ)) : tCallS sp E tl σ H Q := q
theorem i_cb {r : RC} (q : tl σ H fun vs H1 => r vs H1 Q) : tCB r tl σ H Q := q
theorem i_tup (q : tl σ H fun xs H1 => xs.length ≤ sizeLine ∧ ∀ p, H1 p = none → Q (.ref p) (upd H1 p (.tup xs))) : tTup tl σ H Q := q
theorem i_lst (q : tl σ H fun xs H1 => xs.length ≤ sizeLine ∧ ∀ p, H1 p = none → Q (.ref p) (upd H1 p (.lst xs))) : tLst tl σ H Q := q
theorem i_new {n : Nat} {P : Addr → Prop} (h : n ≤ 100000) (q : ∀ p, H p = none → P p) : n ≤ sizeLine ∧ ∀ p, H p = none → P p := ⟨Nat.le_trans h (by decide), q⟩
theorem i_sl {r : RS} {t1 t2 : TO} (q : te σ H fun x H1 => t1 σ H1 fun l H2 => t2 σ H2 fun u H3 => r x l u H3 Q) : tSl r te t1 t2 σ H Q := q
theorem i_nopart {QO : Option Int → Hp → Prop} (q : QO none H) : tNoPart σ H QO := q
theorem i_part {QO : Option Int → Hp → Prop} (q : te σ H fun x H1 => ∃ i, x = .int i ∧ QO (some i) H1) : tPart te σ H QO := q
theorem i_exint {P : Int → Prop} {k : Int} (q : P k) : ∃ i, V.int k = .int i ∧ P i := ⟨k, rfl, q⟩
theorem i_dec {c : Prop} [Decidable c] {A B : Prop} (h1 : c → A) (h2 : ¬ c → B) : if decide c = true then A else B := by
  by_cases h : c
  · rw [decide_eq_true h, if_pos rfl]; exact h1 h
  · rw [decide_eq_false h, if_neg (by decide)]; exact h2 h
theorem i_decN {c : Prop} [Decidable c] {A B : Prop} (h1 : ¬ c → A) (h2 : c → B) : if (!decide c) = true then A else B := by
  by_cases h : c
  · rw [decide_eq_true h]; exact h2 h
  · rw [decide_eq_false h]; exact h1 h
theorem i_bool {b : Bool} {A B : Prop} (h1 : b = true → A) (h2 : b = false → B) : if b = true then A else B := by
  cases b with
  | true => exact h1 rfl
  | false => exact h2 rfl
theorem i_tt {A B : Prop} (h : A) : if true = true then A else B := h
theorem i_ff {A B : Prop} (h : B) : if false = true then A else B := h
theorem i_nott {A B : Prop} (h : B) : if (!true) = true then A else B := h
theorem i_notf {A B : Prop} (h : A) : if (!false) = true then A else B := h
/-! values -/
variable {a b : Int} {l m : List Nat}
theorem i_add_int (q : Q (.int (a + b)) H) : addP K (.int a) (.int b) H Q := .inl ⟨a, b, rfl, rfl, q⟩
theorem i_add_str (h : l.length + m.length ≤ 100000) (q : Q (S (l ++ m)) H) : addP K (S l) (S m) H Q := by
  refine .inr (.inl ⟨⟨l.toArray⟩, ⟨m.toArray⟩, rfl, rfl, ?_, ?_⟩)
  · rw [str_len, str_len]; exact Nat.le_trans h (by decide)
  · have e : (⟨l.toArray⟩ : Str) ++ ⟨m.toArray⟩ = ⟨(l ++ m).toArray⟩ := by
      show (⟨l.toArray ++ m.toArray⟩ : Str) = _
      rw [List.append_toArray]
    rw [e]; exact q
theorem i_sub (q : Q (.int (a - b)) H) : subP (.int a) (.int b) H Q := ⟨a, b, rfl, rfl, q⟩
theorem i_mul_int (h : IntMulOk a b) (q : Q (.int (a * b)) H) : mulP (.int a) (.int b) H Q := .inl ⟨a, b, rfl, rfl, h, q⟩
theorem i_mul_str {n : Nat} (h : l.length * n ≤ 100000 ∧ n ≤ 100000) (q : Q (S (List.replicate n l).flatten) H) : mulP (S l) (.int (n : Int)) H Q := .inr (.inl ⟨l, n, rfl, rfl, h.1, h.2, q⟩)
theorem i_mul_strI {k : Int} (h0 : 0 ≤ k) (h : l.length * k.toNat ≤ 100000 ∧ k.toNat ≤ 100000) (q : Q (S (List.replicate k.toNat l).flatten) H) : mulP (S l) (.int k) H Q := by
  obtain ⟨n, rfl⟩ : ∃ n : Nat, k = (n : Int) := ⟨k.toNat, by omega⟩
  rw [Int.toNat_natCast] at h q
  exact i_mul_str h q
theorem cdiv_small {a b : Int} (h : 0 < b) (h2 : b < 2 ^ 62) : CDivW a b := wide_div (b := 62) h (by omega) (by decide) (by decide)
theorem mul_small {a b : Int} (h : -(2 ^ 64) < a) (h2 : a < 2 ^ 64) : IntMulOk a b := CMul.ok (.inl ⟨h, h2⟩)
theorem mul_smallR {a b : Int} (h : -(2 ^ 64) < b) (h2 : b < 2 ^ 64) : IntMulOk a b := CMul.ok (.inr ⟨h, h2⟩)
theorem i_mod (h : 0 < b) (q : Q (.int (a % b)) H) : modP (.int a) (.int b) H Q := ⟨a, b, rfl, rfl, h, q⟩
theorem i_fdiv (h : CDivW a b) (q : Q (.int (a / b)) H) : fdivP (.int a) (.int b) H Q := ⟨a, b, rfl, rfl, h, q⟩
theorem i_pow (h : 0 ≤ b ∧ (Builtin.Int.intBits a : Int) * b ≤ 2 ^ 27) (q : Q (.int (a ^ b.toNat)) H) : powP (.int a) (.int b) H Q := ⟨a, b, rfl, rfl, h, q⟩
theorem i_eq_int (q : Q (.bl (decide (a = b))) H) : eqP K (.int a) (.int b) H Q := .inl ⟨rfl, by rw [dec_int, Bool.beq_eq_decide_eq]; exact q⟩
theorem i_eq_str (q : Q (.bl (decide (l = m))) H) : eqP K (S l) (S m) H Q := .inl ⟨rfl, by rw [S_dec]; exact q⟩
theorem i_ne_int (q : Q (.bl (!decide (a = b))) H) : neP K (.int a) (.int b) H Q := .inl ⟨rfl, by rw [dec_int, Bool.beq_eq_decide_eq]; exact q⟩
theorem i_ne_str (q : Q (.bl (!decide (l = m))) H) : neP K (S l) (S m) H Q := .inl ⟨rfl, by rw [S_dec]; exact q⟩
theorem i_eq_bl {b c : Bool} (q : Q (.bl (decide (b = c))) H) : eqP K (.bl b) (.bl c) H Q := .inl ⟨rfl, by rw [dec_bl, Bool.beq_eq_decide_eq]; exact q⟩
theorem i_ne_bl {b c : Bool} (q : Q (.bl (!decide (b = c))) H) : neP K (.bl b) (.bl c) H Q := .inl ⟨rfl, by rw [dec_bl, Bool.beq_eq_decide_eq]; exact q⟩
theorem i_lt (q : Q (.bl (decide (a < b))) H) : ltP (.int a) (.int b) H Q := .inl ⟨a, b, rfl, rfl, q⟩
theorem i_lt_str (q : Q (.bl (decide (l < m))) H) : ltP (S l) (S m) H Q := .inr ⟨_, _, rfl, rfl, by simpa using q⟩
theorem i_le (q : Q (.bl (decide (a ≤ b))) H) : leP (.int a) (.int b) H Q := ⟨a, b, rfl, rfl, q⟩
theorem i_gt (q : Q (.bl (decide (b < a))) H) : gtP (.int a) (.int b) H Q := ⟨a, b, rfl, rfl, q⟩
theorem i_ge (q : Q (.bl (decide (b ≤ a))) H) : geP (.int a) (.int b) H Q := ⟨a, b, rfl, rfl, q⟩
theorem i_is_non (q : Q (.bl true) H) : isP .non .non H Q := ⟨rfl, q⟩
theorem i_is_int (q : Q (.bl false) H) : isP (.int a) .non H Q := ⟨rfl, q⟩
theorem i_is_str (q : Q (.bl false) H) : isP (S l) .non H Q := ⟨rfl, q⟩
theorem i_is_ref {p : Addr} (q : Q (.bl false) H) : isP (.ref p) .non H Q := ⟨rfl, q⟩
theorem i_isn_non (q : Q (.bl false) H) : isNotP .non .non H Q := ⟨rfl, q⟩
theorem i_isn_int (q : Q (.bl true) H) : isNotP (.int a) .non H Q := ⟨rfl, q⟩
theorem i_isn_str (q : Q (.bl true) H) : isNotP (S l) .non H Q := ⟨rfl, q⟩
theorem i_isn_ref {p : Addr} (q : Q (.bl true) H) : isNotP (.ref p) .non H Q := ⟨rfl, q⟩
theorem i_in_sg {c : Nat} (q : Q (.bl (decide (c ∈ m))) H) : inP K (S [c]) (S m) H Q := .inl ⟨c, ⟨m.toArray⟩, rfl, rfl, by simpa using q⟩
theorem i_notIn_sg {c : Nat} (q : Q (.bl (!decide (c ∈ m))) H) : notInP K (S [c]) (S m) H Q := .inl ⟨c, ⟨m.toArray⟩, rfl, rfl, by simpa using q⟩
/-! subscripts -/
theorem atI_int {xs : List V} {z : Int} {v : V} (h0 : 0 ≤ z) (h : xs[z.toNat]? = some v) : atI xs z = some v := at_of (j := z.toNat) (by omega) h
theorem i_ix_lst {p : Addr} {xs : List V} {z : Int} {v : V} (hs : SqL K H p xs) (ha : atI xs z = some v) (q : Q v H) : ixP K (.ref p) (.int z) H Q := .inl ⟨p, xs, z, v, rfl, rfl, hs, ha, q⟩
theorem i_ix_tup {p : Addr} {xs : List V} {z : Int} {v : V} (hs : SqT K H p xs) (ha : atI xs z = some v) (q : Q v H) : ixP K (.ref p) (.int z) H Q := .inr (.inl ⟨p, xs, z, v, rfl, rfl, hs, ha, q⟩)
theorem i_ix_str {z : Int} {c : Nat} (hs : l.length ≤ 100000) (h0 : 0 ≤ z) (ha : l[z.toNat]? = some c) (q : Q (S [c]) H) : ixP K (S l) (.int z) H Q := by
  refine .inr (.inr ⟨⟨l.toArray⟩, z, c, rfl, rfl, ?_, ?_, q⟩)
  · rw [str_len]; exact Nat.le_trans hs (by decide)
  · have e : z = ((z.toNat : Nat) : Int) := by omega
    rw [e]
    exact atI_nat (by simpa using ha)
/-! slices -/
def cutN (l : List Nat) (lo hi : Option Int) : List Nat := (l.drop (HT.sIx l.length 0 lo)).take (HT.sIx l.length l.length hi - HT.sIx l.length 0 lo)
theorem i_sl_str {lo hi : Option Int} (hs : l.length ≤ 100000) (q : Q (S (cutN l lo hi)) H) : slP K (S l) lo hi H Q := by
  refine .inr (.inr ⟨⟨l.toArray⟩, rfl, ?_, ?_⟩)
  · rw [str_len]; exact Nat.le_trans hs (by decide)
  · have e : cutS ⟨l.toArray⟩ lo hi = ⟨(cutN l lo hi).toArray⟩ := by
      unfold cutS cutN
      rw [str_len]
    rw [e]; exact q
theorem cutN_to {l : List Nat} {k : Int} (h : 0 ≤ k) : cutN l none (some k) = l.take k.toNat := by
  unfold cutN
  have e : k = ((k.toNat : Nat) : Int) := by omega
  rw [e, HT.sIx_nat, HT.sIx_none, Nat.sub_zero, List.drop_zero, Int.toNat_natCast]
  by_cases hk : k.toNat ≤ l.length
  · rw [Nat.min_eq_left hk]
  · rw [Nat.min_eq_right (by omega), List.take_length, List.take_of_length_le (by omega)]
theorem cutN_from {l : List Nat} {k : Int} (h : 0 ≤ k) : cutN l (some k) none = l.drop k.toNat := by
  unfold cutN
  have e : k = ((k.toNat : Nat) : Int) := by omega
  rw [e, HT.sIx_nat, HT.sIx_none, Int.toNat_natCast]
  by_cases hk : k.toNat ≤ l.length
  · rw [Nat.min_eq_left hk]
    exact List.take_of_length_le (by rw [List.length_drop]; omega)
  · rw [Nat.min_eq_right (by omega), Nat.sub_self, List.take_zero, List.drop_of_length_le (by omega)]
theorem i_sl_to {k : Int} (hs : l.length ≤ 100000) (h0 : 0 ≤ k) (q : Q (S (l.take k.toNat)) H) : slP K (S l) none (some k) H Q := i_sl_str hs (by rw [cutN_to h0]; exact q)
theorem i_sl_from {k : Int} (hs : l.length ≤ 100000) (h0 : 0 ≤ k) (q : Q (S (l.drop k.toNat)) H) : slP K (S l) (some k) none H Q := i_sl_str hs (by rw [cutN_from h0]; exact q)
/-! calls of what is built in -/
def rLenP (K : PySem.W.Frag) : RC := fun xs H Q => ∃ x n, xs = [x] ∧ LenV K x H n ∧ Q (.int n) H
theorem call_lenP {X : Cx} : CallR X (.builtin "len") (rLenP X.K) := call_len
theorem i_len_str (hs : l.length ≤ 100000) (q : Q (.int (l.length : Int)) H) : rLenP K [S l] H Q := ⟨S l, l.length, rfl, ⟨by rw [str_len]; exact Nat.le_trans hs (by decide), (str_len l).symm⟩, q⟩
theorem i_len_lst {p : Addr} {xs : List V} (hs : SqL K H p xs) (q : Q (.int (xs.length : Int)) H) : rLenP K [.ref p] H Q := ⟨.ref p, xs.length, rfl, .inl ⟨xs, hs, rfl⟩, q⟩
theorem i_len_tup {p : Addr} {xs : List V} (hs : SqT K H p xs) (q : Q (.int (xs.length : Int)) H) : rLenP K [.ref p] H Q := ⟨.ref p, xs.length, rfl, .inr ⟨xs, hs, rfl⟩, q⟩
def rIntP : RC := fun xs H Q => (∃ i, xs = [.int i] ∧ Q (.int i) H) ∨ ∃ k, xs = [.bl k] ∧ Q (.int (if k then 1 else 0)) H
theorem call_intP {X : Cx} : CallR X (.type "int") rIntP := call_int1
theorem i_int_int (q : Q (.int a) H) : rIntP [.int a] H Q := .inl ⟨a, rfl, q⟩
def rAbsP : RC := fun xs H Q => ∃ i, xs = [.int i] ∧ Q (.int (if i < 0 then -i else i)) H
theorem call_absP {X : Cx} : CallR X (.builtin "abs") rAbsP := call_abs
theorem i_abs (q : Q (.int (if a < 0 then -a else a)) H) : rAbsP [.int a] H Q := ⟨a, rfl, q⟩
theorem i_sum {p : Addr} {ns : List Int} (hs : SqL K H p (ns.map V.int)) (q : Q (.int ns.sum) H) : rSum K [.ref p] H Q := ⟨p, ns, rfl, hs, q⟩
def rTupP (K : PySem.W.Frag) : RC := fun xs H Q => ∃ p ys, xs = [.ref p] ∧ ((SqL K H p ys ∧ ∀ l, H l = none → Q (.ref l) (upd H l (.tup ys))) ∨ (SqT K H p ys ∧ Q (.ref p) H))
theorem call_tupP {X : Cx} : CallR X (.type "tuple") (rTupP X.K) := call_tuple_of
theorem i_tuple_lst {p : Addr} {ys : List V} (hs : SqL K H p ys) (q : ∀ l, H l = none → Q (.ref l) (upd H l (.tup ys))) : rTupP K [.ref p] H Q := ⟨p, ys, rfl, .inl ⟨hs, q⟩⟩
theorem i_all {p : Addr} {bs : List Bool} (hs : SqL K H p (bs.map V.bl)) (q : Q (.bl (bs.all id)) H) : rAll K [.ref p] H Q := ⟨p, bs, rfl, hs, q⟩
theorem i_isi_non_int (q : Q (.bl false) H) : rIsi K [.non, .ty "int"] H Q := ⟨_, _, _, _, false, rfl, .ty _, .base .non, kit_ty (by decide +kernel), q⟩
theorem i_isi_non_bool (q : Q (.bl false) H) : rIsi K [.non, .ty "bool"] H Q := ⟨_, _, _, _, false, rfl, .ty _, .base .non, kit_ty (by decide +kernel), q⟩
theorem i_isi_non_str (q : Q (.bl false) H) : rIsi K [.non, .ty "str"] H Q := ⟨_, _, _, _, false, rfl, .ty _, .base .non, kit_ty (by decide +kernel), q⟩
theorem i_isi_non_tuple (q : Q (.bl false) H) : rIsi K [.non, .ty "tuple"] H Q := ⟨_, _, _, _, false, rfl, .ty _, .base .non, kit_ty (by decide +kernel), q⟩
theorem i_isi_non_list (q : Q (.bl false) H) : rIsi K [.non, .ty "list"] H Q := ⟨_, _, _, _, false, rfl, .ty _, .base .non, kit_ty (by decide +kernel), q⟩
theorem i_isi_bl_int {b : Bool} (q : Q (.bl true) H) : rIsi K [(.bl b), .ty "int"] H Q := ⟨_, _, _, _, true, rfl, .ty _, .base (.bl b), kit_ty (by decide +kernel), q⟩
theorem i_isi_bl_bool {b : Bool} (q : Q (.bl true) H) : rIsi K [(.bl b), .ty "bool"] H Q := ⟨_, _, _, _, true, rfl, .ty _, .base (.bl b), kit_ty (by decide +kernel), q⟩
theorem i_isi_bl_str {b : Bool} (q : Q (.bl false) H) : rIsi K [(.bl b), .ty "str"] H Q := ⟨_, _, _, _, false, rfl, .ty _, .base (.bl b), kit_ty (by decide +kernel), q⟩
theorem i_isi_bl_tuple {b : Bool} (q : Q (.bl false) H) : rIsi K [(.bl b), .ty "tuple"] H Q := ⟨_, _, _, _, false, rfl, .ty _, .base (.bl b), kit_ty (by decide +kernel), q⟩
theorem i_isi_bl_list {b : Bool} (q : Q (.bl false) H) : rIsi K [(.bl b), .ty "list"] H Q := ⟨_, _, _, _, false, rfl, .ty _, .base (.bl b), kit_ty (by decide +kernel), q⟩
theorem i_isi_int_int {i : Int} (q : Q (.bl true) H) : rIsi K [(.int i), .ty "int"] H Q := ⟨_, _, _, _, true, rfl, .ty _, .base (.int i), kit_ty (by decide +kernel), q⟩
theorem i_isi_int_bool {i : Int} (q : Q (.bl false) H) : rIsi K [(.int i), .ty "bool"] H Q := ⟨_, _, _, _, false, rfl, .ty _, .base (.int i), kit_ty (by decide +kernel), q⟩
theorem i_isi_int_str {i : Int} (q : Q (.bl false) H) : rIsi K [(.int i), .ty "str"] H Q := ⟨_, _, _, _, false, rfl, .ty _, .base (.int i), kit_ty (by decide +kernel), q⟩
theorem i_isi_int_tuple {i : Int} (q : Q (.bl false) H) : rIsi K [(.int i), .ty "tuple"] H Q := ⟨_, _, _, _, false, rfl, .ty _, .base (.int i), kit_ty (by decide +kernel), q⟩
theorem i_isi_int_list {i : Int} (q : Q (.bl false) H) : rIsi K [(.int i), .ty "list"] H Q := ⟨_, _, _, _, false, rfl, .ty _, .base (.int i), kit_ty (by decide +kernel), q⟩
theorem i_isi_str_int {l : List Nat} (q : Q (.bl false) H) : rIsi K [(S l), .ty "int"] H Q := ⟨_, _, _, _, false, rfl, .ty _, .base (.str _), kit_ty (by decide +kernel), q⟩
theorem i_isi_str_bool {l : List Nat} (q : Q (.bl false) H) : rIsi K [(S l), .ty "bool"] H Q := ⟨_, _, _, _, false, rfl, .ty _, .base (.str _), kit_ty (by decide +kernel), q⟩
theorem i_isi_str_str {l : List Nat} (q : Q (.bl true) H) : rIsi K [(S l), .ty "str"] H Q := ⟨_, _, _, _, true, rfl, .ty _, .base (.str _), kit_ty (by decide +kernel), q⟩
theorem i_isi_str_tuple {l : List Nat} (q : Q (.bl false) H) : rIsi K [(S l), .ty "tuple"] H Q := ⟨_, _, _, _, false, rfl, .ty _, .base (.str _), kit_ty (by decide +kernel), q⟩
theorem i_isi_str_list {l : List Nat} (q : Q (.bl false) H) : rIsi K [(S l), .ty "list"] H Q := ⟨_, _, _, _, false, rfl, .ty _, .base (.str _), kit_ty (by decide +kernel), q⟩
theorem i_isi_tup_int {a : Addr} {xs : List V} (h : H a = some (.tup xs)) (q : Q (.bl false) H) : rIsi K [(.ref a), .ty "int"] H Q := ⟨_, _, _, _, false, rfl, .ty _, .base (.tup h), kit_ty (by decide +kernel), q⟩
theorem i_isi_tup_bool {a : Addr} {xs : List V} (h : H a = some (.tup xs)) (q : Q (.bl false) H) : rIsi K [(.ref a), .ty "bool"] H Q := ⟨_, _, _, _, false, rfl, .ty _, .base (.tup h), kit_ty (by decide +kernel), q⟩
theorem i_isi_tup_str {a : Addr} {xs : List V} (h : H a = some (.tup xs)) (q : Q (.bl false) H) : rIsi K [(.ref a), .ty "str"] H Q := ⟨_, _, _, _, false, rfl, .ty _, .base (.tup h), kit_ty (by decide +kernel), q⟩
theorem i_isi_tup_tuple {a : Addr} {xs : List V} (h : H a = some (.tup xs)) (q : Q (.bl true) H) : rIsi K [(.ref a), .ty "tuple"] H Q := ⟨_, _, _, _, true, rfl, .ty _, .base (.tup h), kit_ty (by decide +kernel), q⟩
theorem i_isi_tup_list {a : Addr} {xs : List V} (h : H a = some (.tup xs)) (q : Q (.bl false) H) : rIsi K [(.ref a), .ty "list"] H Q := ⟨_, _, _, _, false, rfl, .ty _, .base (.tup h), kit_ty (by decide +kernel), q⟩
theorem i_isi_lst_int {a : Addr} {xs : List V} (h : H a = some (.lst xs)) (q : Q (.bl false) H) : rIsi K [(.ref a), .ty "int"] H Q := ⟨_, _, _, _, false, rfl, .ty _, .base (.lst h), kit_ty (by decide +kernel), q⟩
theorem i_isi_lst_bool {a : Addr} {xs : List V} (h : H a = some (.lst xs)) (q : Q (.bl false) H) : rIsi K [(.ref a), .ty "bool"] H Q := ⟨_, _, _, _, false, rfl, .ty _, .base (.lst h), kit_ty (by decide +kernel), q⟩
theorem i_isi_lst_str {a : Addr} {xs : List V} (h : H a = some (.lst xs)) (q : Q (.bl false) H) : rIsi K [(.ref a), .ty "str"] H Q := ⟨_, _, _, _, false, rfl, .ty _, .base (.lst h), kit_ty (by decide +kernel), q⟩
theorem i_isi_lst_tuple {a : Addr} {xs : List V} (h : H a = some (.lst xs)) (q : Q (.bl false) H) : rIsi K [(.ref a), .ty "tuple"] H Q := ⟨_, _, _, _, false, rfl, .ty _, .base (.lst h), kit_ty (by decide +kernel), q⟩
theorem i_isi_lst_list {a : Addr} {xs : List V} (h : H a = some (.lst xs)) (q : Q (.bl true) H) : rIsi K [(.ref a), .ty "list"] H Q := ⟨_, _, _, _, true, rfl, .ty _, .base (.lst h), kit_ty (by decide +kernel), q⟩
/-! text.join -/
def rJoinP (K : PySem.W.Frag) : V → List V → Hp → VK → Prop := fun x xs H Q => ∃ a p, ∃ ys : List Str, x = .str a ∧ xs = [.ref p] ∧ (SqL K H p (ys.map V.str) ∨ SqT K H p (ys.map V.str)) ∧ (ys.map (·.length)).sum + ys.length * a.length ≤ 16777216 ∧ Q (.str (Txt.join a ys)) H
theorem pe_joinP {X : Cx} {to te : TE} {o e : Expr} {apos pos : Pos} (ho : PE X o to) (he : PE X e te) (hs : starEach [e] X.env = [(false, eval e X.env)] := by rfl) (hbase : attributeBase o "join" X.env (eval o X.env) = eval o X.env := by rfl) (hline : (apos.endLine == pos.line) = true := by rfl) :
    PE X (.Call (.Attribute o "join" apos) [e] [] pos) (tM1 (rJoinP X.K) to te) := pe_join ho he hs hbase hline
theorem i_m1c {r : V → List V → Hp → VK → Prop} (q : te σ H fun y H2 => r (S l) [y] H2 Q) : tM1 r (tC (S l)) te σ H Q := ⟨⟨_, rfl⟩, q⟩
end
end Fg
/-! Glue: defs of the text with their promises, calls, own exceptions with one field. -/
namespace Fg
open PySem PySem.Spec PyProof.Rows L2
/-- a def of the text: where it stands, how it is called -/
def DefIn (K : PySem.W.Frag) (mg : Str → Option Value) (x : Str) (st : Stmt) (ps : List Str) : Prop :=
  ∃ (f : Addr) (fd : FuncData), Fun K x x st f fd ∧ mg x = some (.ref f) ∧ Binds K fd ps []
/-- .. and it keeps its promise -/
def OK (P : Program) (w : World) (K : PySem.W.Frag) (mg : Str → Option Value) (base : Heap) (CX : CXT) (k : Nat) (x : Str) (ps : List Str) (sp : Sp) : Prop :=
  ∃ (f : Addr) (fd : FuncData), FnOk P w K mg base CX k f fd ps sp ∧ mg x = some (.ref f) ∧ PySem.W.keepIn K (.ref f) = true ∧ Binds K fd ps []
abbrev P1 := V → Hp → VK → XK → Prop
abbrev P2 := V → V → Hp → VK → XK → Prop
abbrev P3 := V → V → V → Hp → VK → XK → Prop
abbrev P4 := V → V → V → V → Hp → VK → XK → Prop
def sp1 (p : P1) : Sp := fun vs H Q E => ∃ x, vs = [x] ∧ p x H Q E
def sp2 (p : P2) : Sp := fun vs H Q E => ∃ x y, vs = [x, y] ∧ p x y H Q E
def sp3 (p : P3) : Sp := fun vs H Q E => ∃ x y z, vs = [x, y, z] ∧ p x y z H Q E
def sp4 (p : P4) : Sp := fun vs H Q E => ∃ x y z u, vs = [x, y, z, u] ∧ p x y z u H Q E
section
variable {H : Hp} {Q : VK} {E : XK} {x y z u : V} {p1 : P1} {p2 : P2} {p3 : P3} {p4 : P4}
theorem i_sp1 (q : p1 x H Q E) : sp1 p1 ([x] ++ []) H Q E := ⟨x, rfl, q⟩
theorem i_sp2 (q : p2 x y H Q E) : sp2 p2 ([x, y] ++ []) H Q E := ⟨x, y, rfl, q⟩
theorem i_sp3 (q : p3 x y z H Q E) : sp3 p3 ([x, y, z] ++ []) H Q E := ⟨x, y, z, rfl, q⟩
theorem i_sp4 (q : p4 x y z u H Q E) : sp4 p4 ([x, y, z, u] ++ []) H Q E := ⟨x, y, z, u, rfl, q⟩
theorem i_sp1' (q : p1 x H Q E) : sp1 p1 [x] H Q E := ⟨x, rfl, q⟩
theorem i_sp2' (q : p2 x y H Q E) : sp2 p2 [x, y] H Q E := ⟨x, y, rfl, q⟩
theorem i_sp3' (q : p3 x y z H Q E) : sp3 p3 [x, y, z] H Q E := ⟨x, y, z, rfl, q⟩
theorem i_sp4' (q : p4 x y z u H Q E) : sp4 p4 [x, y, z, u] H Q E := ⟨x, y, z, u, rfl, q⟩
end
section
variable {P : Program} {w : World} {K : PySem.W.Frag} {mg : Str → Option Value} {base : Heap} {x : Str} {st : Stmt} {N ps : List Str} {k : Nat} {sp : Sp}
theorem FnOK.mk {f : Addr} {fd : FuncData} (F : Fun K x x st f fd) (S : FnScope N ps (defScope st)) (len : ∀ vs H Q E, sp vs H Q E → vs.length = ps.length)
    (body : ∀ (cdv : Value) (A : Around) (outer : List Env) (s : Shared) (H : Hp) (vs : List V) (Q : VK) (E : XK), Room k (A.deeper (envOfC x (defScope st) s.heap.objs.size f cdv)) → sp vs H Q E →
      ∃ t, PSs (cxOf CX0 P w K mg base N x (defScope st) f cdv A outer s H E).nox (defBody st) t ∧ t { nx := fun _ H' => Q .non H', rt := Q } (start N vs) H) : FnOk P w K mg base CX0 (k + 1) f fd ps sp :=
  F.ok S len fun cdv A outer s H vs Q E hr h => body cdv A outer s H vs Q E hr h
theorem OK.mk (D : DefIn K mg x st ps) (S : FnScope N ps (defScope st)) (len : ∀ vs H Q E, sp vs H Q E → vs.length = ps.length)
    (body : ∀ (f : Addr) (cdv : Value) (A : Around) (outer : List Env) (s : Shared) (H : Hp) (vs : List V) (Q : VK) (E : XK), Room k (A.deeper (envOfC x (defScope st) s.heap.objs.size f cdv)) → sp vs H Q E →
      ∃ t, PSs (cxOf CX0 P w K mg base N x (defScope st) f cdv A outer s H E).nox (defBody st) t ∧ t { nx := fun _ H' => Q .non H', rt := Q } (start N vs) H) : OK P w K mg base CX0 (k + 1) x ps sp := by
  obtain ⟨f, fd, F, hm, hb⟩ := D
  exact ⟨f, fd, F.ok S len fun cdv A outer s H vs Q E hr h => body f cdv A outer s H vs Q E hr h, hm, F.kp, hb⟩
theorem OK.mkX (D : DefIn K mg x st ps) (S : FnScope N ps (defScope st)) (len : ∀ vs H Q E, sp vs H Q E → vs.length = ps.length)
    (body : ∀ (f : Addr) (cdv : Value) (A : Around) (outer : List Env) (s : Shared) (H : Hp) (vs : List V) (Q : VK) (E : XK), Room k (A.deeper (envOfC x (defScope st) s.heap.objs.size f cdv)) → sp vs H Q E →
      ∃ t, PSs (cxOf (L2.CX P w) P w K mg base N x (defScope st) f cdv A outer s H E) (defBody st) t ∧ t { nx := fun _ H' => Q .non H', rt := Q } (start N vs) H) : OK P w K mg base (L2.CX P w) (k + 1) x ps sp := by
  obtain ⟨f, fd, F, hm, hb⟩ := D
  exact ⟨f, fd, F.okX S len fun cdv A outer s H vs Q E hr h => body f cdv A outer s H vs Q E hr h, hm, F.kp, hb⟩
theorem len1 {p : P1} {a : Str} : ∀ vs H Q E, sp1 p vs H Q E → vs.length = [a].length := by
  rintro vs H Q E ⟨_, rfl, _⟩; rfl
theorem len2 {p : P2} {a b : Str} : ∀ vs H Q E, sp2 p vs H Q E → vs.length = [a, b].length := by
  rintro vs H Q E ⟨_, _, rfl, _⟩; rfl
theorem len3 {p : P3} {a b c : Str} : ∀ vs H Q E, sp3 p vs H Q E → vs.length = [a, b, c].length := by
  rintro vs H Q E ⟨_, _, _, rfl, _⟩; rfl
theorem len4 {p : P4} {a b c d : Str} : ∀ vs H Q E, sp4 p vs H Q E → vs.length = [a, b, c, d].length := by
  rintro vs H Q E ⟨_, _, _, _, rfl, _⟩; rfl
theorem OK.weak {CX : CXT} {sp' : Sp} (G : OK P w K mg base CX k x ps sp) (h : ∀ vs H Q E, sp' vs H Q E → sp vs H Q E) : OK P w K mg base CX k x ps sp' := by
  obtain ⟨f, fd, F, r⟩ := G
  exact ⟨f, fd, F.imp h, r⟩
end
/-! ### calls -/
section
variable {X : Cx} {CX : CXT} {k : Nat} {x : Str} {ps : List Str} {sp : Sp} {E : XK} {e : Expr} {es : List Expr} {ta : TA} {p pos : Pos}
theorem pe_f (G : OK X.prog X.w X.K X.mg X.base CX k x ps sp) (hr : Room k X.A) (hx : Passes CX X E) (ha : PA X (e :: es) ta) (hg : Gl X x := by rfl) (hd : (x == ("__debug__" : Str)) = false := by decide)
    (he : starEach (e :: es) X.env = (false, eval e X.env) :: starEach es X.env := by rfl) (hpl : (backTo pos (starEach es X.env)).any (·.1) = false := by rfl) :
    PE X (.Call (.Name x p) (e :: es) [] pos) (tCall sp [] E ta) := by
  obtain ⟨f, fd, F, hm, hk, hb⟩ := G
  exact pe_call F hr hg hm hk hb .nil hx ha hd he hpl
theorem pe_fS {ES : L2.St → XK} (G : OK X.prog X.w X.K X.mg X.base CX k x ps sp) (hr : Room k X.A) (hx : ∀ σ, PassesAt CX X σ (ES σ)) (ha : PA X (e :: es) ta) (hg : Gl X x := by rfl) (hd : (x == ("__debug__" : Str)) = false := by decide)
    (he : starEach (e :: es) X.env = (false, eval e X.env) :: starEach es X.env := by rfl) (hpl : (backTo pos (starEach es X.env)).any (·.1) = false := by rfl) :
    PE X (.Call (.Name x p) (e :: es) [] pos) (tCallS sp ES ta) := by
  obtain ⟨f, fd, F, hm, hk, hb⟩ := G
  exact pe_callS F hr hg hm hk hb hx ha hd he hpl
theorem pe_gS (l : List Nat) (h : ∃ t, X.mg x = some (.str ⟨l.toArray⟩ t)) (hg : Gl X x := by rfl) (hd : (x == ("__debug__" : Str)) = false := by decide) : PE X (.Name x pos) (tC (S l)) := by
  obtain ⟨t, hm⟩ := h
  exact pe_glob hg hm ⟨t, rfl⟩ hd
theorem pe_gI (i : Int) (h : ∃ t, X.mg x = some (.int i t)) (hg : Gl X x := by rfl) (hd : (x == ("__debug__" : Str)) = false := by decide) : PE X (.Name x pos) (tC (.int i)) := by
  obtain ⟨t, hm⟩ := h
  exact pe_glob hg hm ⟨t, rfl⟩ hd
theorem pe_gR (C : Addr) (h : X.mg x = some (.ref C)) (hg : Gl X x := by rfl) (hd : (x == ("__debug__" : Str)) = false := by decide) : PE X (.Name x pos) (tC (.ref C)) := pe_glob hg h rfl hd
end
/-! ### an own exception with one field -/
/-- what its __init__ promises -/
def spIni (C : Addr) (f : Str) : Sp := sp2 fun x v H Q _ => ∃ a, x = .ref a ∧ H a = some (exo a C none) ∧ ∀ dx, H dx = none → dx ≠ a → Q .non (upd (upd H dx (exd dx [(f, v)])) a (exo a C (some dx)))
def OKx (P : Program) (w : World) (K : PySem.W.Frag) (mg : Str → Option Value) (base : Heap) (x f : Str) (C : Addr) : Prop :=
  mg x = some (.ref C) ∧ OexC K C ∧ PySem.W.findIn K (.ref C) f = some none ∧ ∃ (fI : Addr) (fd : FuncData), PySem.W.findIn K (.ref C) "__init__" = some (some (.ref fI)) ∧ PySem.W.typeIn K (.ref fI) = some (.type "function") ∧
    FnOk P w K mg base CX0 1 fI fd ["self", f] (spIni C f) ∧ Binds K fd ["self", f] []
theorem ini_ok {P : Program} {w : World} {K : PySem.W.Frag} {mg : Str → Option Value} {base : Heap} {C fI : Addr} {f q : Str} {st : Stmt} {fd : FuncData} (F : Fun K "__init__" q st fI fd) (S : FnScope ["self", f] ["self", f] (defScope st))
    (ox : OexC K C) (noF : PySem.W.findIn K (.ref C) f = some none)
    (hb : ∀ (cdv : Value) (A : Around) (outer : List Env) (s : Shared) (H : Hp) (E : XK), PSs (cxOf CX0 P w K mg base ["self", f] q (defScope st) fI cdv A outer s H E).nox (defBody st) (tOst K f (tVar 0) (tVar 1))) :
    FnOk P w K mg base CX0 1 fI fd ["self", f] (spIni C f) := by
  refine F.ok S (fun vs H Q E h => len2 vs H Q E h) fun cdv A outer s H vs Q E hr h => ⟨_, hb cdv A outer s H E, ?_⟩
  obtain ⟨x, v, rfl, a, rfl, ha, q⟩ := h
  exact ⟨v, rfl, .ref a, rfl, a, C, rfl, ox, noF, .inl ⟨ha, fun dx n ne => q dx n ne⟩⟩
/-- C(e): an error whose dict, new, holds the field -/
def tMkE (C : Addr) (f : Str) (ta : TA) : L2.St → Hp → XK → Prop := fun σ H Q => ta σ H fun vs H1 => ∃ v, vs = [v] ∧ ∀ d, H1 d = none → Q (.ref C) (some d) (upd H1 d (.xd [(f, v)]))
theorem pa_mono {X : Cx} {es : List Expr} {ta : TA} (ha : PA X es ta) : PA X es fun σ H R => ∃ Q1 : List V → Hp → Prop, ta σ H Q1 ∧ ∀ vs H1, Q1 vs H1 → R vs H1 := by
  refine ⟨fun pos pins s σ H Q I h => ?_⟩
  obtain ⟨Q1, h, hi⟩ := h
  exact thn (ha.run pos pins s σ H Q1 I h) fun us s1 ⟨vs, H1, J, r, q⟩ => ⟨vs, H1, J, r, hi vs H1 q⟩
theorem pmk_E {X : Cx} {x f : Str} {C : Addr} {e : Expr} {ta : TA} {p pos : Pos} {k : Nat} (G : OKx X.prog X.w X.K X.mg X.base x f C) (hr : Room (k + 2) X.A) (ha : PA X [e] ta) (hg : Gl X x := by rfl) (hdb : (x == ("__debug__" : Str)) = false := by decide)
    (he : starEach [e] X.env = (false, eval e X.env) :: starEach [] X.env := by rfl) (hpl : (backTo pos (starEach [] X.env)).any (·.1) = false := by rfl) :
    PMk X (.Call (.Name x p) [e] [] pos) (tMkE C f ta) := by
  obtain ⟨hm, ox, noF, fI, fd, iC, tI, F, hb⟩ := G
  intro pins s σ H Q I h
  refine pmk_oex (k := 1) (dvs := []) ox iC tI F (hr.mono (by omega)) hb .nil pass0 hg hm (pa_mono ha) hdb he hpl pins s σ H Q I ⟨_, h, fun vs H1 hq => ?_⟩
  obtain ⟨v, rfl, q⟩ := hq
  refine ⟨by show 1 ≤ 1000; omega, fun a na => ⟨.ref a, v, rfl, a, rfl, upd_same, fun dx nd ne => ⟨rfl, dx, [(f, v)], upd_same, ?_, ?_, ?_⟩⟩⟩
  · rw [upd_ne ne, upd_same]
  · rw [upd_ne ne] at nd; exact nd
  · have n2 : H1 dx = none := by rw [upd_ne ne] at nd; exact nd
    have e1 : upd (del (upd (upd (upd H1 a (exo a C none)) dx (exd dx [(f, v)])) a (exo a C (some dx))) a) dx (.xd [(f, v)]) = upd H1 dx (.xd [(f, v)]) := by
      funext b
      by_cases hb : b = dx
      · rw [hb, upd_same, upd_same]
      · rw [upd_ne hb, upd_ne hb]
        by_cases ha : b = a
        · rw [ha, del_same, na]
        · rw [del_ne ha, upd_ne ha, upd_ne hb, upd_ne ha]
    rw [e1]
    exact q dx n2
def tRaiseP (t : L2.St → Hp → XK → Prop) (W : WX) : TS := fun _ σ H => t σ H fun cls d H' => W cls d σ H'
theorem ps_raiseP {X : Cx} {W : WX} {e : Expr} {t : L2.St → Hp → XK → Prop} {pos : Pos} (hc : X.calm = true) (tk : Takes X W) (he : PMk X e t) : PS X (.Raise (some e) none pos) (tRaiseP t W) := ps_raise hc tk he
/-! ### isinstance(e, C) of a caught error, e.f -/
/-- the class of a caught error, for isinstance -/
structure ExcD (K : PySem.W.Frag) (D : Addr) : Prop where
  cl : (PySem.W.clsIn K D).isSome = true
  hg : PySem.W.findIn K (.ref D) "__getattribute__" = some (some (.builtin "BaseException.__getattribute__"))
  hk : PySem.W.findIn K (.ref D) "__getattr__" = some none
  hs : PySem.W.subIn K (.ref D) (.type "BaseException") = some true
  hd : PySem.W.hasDictIn K D = true
  ha : PySem.W.findIn K (.ref D) "__class__" = some (some (.builtin "object.__class__"))
  hn : PySem.W.specialIn K (.builtin "object.__class__") "__get__" = some (some (.builtin "getset_descriptor.__get__"))
  ht : PySem.W.takesIn K (.builtin "object.__class__") = some true
  hm : PySem.W.mroIn K D (.type "object") = some true
theorem ExcD.xf {K : PySem.W.Frag} {D : Addr} (T : ExcD K D) : XfC K D := ⟨T.hg, T.hk, T.hs, T.hd⟩
def rIsX (K : PySem.W.Frag) (a : Addr) (cls : Value) (d : Option Addr) : RC := fun xs H Q => ∃ (D dd : Addr) (fs : List (Str × V)) (c : V) (cv : Value) (b : Bool),
  xs = [.ref a, c] ∧ cls = .ref D ∧ d = some dd ∧ H dd = some (.xd fs) ∧ ExcD K D ∧ ClsV c cv ∧ PySem.W.kitOne K (.ref D) cv = some b ∧ Q (.bl b) H
theorem call_isX {X : Cx} {a : Addr} {oe : Obj} {cls : Value} {d : Option Addr} {pn : List (Addr × Obj)} (hz : Zc cls d oe) (hf : ∃ vs, oe.data = .fields vs) : CallR (X.suite a ((a, oe) :: pn)) (.builtin "isinstance") (rIsX X.K a cls d) := by
  intro pins s σ H xs us Q I r h
  obtain ⟨D, dd, fs, c, cv, b, rfl, rfl, rfl, hdd, T, kc, e, q⟩ := h
  obtain ⟨u1, u2, rfl, r1, r2⟩ := vals2 r
  obtain rfl : u1 = Value.ref a := r1
  obtain rfl := kc.eq r2
  obtain ⟨hget, _⟩ := I.pin (a, oe) (List.mem_append_left _ List.mem_cons_self)
  obtain ⟨vs, hv⟩ := hf
  have hx : ObjOk X.prog X.w H s.heap dd (.xd fs) := I.hok dd _ hdd
  obtain ⟨mA, ⟨o, es, ep, ho, _⟩, _⟩ := hx
  have J : PySem.W.InstAt s.heap a oe D (some o) := ⟨hget, hz.1, by unfold PySem.W.notCls; rw [hv] <;> rfl, by rw [hz.2]; exact ho⟩
  exact PySem.W.kia_one (PySem.W.kitx_exc T.cl T.hg T.hk T.hs T.ha T.hn T.ht T.hm) I.kIn J e (fun z => nomatch z) fun tk => ⟨.bl b, H, I.tok tk, rfl, q⟩
section
variable {σ : L2.St} {H : Hp} {D : Ends} {t : L2.St → Hp → XK → Prop} {W : WX} {Q : XK} {C : Addr} {f : Str} {ta : TA} {v : V} {P : V → Prop}
theorem i_raise (q : t σ H fun cls d H' => W cls d σ H') : tRaiseP t W D σ H := q
theorem i_mkE (q : ta σ H fun vs H1 => ∃ v, vs = [v] ∧ ∀ d, H1 d = none → Q (.ref C) (some d) (upd H1 d (.xd [(f, v)]))) : tMkE C f ta σ H Q := q
theorem i_ex1 (q : P v) : ∃ u, [v] = [u] ∧ P u := ⟨v, rfl, q⟩
end
/-- the wish for an error of the class at C whose dict, new, holds f = v -/
def Rz (E : XK) (H : Hp) (C : Addr) (f : Str) (v : V) : Prop := ∀ d H', H d = none → Same H H' → H' d = some (.xd [(f, v)]) → E (.ref C) (some d) H'
theorem Rz.mono {E : XK} {H H1 : Hp} {C : Addr} {f : Str} {v : V} (h : Rz E H C f v) (s : Same H H1) : Rz E H1 C f v := fun d H' n s' e => h d H' (s.free n) (s.trans s') e
theorem Rz.at {E : XK} {H : Hp} {C : Addr} {f : Str} {v : V} (h : Rz E H C f v) {d : Addr} (n : H d = none) : E (.ref C) (some d) (upd H d (.xd [(f, v)])) :=
  h d _ n (fun b o e => by rw [upd_ne (ne_of_none e n)]; exact e) upd_same
/-! ### min of some texts -/
def rMinS (K : PySem.W.Frag) : RC := fun vs H Q => ∃ (a : Addr) (xs : List (List Nat)), vs = [V.ref a] ∧ SqL K H a (xs.map S) ∧ xs ≠ [] ∧ ∀ m, m ∈ xs → (∀ y ∈ xs, ¬ y < m) → Q (S m) H
theorem argBest_min (val : Nat → List Nat) : ∀ k, argBest (fun i j => decide (val i < val j)) k ≤ k ∧ ∀ j, j ≤ k → ¬ val j < val (argBest (fun i j => decide (val i < val j)) k)
  | 0 => ⟨Nat.le_refl _, fun j hj => by
    have : j = 0 := by omega
    subst this
    exact List.lt_irrefl _⟩
  | k + 1 => by
    obtain ⟨h1, h2⟩ := argBest_min val k
    unfold argBest
    by_cases h : val (k + 1) < val (argBest (fun i j => decide (val i < val j)) k)
    · rw [if_pos (decide_eq_true h)]
      refine ⟨Nat.le_refl _, fun j hj => ?_⟩
      by_cases e : j = k + 1
      · subst e; exact List.lt_irrefl _
      · exact fun z => h2 j (by omega) (List.lt_trans z h)
    · rw [if_neg (by simpa using h)]
      refine ⟨by omega, fun j hj => ?_⟩
      by_cases e : j = k + 1
      · subst e; exact h
      · exact h2 j (by omega)
theorem cmp_strs {prog : Program} {w : World} {A : Around} {P : Nat → Value → Prop} (val : Nat → List Nat) (hval : ∀ i v, P i v → ∃ t, v = .str ⟨(val i).toArray⟩ t) : CmpOf prog w A .Lt P (fun i j => decide (val i < val j)) := fun i j vi vj s Q E hi hj h => by
  obtain ⟨t, rfl⟩ := hval i vi hi
  obtain ⟨u, rfl⟩ := hval j vj hj
  refine richCompare_gives (op := .Lt) (typeIs_str s _ t) (typeIs_str s _ u) F.slot_str_lt F.entry_str_lt (F.args_str_lt_2 _ _) (gives_str_lt _ _ t u) (fun x => nomatch x) ?_
  show Q (Value.bool (decide ((val i).toArray.toList < (val j).toArray.toList))) s
  simpa using h
theorem cr_minS {X : Cx} (hc : X.calm = true) : CallR X (.builtin "min") (rMinS X.K) := by
  intro pins s σ H vs us Q I r h
  obtain ⟨a, xs, rfl, hs, hne, q⟩ := h
  obtain ⟨its, rv, hl, _⟩ := I.list hs
  rw [Vals.ref1 r]
  have hlen : xs.length = its.length := by have := rv.length; rw [List.length_map] at this; exact this
  have hpos : 0 < its.length := by rw [← hlen]; exact List.length_pos_iff.mpr hne
  have hL := hl.isList
  have ha : a < s.heap.objs.size := by obtain ⟨_, e, _⟩ := id hL; exact Heap.lt_size e
  have hval : ∀ (i : Nat) (v : Value), its.toArray[i]? = some v → ∃ t, v = Value.str ⟨(xs.getD i []).toArray⟩ t := fun i v hv => by
    have hv' : its[i]? = some v := by simpa using hv
    have hi : i < xs.length := by rw [hlen]; exact (List.getElem?_eq_some_iff.mp hv').1
    obtain ⟨u, hu, ru⟩ := rv.get (i := i) (x := S (xs.getD i [])) (by rw [List.getElem?_map, List.getElem?_eq_getElem hi, List.getD_eq_getElem?_getD, List.getElem?_eq_getElem hi]; rfl)
    rw [hv'] at hu
    cases hu
    exact ru
  refine call_min_walk (wpAny_pyIter_list hL ?_)
  refine ⟨_, _, _, _, _, _, _, rfl, Walks.list (A := X.A.in1) (I.ok.hd hc) s.heap.objs.size a (Nat.ne_of_lt ha) its.toArray,
    ⟨⟨_, Heap.get?_push_size _ rfl, rfl, rfl⟩, hL.push _⟩, fun b hb => ?_, by simpa using hpos, cmp_strs (fun i => xs.getD i []) hval, fun v h' tk hP hk => ?_⟩
  · show b < (s.heap.push _).objs.size
    rw [Heap.size_push]
    rcases List.mem_cons.mp hb with e | hb
    · rw [e]; exact Nat.lt_succ_self _
    · rw [List.mem_singleton.mp hb]; exact Nat.lt_succ_of_lt ha
  · obtain ⟨t, rfl⟩ := hval _ v hP
    obtain ⟨b1, b2⟩ := argBest_min (fun i => xs.getD i []) (its.toArray.size - 1)
    have sz : its.toArray.size = xs.length := by simp [hlen]
    have hb : argBest (fun i j => decide (xs.getD i [] < xs.getD j [])) (its.toArray.size - 1) < xs.length := by omega
    refine ⟨S (xs.getD _ []), H, I.kept (t' := tk) fun b u e => hk b u (fun hm => ?_) (Heap.get?_push_of_some _ e), ⟨t, rfl⟩, q _ ?_ fun y hy => ?_⟩
    · have e1 : b = s.heap.objs.size := List.mem_singleton.mp hm
      have e2 := Heap.lt_size e
      rw [e1] at e2
      exact absurd e2 (Nat.lt_irrefl _)
    · rw [List.getD_eq_getElem?_getD, List.getElem?_eq_getElem hb]
      exact List.getElem_mem hb
    · obtain ⟨i, hi, e⟩ := List.mem_iff_getElem.mp hy
      have e2 : xs.getD i [] = y := by rw [List.getD_eq_getElem?_getD, List.getElem?_eq_getElem hi, ← e]; rfl
      rw [← e2]
      exact b2 i (by omega)
theorem i_minS {K : PySem.W.Frag} {H : Hp} {Q : VK} {a : Addr} {xs : List (List Nat)} (hs : SqL K H a (xs.map S)) (hne : xs ≠ []) (q : ∀ m, m ∈ xs → (∀ y ∈ xs, ¬ y < m) → Q (S m) H) : rMinS K [.ref a] H Q := ⟨a, xs, rfl, hs, hne, q⟩
/-! ### the rules, the written part named -/
section
variable {X : Cx} (K : PySem.W.Frag) {e o : Expr} {es : List Expr} {te to : TE} {ta : TA} {tg : Expr} {p pos apos cpos tpos : Pos} {elts : List Expr} {kk : Nat}
theorem opAdd (h : X.K = K := by rfl) : OpR X (binaryOp .Add) (addP K) := h ▸ op_addP
theorem opEq (hu : X.A.units + 64 < cLine) (h : X.K = K := by rfl) : OpR X (compareOp .Eq) (eqP K) := h ▸ op_eqP hu
theorem opNe (hu : X.A.units + 64 < cLine) (h : X.K = K := by rfl) : OpR X (compareOp .NotEq) (neP K) := h ▸ op_neP hu
theorem opIn (h : X.K = K := by rfl) : OpR X (compareOp .In) (inP K) := h ▸ op_inP
theorem opNotIn (h : X.K = K := by rfl) : OpR X (compareOp .NotIn) (notInP K) := h ▸ op_notInP
theorem ixK (h : X.K = K := by rfl) : IxR X (ixP K) := h ▸ ix_P
theorem slK (h : X.K = K := by rfl) : SlR X (slP K) := h ▸ sl_P
theorem piAny (he : PE X e te) (h : X.K = K := by rfl) : PI X tg e (iAny K te) := h ▸ pi_any he
theorem piEnum (hg : Gl X "enumerate") (hm : X.mg "enumerate" = none) (ha : PA X [e] ta) (h : X.K = K := by rfl) (hs : starEach [e] X.env = [(false, eval e X.env)] := by rfl) :
    PI X (.Tuple elts kk tpos) (.Call (.Name "enumerate" p) [e] [] pos) (iEnumP K ta) := h ▸ pi_enumP hg hm ha hs
theorem cLen (h : X.K = K := by rfl) : CallR X (.builtin "len") (rLenP K) := h ▸ call_lenP
theorem cSum (hc : X.calm = true) (h : X.K = K := by rfl) : CallR X (.builtin "sum") (rSum K) := h ▸ cr_sum hc
theorem cAll (hc : X.calm = true) (h : X.K = K := by rfl) : CallR X (.builtin "all") (rAll K) := h ▸ cr_all hc
theorem cTup (h : X.K = K := by rfl) : CallR X (.type "tuple") (rTupP K) := h ▸ call_tupP
theorem cIsi (h : X.K = K := by rfl) : CallR X (.builtin "isinstance") (rIsi K) := h ▸ call_isi
theorem cMinS (hc : X.calm = true) (h : X.K = K := by rfl) : CallR X (.builtin "min") (rMinS K) := h ▸ cr_minS hc
theorem cSortedS (h : X.K = K := by rfl) : CallR X (.builtin "sorted") (rSortedS K) := h ▸ cr_sortedS
theorem peJoin (ho : PE X o to) (he : PE X e te) (h : X.K = K := by rfl) (hs : starEach [e] X.env = [(false, eval e X.env)] := by rfl) (hbase : attributeBase o "join" X.env (eval o X.env) = eval o X.env := by rfl) (hline : (apos.endLine == pos.line) = true := by rfl) :
    PE X (.Call (.Attribute o "join" apos) [e] [] pos) (tM1 (rJoinP K) to te) := h ▸ pe_joinP ho he hs hbase hline
theorem pgTup {t : TGs} {n : Nat} (hc : X.calm = true) (ht : PGs X es t) (h : X.K = K := by rfl) (hn : (assignEach es X.env).length = n := by rfl) (hst : (assignEach es X.env).findIdx? (·.1) = none := by rfl) :
    PG X (.Tuple es kk pos) (gTup K n t) := h ▸ pg_tup hc ht hn hst
/-- xs.append(e) -/
def tApp (K : PySem.W.Frag) (to : TE) (t : TA) : TE := tBM K "list" rAppend to t
theorem peApp (ho : PE X o to) (ha : PA X (e :: es) ta) (h : X.K = K := by rfl) (hbase : attributeBase o "append" X.env (eval o X.env) = eval o X.env := by rfl)
    (hfew : ((backTo cpos (starEach (e :: es) X.env)).all (fun x => !x.1) && (backToKw cpos (keywordEach [] X.env)).all (fun x => x.1.isSome)
      && decide ((e :: es).length + ([] : List Keyword).length + (if ([] : List Keyword).isEmpty then 0 else 1) < 30)) = true := by rfl)
    (hline : (apos.endLine == cpos.line) = true := by rfl) (hs : starEach (e :: es) X.env = (false, eval e X.env) :: starEach es X.env := by rfl) (hplain : (backTo cpos (starEach es X.env)).any (·.1) = false := by rfl) :
    PE X (.Call (.Attribute o "append" apos) (e :: es) [] cpos) (tApp K to ta) := h ▸ pe_bm PySem.F.plainAttrs_list PySem.F.slot_list_append PySem.F.type_list_append mt_append ho ha hbase hfew hline hs hplain
end
section
variable {K : PySem.W.Frag} {σ : L2.St} {H : Hp} {Q : VK} {te : TE} {ta : TA} {l : Addr} {xs : List V} {v : V}
theorem i_app (q : te σ H fun x H1 => tyV K "list" x H1 ∧ ta σ H1 fun xs H2 => rAppend x xs H2 Q) : tApp K te ta σ H Q := q
theorem i_appAt (h : H l = some (.lst xs)) {P : Prop} (q : P) : tyV K "list" (.ref l) H ∧ P := ⟨.inl ⟨rfl, _, .inl (.inl h)⟩, q⟩
theorem i_appEnd (h : H l = some (.lst xs)) (hz : xs.length < 100000) (q : Q .non (upd H l (.lst (xs ++ [v])))) : rAppend (.ref l) [v] H Q := ⟨l, xs, v, rfl, rfl, h, Nat.lt_trans hz (by decide), q⟩
end
/-! ### stores into lists; a word between two statements -/
section
variable {σ : L2.St} {H : Hp} {D : Ends} {t u : TS} {to ti : TE} {v : V} {Qs : L2.St → Hp → Prop} {Qh : Hp → Prop} {p : Addr} {xs ys : List V} {z : Int}
theorem i_gsub {ts : TSet} (q : to σ H fun o H1 => ti σ H1 fun i H2 => ts o i v H2 fun H3 => Qs σ H3) : gSub to ti ts v σ H Qs := q
theorem i_setL (j : Nat) (h : H p = some (.lst xs)) (hj : ixN xs.length z = some j) (e : xs.set j v = ys) (q : Qh (upd H p (.lst ys))) : rSetL (.ref p) (.int z) v H Qh := ⟨p, xs, z, j, rfl, rfl, h, hj, by rw [e]; exact q⟩
theorem i_cut (Mid : L2.St → Hp → Prop) (h1 : t { D with nx := Mid } σ H) (h2 : ∀ σ' H', Mid σ' H' → u D σ' H') : Evl.tCut t u D σ H := ⟨Mid, h1, h2⟩
end
/-! ### "".join -/
theorem joinL_nil : ∀ ls : List (List Nat), TL.joinL [] ls = ls.flatten
  | [] => rfl
  | [p] => by simp [TL.joinL]
  | p :: q :: r => by
    show p ++ ([] ++ TL.joinL [] (q :: r)) = _
    rw [joinL_nil (q :: r)]
    rfl
theorem join_nil (ls : List (List Nat)) : Txt.join ⟨([] : List Nat).toArray⟩ (ls.map fun l => (⟨l.toArray⟩ : Str)) = ⟨ls.flatten.toArray⟩ := by
  refine TL.ext_tl ?_
  rw [TL.join_eq, TL.tl_join, List.map_map]
  show TL.joinL ([] : List Nat).toArray.toList (ls.map fun l => l.toArray.toList) = ls.flatten.toArray.toList
  simp [joinL_nil]
theorem i_join0 {K : PySem.W.Frag} {H : Hp} {Q : VK} {p : Addr} {ls : List (List Nat)} (hs : SqL K H p (ls.map S)) (hz : (ls.map List.length).sum ≤ 100000) (q : Q (S ls.flatten) H) : rJoinP K (S []) [.ref p] H Q := by
  refine ⟨⟨([] : List Nat).toArray⟩, p, ls.map fun l => (⟨l.toArray⟩ : Str), rfl, rfl, .inl ?_, ?_, ?_⟩
  · rw [List.map_map]; exact hs
  · rw [List.map_map]
    have e : (ls.map ((·.length) ∘ fun l => (⟨l.toArray⟩ : Str))) = ls.map List.length := List.map_congr_left fun l _ => str_len l
    rw [e]
    show (ls.map List.length).sum + _ * ([] : List Nat).toArray.size ≤ _
    simp
    omega
  · rw [join_nil]; exact q
theorem flat_one (cs : List Nat) : (cs.map fun c => [c]).flatten = cs := by
  induction cs with
  | nil => rfl
  | cons a r ih => rw [List.map_cons, List.flatten_cons, ih]; rfl
theorem len_one (cs : List Nat) : ((cs.map fun c => [c]).map List.length).sum = cs.length := by
  induction cs with
  | nil => rfl
  | cons a r ih => rw [List.map_cons, List.map_cons, List.sum_cons, ih, List.length_cons, List.length_cons, List.length_nil]; omega
/-- .. of signs -/
theorem i_join1 {K : PySem.W.Frag} {H : Hp} {Q : VK} {p : Addr} {cs : List Nat} (hs : SqL K H p (cs.map fun c => S [c])) (hz : cs.length ≤ 100000) (q : Q (S cs) H) : rJoinP K (S []) [.ref p] H Q := by
  refine i_join0 (ls := cs.map fun c => [c]) (by rw [List.map_map]; exact hs) (by rw [len_one]; exact hz) ?_
  rw [flat_one]
  exact q
theorem i_yes {σ : L2.St} {H : Hp} {QB : Bool → Hp → Prop} (q : QB true H) : tYes σ H QB := q
/-! ### sorted(some texts): its first -/
theorem ltCps_dec : ∀ a b : List Nat, Spec.ltCps a b = decide (a < b)
  | [], [] => by rw [decide_eq_false (List.lt_irrefl _)]; rfl
  | [], b :: t => by rw [decide_eq_true (List.nil_lt_cons b t)]; rfl
  | a :: r, [] => by rw [decide_eq_false (List.not_lt_nil _)]; rfl
  | a :: r, b :: t => by
    show (decide (a < b) || (a == b && Spec.ltCps r t)) = _
    rw [ltCps_dec r t, Bool.eq_iff_iff]
    simp [List.cons_lt_cons_iff]
theorem rising_all : ∀ (r : List Str) (p : Str), PyProof.Rows.risingS p r = true → ∀ y ∈ r, ¬ y.cps.toList < p.cps.toList
  | [], p, _, y, hy => by simp at hy
  | x :: r, p, h, y, hy => by
    have h' : (!Spec.ltCps x.cps.toList p.cps.toList && PyProof.Rows.risingS x r) = true := h
    rw [Bool.and_eq_true, ltCps_dec] at h'
    have h1 : ¬ x.cps.toList < p.cps.toList := by simpa using h'.1
    rcases List.mem_cons.mp hy with rfl | hy
    · exact h1
    · have h2 := rising_all r x h'.2 y hy
      rw [List.not_lt] at h1 h2 ⊢
      exact List.le_trans h1 h2
theorem i_sortedS {K : PySem.W.Frag} {H : Hp} {Q : VK} {a : Addr} {ls : List (List Nat)} (hs : SqL K H a (ls.map S)) (h64 : ls.length < 64)
    (q : ∀ (zs : List (List Nat)) (p : Addr), zs.Perm ls → (∀ m, zs[0]? = some m → m ∈ ls ∧ ∀ y ∈ ls, ¬ y < m) → H p = none → Q (.ref p) (upd H p (.lst (zs.map S)))) : rSortedS K [.ref a] H Q := by
  refine ⟨a, ls.map fun l => (⟨l.toArray⟩ : Str), rfl, by rw [List.map_map]; exact hs, by rw [List.length_map]; exact h64, fun ys p pm srt np => ?_⟩
  have e : ys = (ys.map fun z => z.cps.toList).map fun l => (⟨l.toArray⟩ : Str) := by
    rw [List.map_map]
    have : ys.map ((fun l => (⟨l.toArray⟩ : Str)) ∘ fun z => z.cps.toList) = ys.map id := List.map_congr_left fun z _ => rfl
    rw [this, List.map_id]
  have pm2 : (ys.map fun z => z.cps.toList).Perm ls := by
    have := pm.map fun z : Str => z.cps.toList
    rw [List.map_map] at this
    have e2 : ls.map ((fun z : Str => z.cps.toList) ∘ fun l => (⟨l.toArray⟩ : Str)) = ls.map id := List.map_congr_left fun l _ => rfl
    rw [e2, List.map_id] at this
    exact this
  have := q (ys.map fun z => z.cps.toList) p pm2 (fun m hm => ?_) np
  · rw [List.map_map] at this
    have e3 : ys.map (S ∘ fun z => z.cps.toList) = ys.map V.str := List.map_congr_left fun z _ => rfl
    rw [e3] at this
    exact this
  · have hmem : m ∈ ys.map fun z => z.cps.toList := List.mem_of_getElem? hm
    refine ⟨pm2.mem_iff.mp hmem, fun y hy => ?_⟩
    have hy2 := pm2.mem_iff.mpr hy
    obtain ⟨z, hz, rfl⟩ := List.mem_map.mp hy2
    cases ys with
    | nil => simp at hz
    | cons x r =>
      have hm' : x.cps.toList = m := by simpa using hm
      rw [← hm']
      have srt' : PyProof.Rows.risingS x r = true := srt
      rcases List.mem_cons.mp hz with rfl | hz
      · exact List.lt_irrefl _
      · exact rising_all r x srt' z hz
/-! ### isinstance(e, C), e.f in a suite; data compared -/
section
variable {K : PySem.W.Frag} {σ : L2.St} {H : Hp} {Q : VK} {a dd D C : Addr} {fs : List (Str × V)} {c x y v : V} {cv : Value} {b r : Bool} {i : Nat} {f : Str} {d1 d2 : PyData}
theorem i_isX (hdd : H dd = some (.xd fs)) (T : ExcD K D) (kc : ClsV c cv) (e : PySem.W.kitOne K (.ref D) cv = some b) (q : Q (.bl b) H) : rIsX K a (.ref D) (some dd) [.ref a, c] H Q := ⟨D, dd, fs, c, cv, b, rfl, rfl, rfl, hdd, T, kc, e, q⟩
theorem i_xf (h : σ[i]? = some (some (.ref a))) (hdd : H dd = some (.xd [(f, v)])) (q : Q v H) : tXf a (.ref C) (some dd) C f (tVar i) σ H Q := ⟨.ref a, h, rfl, rfl, dd, _, v, rfl, hdd, by simp [List.lookup], q⟩
theorem i_eq_data (h1 : Dp K H x d1) (h2 : Dp K H y d2) (s1 : SeqAt.shaped d1 = true) (s2 : SeqAt.shaped d2 = true) (e : PyData.eqv d1 d2 = r) (q : Q (.bl r) H) : eqP K x y H Q := .inr ⟨d1, d2, h1, h2, s1, s2, by rw [e]; exact q⟩
theorem i_ne_data (h1 : Dp K H x d1) (h2 : Dp K H y d2) (s1 : SeqAt.shaped d1 = true) (s2 : SeqAt.shaped d2 = true) (e : PyData.eqv d1 d2 = r) (q : Q (.bl (!r)) H) : neP K x y H Q := .inr ⟨d1, d2, h1, h2, s1, s2, by rw [e]; exact q⟩
theorem dp_bls (bs : List Bool) : DpAll K H (bs.map V.bl) (bs.map PyData.bool) := by
  induction bs with
  | nil => exact .nil
  | cons b r ih => exact .cons (.bl b) ih
theorem dp_ints (ns : List Int) : DpAll K H (ns.map V.int) (ns.map PyData.int) := by
  induction ns with
  | nil => exact .nil
  | cons b r ih => exact .cons (.int b) ih
end
theorem cIsX (K : PySem.W.Frag) {X : Cx} {a : Addr} {oe : Obj} {cls : Value} {d : Option Addr} {pn : List (Addr × Obj)} (hz : Zc cls d oe) (hf : ∃ vs, oe.data = .fields vs) (h : X.K = K := by rfl) : CallR (X.suite a ((a, oe) :: pn)) (.builtin "isinstance") (rIsX K a cls d) := h ▸ call_isX hz hf
/-- what a clause asks, at an error of a class that it names -/
theorem i_caught {K : PySem.W.Frag} {C : Addr} {c : Value} {i : Nat} {ts : Addr → Value → Option Addr → TS} {Wout : WX} {D : Ends} {d : Option Addr} {σ : L2.St} {H : Hp} (h : PySem.W.exmOne K (.ref C) c = some true)
    (q : ∀ a, H a = none → ts a (.ref C) d { nx := fun σ' H' => D.nx (σ'.set i none) H', rt := D.rt, bk := fun σ' H' => D.bk (σ'.set i none) H', ct := fun σ' H' => D.ct (σ'.set i none) H' } (σ.set i (some (.ref a))) H) : wAs K c i ts Wout D (.ref C) d σ H :=
  ⟨true, h, fun _ => q, fun z => nomatch z⟩
/-! ### isinstance and clauses, from what stands of the classes -/
theorem kit_ref {K : PySem.W.Frag} {C D : Addr} {b : Bool} (hi : PySem.W.isClsIn K D = true) (ht : PySem.W.typeIn K (.ref D) = some (.type "type")) (hs : PySem.W.subIn K (.ref D) (.ref D) = some true) (e : PySem.W.subIn K (.ref C) (.ref D) = some b) : PySem.W.kitOne K (.ref C) (.ref D) = some b := by
  unfold PySem.W.kitOne
  by_cases h : C = D
  · subst h
    rw [hs] at e
    rw [if_pos (beq_self_eq_true _)]
    exact e
  · rw [if_neg (fun z => h (by simpa using z))]
    show (if ((PySem.W.clsIn K D).isSome && PySem.W.typeIn K (.ref D) == some (.type "type")) = true then PySem.W.subIn K (.ref C) (.ref D) else none) = _
    rw [show (PySem.W.clsIn K D).isSome = true from hi, ht, if_pos (by simp)]
    exact e
theorem kit_base {K : PySem.W.Frag} {C : Addr} {T : String} {b : Bool} (hm : PySem.W.kitMeta T = true) (e : PySem.W.subIn K (.ref C) (.type T) = some b) : PySem.W.kitOne K (.ref C) (.type T) = some b := by
  unfold PySem.W.kitOne
  rw [if_neg (by simp)]
  show (if PySem.W.kitMeta T = true then PySem.W.subIn K (.ref C) (.type T) else none) = _
  rw [if_pos hm]
  exact e
theorem exm_ref {K : PySem.W.Frag} {C D : Addr} {b : Bool} (hi : PySem.W.isClsIn K D = true) (ht : PySem.W.typeIn K (.ref D) = some (.type "type")) (hb : PySem.W.subIn K (.ref D) (.type "BaseException") = some true) (e : PySem.W.subIn K (.ref C) (.ref D) = some b) : PySem.W.exmOne K (.ref C) (.ref D) = some b := by
  unfold PySem.W.exmOne
  rw [hb, if_pos (by simp)]
  show (if ((PySem.W.clsIn K D).isSome && PySem.W.typeIn K (.ref D) == some (.type "type")) = true then PySem.W.subIn K (.ref C) (.ref D) else none) = _
  rw [show (PySem.W.clsIn K D).isSome = true from hi, ht, if_pos (by simp)]
  exact e
/-! ### what is never come to; a comprehension in a comprehension -/
theorem pe_never {X : Cx} {e : Expr} : PE X e (fun _ _ _ => False) := ⟨fun _ _ _ _ _ _ h => h.elim⟩
theorem passN {X : Cx} : Passes (L2.CX X.prog X.w) X E0 := fun _ _ _ _ _ _ _ ⟨_, _, _, _, _, _, _, _, _, _, _, _, h⟩ => h.elim
theorem pss_never {X : Cx} {st : List Stmt} : PSs X st (fun _ _ _ => False) := ⟨fun _ _ _ _ _ _ h => h.elim⟩
theorem blkOk_in {N : List Str} {sc scope scope2 : Scope} {own : List (Str × Nat)} {X : Cx} {s : Shared} {H : Hp} {cl : List (Str × Addr)} {C : Addr} {fp : List Addr} (hN : X.N = N) (he : X.env.scope = sc) (h : blkC N (relS scope sc) scope2 own = true) :
    BlkOk (X.blk s H scope (compEnvC scope cl C X.env) fp).N (X.blk s H scope (compEnvC scope cl C X.env) fp).env.scope scope2 own := by
  subst hN he
  exact blkOk_by h
theorem i_is_bl {H : Hp} {Q : VK} {b : Bool} (q : Q (.bl false) H) : isP (.bl b) .non H Q := ⟨rfl, q⟩
theorem i_isn_bl {H : Hp} {Q : VK} {b : Bool} (q : Q (.bl true) H) : isNotP (.bl b) .non H Q := ⟨rfl, q⟩
theorem i_int_bl {H : Hp} {Q : VK} {b : Bool} (q : Q (.int (if b then 1 else 0)) H) : rIntP [.bl b] H Q := .inr ⟨b, rfl, q⟩
section
variable {K : PySem.W.Frag} {σ : L2.St} {H : Hp} {Q : VK} {D : Ends} {te : TE} {ta : TA} {i j : Nat} {u v w x : V} {a : Addr} {Qs : L2.St → Hp → Prop}
theorem i_par (q : ta σ H fun vs H1 => ∃ v w, vs = [v, w] ∧ D.nx ((σ.set i (some v)).set j (some w)) H1) : tPar i j ta D σ H := q
theorem i_par2 (q : D.nx ((σ.set i (some v)).set j (some w)) H) : ∃ v' w', [v, w] = [v', w'] ∧ D.nx ((σ.set i (some v')).set j (some w')) H := ⟨v, w, rfl, q⟩
theorem i_aug {ti : TIp} (h : σ[i]? = some (some x)) (q : te σ H fun y H1 => ti x y H1 fun z H2 => D.nx (σ.set i (some z)) H2) : tAug i te ti D σ H := ⟨x, h, q⟩
theorem i_ipI {f : Int → Int → Int} {a b : Int} (q : Q (.int (f a b)) H) : ipI f (.int a) (.int b) H Q := ⟨a, b, rfl, rfl, q⟩
theorem i_gtup2 (h : SqT K H a [u, v]) (q : Qs ((σ.set i (some u)).set j (some v)) H) : gTup K 2 (gCons (gName i) (gCons (gName j) gNil)) (.ref a) σ H Qs := ⟨a, _, rfl, h, rfl, u, _, rfl, v, _, rfl, rfl, q⟩
theorem i_while {c : TT} {tb : TS} (W : Nat → L2.St → Hp → Prop) (m : Nat) (h0 : W m σ H)
    (h : ∀ m σ H, W m σ H → c σ H fun b H1 => if b = true then ∃ N : L2.St → Hp → Prop, (∀ σ' H', N σ' H' → ∃ m', m' < m ∧ W m' σ' H') ∧ tb { D with nx := N, ct := N, bk := D.nx } σ H1 else D.nx σ H1) : tWhile c tb D σ H := ⟨W, ⟨m, h0⟩, h⟩
theorem i_turn {tb : TS} {W : Nat → L2.St → Hp → Prop} {m : Nat} (q : tb { D with nx := fun σ' H' => ∃ m', m' < m ∧ W m' σ' H', ct := fun σ' H' => ∃ m', m' < m ∧ W m' σ' H', bk := D.nx } σ H) :
    ∃ N : L2.St → Hp → Prop, (∀ σ' H', N σ' H' → ∃ m', m' < m ∧ W m' σ' H') ∧ tb { D with nx := N, ct := N, bk := D.nx } σ H := ⟨_, fun _ _ h => h, q⟩
theorem i_lstRg1 (q : te σ H fun x H1 => ∃ n, x = .int n ∧ RgOk 0 n ∧ ∀ q, H1 q = none → Q (.ref q) (upd H1 q (.lst (rgV 0 n)))) : tLstRg (tRg1 te) σ H Q := q
theorem rgV_nat (n : Nat) : rgV 0 (n : Int) = (List.range n).map fun (i : Nat) => V.int (i : Int) := by
  unfold rgV
  rw [Int.sub_zero, Int.toNat_natCast]
  exact List.map_congr_left fun i _ => by rw [Int.zero_add]
theorem i_rg {n : Nat} {P : Addr → Prop} (hn : n ≤ 100000) (q : ∀ q, H q = none → P q) : RgOk 0 (n : Int) ∧ ∀ q, H q = none → P q := ⟨⟨by omega, by omega, by omega, by omega, by omega⟩, q⟩
end
end Fg
/-! Loops and comprehensions, by what a turn does. -/
namespace Fg
open PySem PySem.Spec PyProof.Rows L2
theorem same_upd {H : Hp} {p : Addr} {o : HO} (h : H p = none) : Same H (upd H p o) := fun b x e => by
  rw [upd_ne (ne_of_none e h)]
  exact e
theorem Same.upd {H H' : Hp} {p : Addr} {o : HO} (e : Same H H') (h : H p = none) : Same H (upd H' p o) := fun b x eb => by
  rw [upd_ne (ne_of_none eb h)]
  exact e b x eb
theorem Same.tup {K : PySem.W.Frag} {H H' : Hp} {a : Addr} {xs : List V} (e : Same H H') (h : SqT K H a xs) : SqT K H' a xs := by
  rcases h with (h | ⟨o, h⟩) | h
  · exact .inl (.inl (e _ _ h))
  · exact .inl (.inr ⟨o, e _ _ h⟩)
  · exact .inr h
section
variable {K : PySem.W.Frag} {σ : L2.St} {H : Hp} {Q : VK} {D : Ends} {te tl : TE} {tt : TT} {ta : TA} {tb : TS} {j : Nat} {g : TG} {a : Addr} {xs : List V} {z : List Nat} {vs : List Nat}
/-- for j in range(n) -/
theorem f_rng1 (n : Nat) (ha : ∀ R : List V → Hp → Prop, R [.int (n : Int)] H → ta σ H R) (hn : n ≤ 100000000) (Pv : Nat → L2.St → Hp → Prop) (h0 : Pv 0 σ H)
    (hs : ∀ i σ' H', i < n → Pv i σ' H' → g (.int (i : Int)) σ' H' fun σ2 H2 => tb { D with nx := Pv (i + 1), ct := Pv (i + 1), bk := D.nx } σ2 H2) (hd : ∀ σ' H', Pv n σ' H' → D.nx σ' H') : tFor (iRng1 ta) g tb D σ H := by
  refine ha _ ⟨(n : Int), rfl, by omega, by omega, ?_⟩
  rw [Int.toNat_natCast]
  refine for_range Pv h0 (fun i σ' H' hi p => ?_) hd
  rw [Int.zero_add]
  exact hs i σ' H' hi p
/-- for j in range(lo, n) -/
theorem f_rng2 (lo n : Nat) (ha : ∀ R : List V → Hp → Prop, R [.int (lo : Int), .int (n : Int)] H → ta σ H R) (hn : lo ≤ 100000 ∧ n ≤ 100000000) (Pv : Nat → L2.St → Hp → Prop) (h0 : Pv 0 σ H)
    (hs : ∀ i σ' H', lo + i < n → Pv i σ' H' → g (.int ((lo + i : Nat) : Int)) σ' H' fun σ2 H2 => tb { D with nx := Pv (i + 1), ct := Pv (i + 1), bk := D.nx } σ2 H2) (hd : ∀ σ' H', Pv (n - lo) σ' H' → D.nx σ' H') : tFor (iRng2 ta) g tb D σ H := by
  refine ha _ ⟨(lo : Int), (n : Int), rfl, ⟨by omega, by omega, by omega, by omega⟩, ?_⟩
  have e : ((n : Int) - (lo : Int)).toNat = n - lo := by omega
  rw [e]
  refine for_range Pv h0 (fun i σ' H' hi p => ?_) hd
  rw [← Int.natCast_add]
  exact hs i σ' H' (by omega) p
theorem f_lst (ha : ∀ R : VK, R (.ref a) H → te σ H R) (hx : SqL K H a xs) (Pv : Nat → L2.St → Hp → Prop) (h0 : Pv 0 σ H) (hl : ∀ i σ' H', i ≤ xs.length → Pv i σ' H' → SqL K H' a xs)
    (hs : ∀ i x σ' H', xs[i]? = some x → Pv i σ' H' → g x σ' H' fun σ2 H2 => tb { D with nx := Pv (i + 1), ct := Pv (i + 1), bk := D.nx } σ2 H2) (hd : ∀ σ' H', Pv xs.length σ' H' → D.nx σ' H') : tFor (iAny K te) g tb D σ H :=
  ha _ (.inl ⟨a, xs, rfl, hx, for_list Pv h0 hl hs hd⟩)
theorem f_tup (ha : ∀ R : VK, R (.ref a) H → te σ H R) (hx : SqT K H a xs) (Pv : Nat → L2.St → Hp → Prop) (h0 : Pv 0 σ H) (hl : ∀ i σ' H', i ≤ xs.length → Pv i σ' H' → SqT K H' a xs)
    (hs : ∀ i x σ' H', xs[i]? = some x → Pv i σ' H' → g x σ' H' fun σ2 H2 => tb { D with nx := Pv (i + 1), ct := Pv (i + 1), bk := D.nx } σ2 H2) (hd : ∀ σ' H', Pv xs.length σ' H' → D.nx σ' H') : tFor (iAny K te) g tb D σ H :=
  ha _ (.inr (.inl ⟨a, xs, rfl, hx, for_tup Pv h0 hl hs hd⟩))
theorem f_str (ha : ∀ R : VK, R (S z) H → te σ H R) (Pv : Nat → L2.St → Hp → Prop) (h0 : Pv 0 σ H)
    (hs : ∀ i c σ' H', z[i]? = some c → Pv i σ' H' → g (S [c]) σ' H' fun σ2 H2 => tb { D with nx := Pv (i + 1), ct := Pv (i + 1), bk := D.nx } σ2 H2) (hd : ∀ σ' H', Pv z.length σ' H' → D.nx σ' H') : tFor (iAny K te) g tb D σ H := by
  have e : (⟨z.toArray⟩ : Str).cps.size = z.length := str_len z
  refine ha _ (.inr (.inr ⟨_, rfl, for_it walk_str Pv h0 (fun _ _ _ _ _ => True.intro) (fun i x σ' H' H2 hi p y => ?_) (by rw [e]; exact hd)⟩))
  obtain ⟨rfl, c, hc, rfl⟩ := y
  exact hs i c σ' _ (by simpa using hc) p
/-- for i, c in enumerate(text) -/
theorem f_enumS {i1 i2 : Nat} (ha : ∀ R : List V → Hp → Prop, R [S z] H → ta σ H R) (Pv : Nat → L2.St → Hp → Prop) (h0 : Pv 0 σ H)
    (hs : ∀ i c σ' H' T, z[i]? = some c → Pv i σ' H' → H' T = none → tb { D with nx := Pv (i + 1), ct := Pv (i + 1), bk := D.nx } ((σ'.set i1 (some (.int (i : Int)))).set i2 (some (S [c]))) (upd H' T (.tup [.int (i : Int), S [c]]))) (hd : ∀ σ' H', Pv z.length σ' H' → D.nx σ' H') :
    tFor (iEnumP K ta) (gTup K 2 (gCons (gName i1) (gCons (gName i2) gNil))) tb D σ H := by
  have e : (⟨z.toArray⟩ : Str).cps.size = z.length := str_len z
  refine ha _ (.inr ⟨⟨z.toArray⟩, rfl, ?_⟩)
  have w : Walk (Ites ⟨z.toArray⟩) z.length (fun _ => True) (fun i Ha v Hb => ∃ T c, v = .ref T ∧ Ha T = none ∧ Hb = upd Ha T (.tup [.int (i : Nat), S [c]]) ∧ z[i]? = some c) := by
    refine ⟨fun i H' hi _ => by show i < (⟨z.toArray⟩ : Str).cps.size; rw [e]; exact hi, fun H' _ => e.symm, fun i H' x H2 hi _ y => ?_⟩
    obtain ⟨T, c, h1, h2, h3, h4⟩ := y
    exact ⟨T, c, h1, h2, h3, by simpa using h4⟩
  refine for_it w Pv h0 (fun _ _ _ _ _ => True.intro) (fun i x σ' H' H2 hi p y => ?_) hd
  obtain ⟨T, c, rfl, nT, rfl, hc⟩ := y
  exact ⟨T, _, rfl, SqT.of upd_same, rfl, _, _, rfl, _, _, rfl, rfl, hs i c σ' H' T hc p nT⟩
/-! comprehensions whose elements leave what stood -/
def Lw (H1 : Hp) (Dl : Addr) (l : Nat → List V) (i : Nat) (H' : Hp) : Prop := H1 Dl = none ∧ Same H1 H' ∧ H' Dl = some (.lst (l i))
/-- the kept ones among the first n -/
def kept (f : Nat → Bool) (v : Nat → V) (n : Nat) : List V := ((List.range n).filter f).map v
theorem kept_yes {f : Nat → Bool} {v : Nat → V} {n : Nat} (h : f n = true) : kept f v (n + 1) = kept f v n ++ [v n] := by
  unfold kept
  rw [List.range_succ, List.filter_append, List.map_append, List.filter_cons_of_pos h] <;> rfl
theorem kept_no {f : Nat → Bool} {v : Nat → V} {n : Nat} (h : f n = false) : kept f v (n + 1) = kept f v n := by
  unfold kept
  rw [List.range_succ, List.filter_append, List.map_append, List.filter_cons_of_neg (by rw [h]; decide)]
  simp
theorem kept_len (f : Nat → Bool) (v : Nat → V) (n : Nat) : (kept f v n).length ≤ n := by
  unfold kept
  rw [List.length_map]
  exact Nat.le_trans (List.length_filter_le _ _) (by rw [List.length_range]; exact Nat.le_refl _)
theorem kept_all (v : Nat → V) (n : Nat) : kept (fun _ => true) v n = (List.range n).map v := by
  unfold kept
  rw [List.filter_eq_self.mpr (fun _ _ => rfl)]
theorem lw_turn {H1 H' : Hp} {Dl : Addr} {f : Nat → Bool} {v : Nat → V} {i : Nat} {σ2 : L2.St} (p : Lw H1 Dl (kept f v) i H') (hi : i < 100000)
    (ht : ∀ H2, Same H1 H2 → ∀ QB : Bool → Hp → Prop, (∀ H3, Same H2 H3 → QB (f i) H3) → tt σ2 H2 QB) (he : ∀ H2, Same H1 H2 → f i = true → ∀ QV : VK, (∀ H3, Same H2 H3 → QV (v i) H3) → te σ2 H2 QV) :
    tt σ2 H' fun b H3 => if b = true then te σ2 H3 fun y H4 => ∃ acc, H4 Dl = some (.lst acc) ∧ acc.length < sizeLine ∧ Lw H1 Dl (kept f v) (i + 1) (upd H4 Dl (.lst (acc ++ [y]))) else Lw H1 Dl (kept f v) (i + 1) H3 := by
  obtain ⟨n1, s1, d1⟩ := p
  refine ht H' s1 _ fun H3 s3 => ?_
  cases hf : f i with
  | true =>
    rw [if_pos rfl]
    refine he H3 (s1.trans s3) hf _ fun H4 s4 => ⟨kept f v i, s4 _ _ (s3 _ _ d1), ?_, n1, ?_, ?_⟩
    · exact Nat.lt_of_le_of_lt (kept_len f v i) (Nat.lt_trans hi (by decide))
    · exact Same.upd ((s1.trans s3).trans s4) n1
    · rw [kept_yes hf]; exact upd_same
  | false =>
    rw [if_neg (by decide)]
    exact ⟨n1, s1.trans s3, by rw [kept_no hf]; exact s3 _ _ d1⟩
/-- [te for j in range(n) if tt] -/
theorem c_rng1 (n : Nat) (ha : ∀ R : List V → Hp → Prop, R [.int (n : Int)] H → ta σ H R) (hn : n ≤ 100000) (f : Nat → Bool) (v : Nat → V) (hw : ∀ x, wipe ((wipe σ vs).set j (some x)) vs = wipe σ vs)
    (ht : ∀ i H2, i < n → Same H H2 → ∀ QB : Bool → Hp → Prop, (∀ H3, Same H2 H3 → QB (f i) H3) → tt ((wipe σ vs).set j (some (.int (i : Int)))) H2 QB)
    (he : ∀ i H2, i < n → Same H H2 → f i = true → ∀ QV : VK, (∀ H3, Same H2 H3 → QV (v i) H3) → te ((wipe σ vs).set j (some (.int (i : Int)))) H2 QV)
    (q : ∀ Dl H2, H Dl = none → Same H H2 → H2 Dl = some (.lst (kept f v n)) → Q (.ref Dl) H2) : tLc (iRng1 ta) (gName j) tt te vs σ H Q := by
  refine ha _ ⟨(n : Int), rfl, by omega, by omega, fun Dl nD => ?_⟩
  rw [Int.toNat_natCast]
  refine lc_range (Lw H Dl (kept f v)) ⟨nD, same_upd nD, upd_same⟩ (fun i H' hi p => ?_) (fun H' p => q Dl H' p.1 p.2.1 p.2.2)
  rw [Int.zero_add]
  exact ⟨hw _, lw_turn p (by omega) (fun H2 s2 => ht i H2 hi s2) (fun H2 s2 => he i H2 hi s2)⟩
/-- .. every one -/
theorem c_rng1A (n : Nat) (ha : ∀ R : List V → Hp → Prop, R [.int (n : Int)] H → ta σ H R) (hn : n ≤ 100000) (v : Nat → V) (hw : ∀ x, wipe ((wipe σ vs).set j (some x)) vs = wipe σ vs)
    (he : ∀ i H2, i < n → Same H H2 → ∀ QV : VK, (∀ H3, Same H2 H3 → QV (v i) H3) → te ((wipe σ vs).set j (some (.int (i : Int)))) H2 QV)
    (q : ∀ Dl H2, H Dl = none → Same H H2 → H2 Dl = some (.lst ((List.range n).map v)) → Q (.ref Dl) H2) : tLc (iRng1 ta) (gName j) tYes te vs σ H Q :=
  c_rng1 n ha hn (fun _ => true) v hw (fun i H2 hi s2 QB k => k H2 (L2.Same.refl H2)) (fun i H2 hi s2 _ => he i H2 hi s2) (fun Dl H2 n1 s1 d1 => q Dl H2 n1 s1 (by rw [kept_all] at d1; exact d1))
/-- [te for j in a list if tt] -/
theorem c_lst (ha : ∀ R : VK, R (.ref a) H → tl σ H R) (hx : SqL K H a xs) (hn : xs.length ≤ 100000) (f : Nat → Bool) (v : Nat → V) (hw : ∀ x, wipe ((wipe σ vs).set j (some x)) vs = wipe σ vs)
    (ht : ∀ i x H2, xs[i]? = some x → Same H H2 → ∀ QB : Bool → Hp → Prop, (∀ H3, Same H2 H3 → QB (f i) H3) → tt ((wipe σ vs).set j (some x)) H2 QB)
    (he : ∀ i x H2, xs[i]? = some x → Same H H2 → f i = true → ∀ QV : VK, (∀ H3, Same H2 H3 → QV (v i) H3) → te ((wipe σ vs).set j (some x)) H2 QV)
    (q : ∀ Dl H2, H Dl = none → Same H H2 → H2 Dl = some (.lst (kept f v xs.length)) → Q (.ref Dl) H2) : tLc (iAny K tl) (gName j) tt te vs σ H Q := by
  refine ha _ (.inl ⟨a, xs, rfl, hx, fun Dl nD => ?_⟩)
  refine lc_list (Lw H Dl (kept f v)) ⟨nD, same_upd nD, upd_same⟩ (fun i H' hi p => p.2.1.seq hx) (fun i x H' hi p => ?_) (fun H' p => q Dl H' p.1 p.2.1 p.2.2)
  have hlt := (List.getElem?_eq_some_iff.mp hi).1
  exact ⟨hw _, lw_turn p (by omega) (fun H2 s2 => ht i x H2 hi s2) (fun H2 s2 => he i x H2 hi s2)⟩
/-- [te for j in a tuple if tt] -/
theorem c_tup (ha : ∀ R : VK, R (.ref a) H → tl σ H R) (hx : SqT K H a xs) (hn : xs.length ≤ 100000) (f : Nat → Bool) (v : Nat → V) (hw : ∀ x, wipe ((wipe σ vs).set j (some x)) vs = wipe σ vs)
    (ht : ∀ i x H2, xs[i]? = some x → Same H H2 → ∀ QB : Bool → Hp → Prop, (∀ H3, Same H2 H3 → QB (f i) H3) → tt ((wipe σ vs).set j (some x)) H2 QB)
    (he : ∀ i x H2, xs[i]? = some x → Same H H2 → f i = true → ∀ QV : VK, (∀ H3, Same H2 H3 → QV (v i) H3) → te ((wipe σ vs).set j (some x)) H2 QV)
    (q : ∀ Dl H2, H Dl = none → Same H H2 → H2 Dl = some (.lst (kept f v xs.length)) → Q (.ref Dl) H2) : tLc (iAny K tl) (gName j) tt te vs σ H Q := by
  refine ha _ (.inr (.inl ⟨a, xs, rfl, hx, fun Dl nD => ?_⟩))
  refine lc_tup (Lw H Dl (kept f v)) ⟨nD, same_upd nD, upd_same⟩ (fun i H' hi p => Same.tup p.2.1 hx) (fun i x H' hi p => ?_) (fun H' p => q Dl H' p.1 p.2.1 p.2.2)
  have hlt := (List.getElem?_eq_some_iff.mp hi).1
  exact ⟨hw _, lw_turn p (by omega) (fun H2 s2 => ht i x H2 hi s2) (fun H2 s2 => he i x H2 hi s2)⟩
end
/-! a loop over what the text makes anew -/
def LoopG (g : TG) (tb : TS) (D : Ends) (σ : L2.St) : It → Hp → Prop := fun J H1 => tFor (fun _ _ R => R J H1) g tb D σ H1
section
variable {K : PySem.W.Frag} {σ : L2.St} {H : Hp} {D : Ends} {te : TE} {tb : TS} {g : TG} {a : Addr} {xs : List V}
theorem i_for (q : te σ H fun x H1 => (∃ a xs, x = .ref a ∧ SqL K H1 a xs ∧ LoopG g tb D σ (Itl K a) H1) ∨ (∃ a xs, x = .ref a ∧ SqT K H1 a xs ∧ LoopG g tb D σ (Itt K a) H1) ∨ (∃ z, x = .str z ∧ LoopG g tb D σ (Its z) H1)) : tFor (iAny K te) g tb D σ H := q
theorem i_forL {B : Prop} (hx : SqL K H a xs) (Pv : Nat → L2.St → Hp → Prop) (h0 : Pv 0 σ H) (hl : ∀ i σ' H', i ≤ xs.length → Pv i σ' H' → SqL K H' a xs)
    (hs : ∀ i x σ' H', xs[i]? = some x → Pv i σ' H' → g x σ' H' fun σ2 H2 => tb { D with nx := Pv (i + 1), ct := Pv (i + 1), bk := D.nx } σ2 H2) (hd : ∀ σ' H', Pv xs.length σ' H' → D.nx σ' H') :
    (∃ a' xs', V.ref a = .ref a' ∧ SqL K H a' xs' ∧ LoopG g tb D σ (Itl K a') H) ∨ B := .inl ⟨a, xs, rfl, hx, for_list Pv h0 hl hs hd⟩
end
/-! a loop over a range whose end the text makes anew; lists put together, cut -/
section
variable {K : PySem.W.Frag} {σ : L2.St} {H : Hp} {Q : VK} {D : Ends} {ta : TA} {tb : TS} {g : TG} {a b : Addr} {xs ys : List V}
theorem i_forR (q : ta σ H fun vs H1 => ∃ j : Int, vs = [.int j] ∧ -(2 ^ 62) ≤ j ∧ j < 2 ^ 62 ∧ LoopG g tb D σ (Itr 0 j.toNat) H1) : tFor (iRng1 ta) g tb D σ H := q
theorem i_rngD {n : Int} (h0 : 0 ≤ n) (h : n ≤ 100000000) (Pv : Nat → L2.St → Hp → Prop) (hp : Pv 0 σ H)
    (hs : ∀ (i : Nat) σ' H', (i : Int) < n → Pv i σ' H' → g (.int (i : Int)) σ' H' fun σ2 H2 => tb { D with nx := Pv (i + 1), ct := Pv (i + 1), bk := D.nx } σ2 H2) (hd : ∀ σ' H', Pv n.toNat σ' H' → D.nx σ' H') :
    ∃ j : Int, [V.int n] = [.int j] ∧ -(2 ^ 62) ≤ j ∧ j < 2 ^ 62 ∧ LoopG g tb D σ (Itr 0 j.toNat) H := by
  refine ⟨n, rfl, by omega, by omega, ?_⟩
  refine for_range Pv hp (fun i σ' H' hi p => ?_) hd
  rw [Int.zero_add]
  exact hs i σ' H' (by omega) p
theorem i_catL (h1 : H a = some (.lst xs)) (h2 : H b = some (.lst ys)) (hz : xs.length + ys.length ≤ 100000) (q : ∀ p, H p = none → Q (.ref p) (upd H p (.lst (xs ++ ys)))) : addP K (.ref a) (.ref b) H Q :=
  .inr (.inr (.inl ⟨a, b, xs, ys, rfl, rfl, h1, h2, Nat.le_trans hz (by decide), q⟩))
theorem i_slL {lo hi : Option Int} (h : SqL K H a xs) (q : ∀ p, H p = none → Q (.ref p) (upd H p (.lst (cutV xs lo hi)))) : slP K (.ref a) lo hi H Q := .inl ⟨a, xs, rfl, h, q⟩
theorem cutV_init (xs : List V) : cutV xs none (some (-1)) = xs.dropLast := by
  unfold cutV
  rw [HT.sIx_none, List.drop_zero, Nat.sub_zero, List.dropLast_eq_take]
  have e : HT.sIx xs.length xs.length (some (-1)) = xs.length - 1 := by
    unfold HT.sIx
    dsimp only
    rw [if_pos (by decide)]
    omega
  rw [e]
theorem cutV_to {xs : List V} (k : Nat) : cutV xs none (some (k : Int)) = xs.take k := by
  unfold cutV
  rw [HT.sIx_none, List.drop_zero, Nat.sub_zero, HT.sIx_nat]
  by_cases h : k ≤ xs.length
  · rw [Nat.min_eq_left h]
  · rw [Nat.min_eq_right (by omega), List.take_length, List.take_of_length_le (by omega)]
theorem atI_last {xs : List V} {v : V} : atI (xs ++ [v]) (-1) = some v := by
  unfold atI ixN
  rw [if_neg (by decide), if_pos (by rw [List.length_append, List.length_singleton]; omega), Option.bind_some]
  have e : (-1 + ((xs ++ [v]).length : Int)).toNat = xs.length := by rw [List.length_append, List.length_singleton]; omega
  rw [e, List.getElem?_append_right (Nat.le_refl _), Nat.sub_self]
  rfl
end
end Fg
/-! The reader of rhythm texts, in plain Lean. -/
namespace Fg
open PySem PySem.Spec PyProof.Rows L2
abbrev SG : List Nat := [46, 103, 114, 119]
abbrev DG : List Nat := [48, 49, 50, 51, 52, 53, 54, 55, 56, 57]
def Row (l : List Nat) : Prop := ∀ c ∈ l, c ∈ SG
def rpt (n : Nat) (l : List Nat) : List Nat := (List.replicate n l).flatten
theorem rpt_len (n : Nat) (l : List Nat) : (rpt n l).length = n * l.length := by simp [rpt, List.length_flatten]
theorem rpt_succ (k : Nat) (t : List Nat) : rpt (k + 1) t = t ++ rpt k t := by unfold rpt; rw [List.replicate_succ, List.flatten_cons]
theorem rpt_get : ∀ (k : Nat) (t : List Nat) (j : Nat), j < k * t.length → (rpt k t)[j]? = t[j % t.length]?
  | 0, t, j, h => by rw [Nat.zero_mul] at h; omega
  | k + 1, t, j, h => by
    rw [rpt_succ]
    by_cases hj : j < t.length
    · rw [List.getElem?_append_left hj, Nat.mod_eq_of_lt hj]
    · rw [List.getElem?_append_right (by omega), rpt_get k t (j - t.length) (by rw [Nat.succ_mul] at h; omega)]
      rw [← Nat.mod_eq_sub_mod (by omega)]
/-- the first lit one -/
def firstLit : List Nat → Nat
  | [] => 46
  | c :: r => if c = 46 then firstLit r else c
/-- a stretch as the reader has it -/
def Sv (n : Nat) (r : List Nat) : HO := .tup [.int (n : Int), if n ≤ 24 then S r else .non]
abbrev Stv := Nat × List Nat
def lcmL (ps : List Stv) : Nat := ps.foldl (fun b p => Nat.lcm b p.1) 1
theorem lcmL_snoc (ps : List Stv) (p : Stv) : lcmL (ps ++ [p]) = Nat.lcm (lcmL ps) p.1 := by
  unfold lcmL
  rw [List.foldl_append]
  rfl
def showN (ps : List Stv) (n : Nat) : List Nat := (List.range n).map fun i => firstLit (ps.map fun p => (rpt (n / p.1) p.2).getD i 0)
theorem showN_len (ps : List Stv) (n : Nat) : (showN ps n).length = n := by simp [showN]
theorem dvd_fold (ps : List Stv) : ∀ b, (b ∣ ps.foldl (fun b p => Nat.lcm b p.1) b) ∧ ∀ p ∈ ps, p.1 ∣ ps.foldl (fun b p => Nat.lcm b p.1) b := by
  induction ps with
  | nil => exact fun b => ⟨Nat.dvd_refl _, by simp⟩
  | cons q r ih =>
    intro b
    obtain ⟨h1, h2⟩ := ih (Nat.lcm b q.1)
    refine ⟨Nat.dvd_trans (Nat.dvd_lcm_left _ _) h1, fun p hp => ?_⟩
    rcases List.mem_cons.mp hp with rfl | hp
    · exact Nat.dvd_trans (Nat.dvd_lcm_right _ _) h1
    · exact h2 p hp
theorem dvd_lcmL {ps : List Stv} {p : Stv} (h : p ∈ ps) : p.1 ∣ lcmL ps := (dvd_fold ps 1).2 p h
theorem fold_pos (ps : List Stv) (h : ∀ p ∈ ps, 1 ≤ p.1) : ∀ b, 1 ≤ b → 1 ≤ ps.foldl (fun b p => Nat.lcm b p.1) b := by
  induction ps with
  | nil => exact fun b hb => hb
  | cons q r ih => exact fun b hb => ih (fun p hp => h p (List.mem_cons_of_mem _ hp)) _ (Nat.lcm_pos hb (h q List.mem_cons_self))
theorem lcmL_pos {ps : List Stv} (h : ∀ p ∈ ps, 1 ≤ p.1) : 1 ≤ lcmL ps := fold_pos ps h 1 (Nat.le_refl _)
/-! ### digits -/
def run (z : List Nat) (a : Nat) : List Nat := (z.drop a).takeWhile fun c => decide (c ∈ DG)
def bd (z : List Nat) (a : Nat) : Nat := a + (run z a).length
theorem run_step {z : List Nat} {m c : Nat} (h : z[m]? = some c) (hc : c ∈ DG) : run z m = c :: run z (m + 1) := by
  obtain ⟨hl, rfl⟩ := List.getElem?_eq_some_iff.mp h
  unfold run
  rw [List.drop_eq_getElem_cons hl, List.takeWhile_cons_of_pos (by simpa using hc)]
theorem run_stop {z : List Nat} {m : Nat} (h : ∀ c, z[m]? = some c → c ∉ DG) : run z m = [] := by
  unfold run
  by_cases hl : m < z.length
  · rw [List.drop_eq_getElem_cons hl, List.takeWhile_cons_of_neg (by simpa using h _ (List.getElem?_eq_getElem hl))]
  · rw [List.drop_of_length_le (by omega)]
    rfl
theorem bd_step {z : List Nat} {m c : Nat} (h : z[m]? = some c) (hc : c ∈ DG) : bd z (m + 1) = bd z m := by
  unfold bd
  rw [run_step h hc, List.length_cons]
  omega
theorem bd_stop {z : List Nat} {m : Nat} (h : ∀ c, z[m]? = some c → c ∉ DG) : bd z m = m := by
  unfold bd
  rw [run_stop h]
  rfl
theorem bd_le {z : List Nat} {a : Nat} (h : a ≤ z.length) : bd z a ≤ z.length := by
  unfold bd run
  have := (List.takeWhile_prefix (fun c => decide (c ∈ DG)) (l := z.drop a)).length_le
  rw [List.length_drop] at this
  omega
theorem bd_ge (z : List Nat) (a : Nat) : a ≤ bd z a := Nat.le_add_right _ _
theorem bd_eq {z : List Nat} {a : Nat} : bd z a = a ↔ run z a = [] := by
  unfold bd
  constructor
  · intro h
    exact List.length_eq_zero_iff.mp (by omega)
  · intro h
    rw [h]; rfl
theorem run_digits (z : List Nat) (a : Nat) : ∀ c ∈ run z a, c ∈ DG := fun c hc => by
  unfold run at hc
  generalize z.drop a = l at hc
  induction l with
  | nil => simp at hc
  | cons x r ih =>
    by_cases h : x ∈ DG
    · rw [List.takeWhile_cons_of_pos (by simpa using h)] at hc
      rcases List.mem_cons.mp hc with rfl | hc
      · exact h
      · exact ih hc
    · rw [List.takeWhile_cons_of_neg (by simpa using h)] at hc
      simp at hc
theorem cutN_run {z : List Nat} {a : Nat} (h : a ≤ z.length) : cutN z (some (a : Int)) (some (bd z a : Nat)) = run z a := by
  unfold cutN
  rw [HT.sIx_nat, HT.sIx_nat, Nat.min_eq_left h, Nat.min_eq_left (bd_le h)]
  have e : bd z a - a = (run z a).length := by unfold bd; omega
  rw [e]
  unfold run
  exact (List.prefix_iff_eq_take.mp (List.takeWhile_prefix _)).symm
def num (l : List Nat) : Nat := l.foldl (fun n c => 10 * n + (c - 48)) 0
def within (l : List Nat) (lo hi : Nat) : Bool := decide (1 ≤ l.length) && decide (l.length ≤ 2) && decide (lo ≤ num l) && decide (num l ≤ hi)
theorem within_iff {l : List Nat} {lo hi : Nat} : within l lo hi = true ↔ (1 ≤ l.length ∧ l.length ≤ 2 ∧ lo ≤ num l ∧ num l ≤ hi) := by
  unfold within
  simp only [Bool.and_eq_true, decide_eq_true_eq, and_assoc]
/-! ### the reader -/
abbrev Res := Except Nat (Stv × Nat)
def rep (s : Stv) (t : Nat) : Stv := (s.1 * t, rpt t s.2)
def beh (s u : Stv) : Stv := (s.1 + u.1, s.2 ++ u.2)
def shown (ps : List Stv) : Stv := (lcmL ps, showN ps (lcmL ps))
def fillTo (p : Stv) (b : Nat) : Stv := (b, p.2 ++ List.replicate (b - p.1) 46)
def isStart (c : Nat) : Bool := decide (c ∈ SG) || decide (c ∈ DG)
def timesOf (r : List Nat) : Nat := if r = [] then 1 else num r
def close (z : List Nat) (t : Nat) : Res → Res
  | .error k => .error k
  | .ok (s, e) => if z[e]? = some 41 then .ok (rep s t, e + 1) else .error e
def item (rp : Option (Nat → Res)) (z : List Nat) (a : Nat) : Res :=
  if (run z a).take 1 = [48] then .error a
  else match z[bd z a]? with
    | none => .error (bd z a)
    | some c =>
      if c ∉ SG ∧ c ≠ 40 then .error (bd z a)
      else if run z a ≠ [] ∧ within (run z a) 2 24 = false then .error a
      else if c ≠ 40 then .ok (rep (1, [c]) (timesOf (run z a)), bd z a + 1)
      else match rp with
        | none => .error (bd z a)
        | some f => close z (timesOf (run z a)) (f (bd z a + 1))
def goOn (k : Stv → Nat → Res) : Res → Res
  | .error k => .error k
  | .ok (s, e) => k s e
def items (ri : Nat → Res) (z : List Nat) : Nat → Nat → Stv → Res
  | 0, a, p => .ok (p, a)
  | f + 1, a, p => match z[a]? with
    | none => .ok (p, a)
    | some c => if isStart c = true then goOn (fun s e => items ri z f e (beh p s)) (ri a) else .ok (p, a)
def filled (z : List Nat) (a : Nat) (p : Stv) : Res :=
  if run z a = [] then .error a
  else if (run z a).take 1 = [48] ∨ within (run z a) (max 1 p.1) 24 = false then .error a
  else .ok (fillTo p (num (run z a)), bd z a)
def partEnd (z : List Nat) (p : Stv) (e : Nat) : Res := if p.1 = 0 then .error e else if z[e]? = some 64 then filled z (e + 1) p else .ok (p, e)
def part (ri : Nat → Res) (z : List Nat) (a : Nat) : Res := goOn (partEnd z) (items ri z (z.length + 1 - a) a (0, []))
def more (rq : Nat → Res) (z : List Nat) : Nat → Nat → List Stv → Res
  | 0, a, ps => .ok (shown ps, a)
  | f + 1, a, ps => if z[a]? = some 38 then goOn (fun s e => more rq z f e (ps ++ [s])) (rq (a + 1)) else .ok (shown ps, a)
def parts (ri : Nat → Res) (z : List Nat) (a : Nat) : Res := goOn (fun s e => more (part ri z) z (z.length + 1 - e) e [s]) (part ri z a)
mutual
/-- an item, so many more may be opened -/
def rdItem (z : List Nat) : Nat → Nat → Res
  | 0 => item none z
  | d + 1 => item (some (rd z d)) z
def rd (z : List Nat) : Nat → Nat → Res
  | d => parts (rdItem z d) z
end
/-! ### what the reader hands back is small, and has its length -/
def Gb (s : Stv) (w : Nat) : Prop := s.1 + 1 ≤ 2 ^ (5 * w) ∧ (s.1 ≤ 24 → s.2.length = s.1)
def Gd (z : List Nat) (f : Nat → Res) : Prop := ∀ a s e, a ≤ z.length → f a = .ok (s, e) → a < e ∧ e ≤ z.length ∧ 1 ≤ s.1 ∧ Gb s (e - a)
theorem pow_mono5 {x y : Nat} (h : x ≤ y) : 2 ^ (5 * x) ≤ 2 ^ (5 * y) := Nat.pow_le_pow_right (by decide) (by omega)
theorem pow32 {w : Nat} (h : 1 ≤ w) : 32 ≤ 2 ^ (5 * w) := Nat.le_trans (by decide : 32 ≤ 2 ^ (5 * 1)) (pow_mono5 h)
theorem Gb.small {s : Stv} {w : Nat} (h : s.1 ≤ 24) (hw : 1 ≤ w) (hl : s.2.length = s.1) : Gb s w := ⟨by have := pow32 hw; omega, fun _ => hl⟩
theorem Gb.beh {p s : Stv} {x y : Nat} (hp : Gb p x) (hs : Gb s y) : Gb (beh p s) (x + y) := by
  refine ⟨?_, fun h => ?_⟩
  · show p.1 + s.1 + 1 ≤ _
    rw [Nat.mul_add, Nat.pow_add]
    refine Nat.le_trans ?_ (Nat.mul_le_mul hp.1 hs.1)
    rw [Nat.add_mul, Nat.mul_add]
    omega
  · have h : p.1 + s.1 ≤ 24 := h
    show (p.2 ++ s.2).length = p.1 + s.1
    rw [List.length_append, hp.2 (by omega), hs.2 (by omega)]
theorem Gb.rep {s : Stv} {x y t : Nat} (hs : Gb s x) (h1 : 1 ≤ s.1) (t1 : 1 ≤ t) (t2 : t ≤ 24) (hy : x + 1 ≤ y) : Gb (rep s t) y := by
  refine ⟨?_, fun h => ?_⟩
  · show s.1 * t + 1 ≤ _
    refine Nat.le_trans ?_ (pow_mono5 hy)
    rw [Nat.mul_add, Nat.pow_add]
    have := Nat.mul_le_mul hs.1 (show 24 ≤ 2 ^ (5 * 1) by decide)
    have h2 : s.1 * t ≤ s.1 * 24 := Nat.mul_le_mul_left _ t2
    omega
  · have h : s.1 * t ≤ 24 := h
    have : s.1 ≤ s.1 * t := Nat.le_mul_of_pos_right _ t1
    show (rpt t s.2).length = s.1 * t
    rw [rpt_len, hs.2 (by omega), Nat.mul_comm]
theorem times_ok {r : List Nat} (h : ¬ (r ≠ [] ∧ within r 2 24 = false)) : 1 ≤ timesOf r ∧ timesOf r ≤ 24 ∧ (r ≠ [] → 1 ≤ r.length) := by
  unfold timesOf
  by_cases e : r = []
  · rw [if_pos e]; exact ⟨by decide, by decide, fun z => absurd e z⟩
  · rw [if_neg e]
    have : within r 2 24 = true := by
      cases hw : within r 2 24 with
      | true => rfl
      | false => exact absurd ⟨e, hw⟩ h
    have := within_iff.mp this
    exact ⟨by omega, this.2.2.2, fun _ => this.1⟩
theorem item_gd {z : List Nat} {rp : Option (Nat → Res)} (hp : ∀ f, rp = some f → Gd z f) : Gd z (item rp z) := by
  intro a s e ha h
  unfold item at h
  split at h
  · cases h
  · split at h
    · cases h
    · rename_i c hc
      have hl := (List.getElem?_eq_some_iff.mp hc).1
      have hb := bd_ge z a
      split at h
      · cases h
      · split at h
        · cases h
        · rename_i ht
          obtain ⟨t1, t2, t3⟩ := times_ok ht
          split at h
          · cases h
            refine ⟨by omega, by omega, ?_, ?_⟩
            · show 1 ≤ 1 * _; omega
            · refine Gb.small (by show 1 * _ ≤ 24; omega) (by omega) ?_
              show (rpt _ [c]).length = 1 * _
              rw [rpt_len, List.length_singleton]; omega
          · split at h
            · cases h
            · rename_i f
              have g := hp f rfl
              unfold close at h
              split at h
              · cases h
              · rename_i s' e' hf
                obtain ⟨g1, g2, g3, g4⟩ := g _ _ _ (by omega) hf
                split at h
                · rename_i h41
                  have := (List.getElem?_eq_some_iff.mp h41).1
                  cases h
                  refine ⟨by omega, by omega, Nat.mul_pos g3 t1, g4.rep g3 t1 t2 (by omega)⟩
                · cases h
theorem items_gd {z : List Nat} {ri : Nat → Res} (hi : Gd z ri) {a0 : Nat} : ∀ (f a : Nat) (p s : Stv) (e : Nat), a0 ≤ a → a ≤ z.length → Gb p (a - a0) → items ri z f a p = .ok (s, e) → a ≤ e ∧ e ≤ z.length ∧ Gb s (e - a0) ∧ (s.1 = 0 ∨ a < e ∨ s = p)
  | 0, a, p, s, e, h0, ha, hp, h => by
    unfold items at h
    cases h
    exact ⟨by omega, ha, hp, .inr (.inr rfl)⟩
  | f + 1, a, p, s, e, h0, ha, hp, h => by
    unfold items at h
    split at h
    · cases h
      exact ⟨by omega, ha, hp, .inr (.inr rfl)⟩
    · split at h
      · unfold goOn at h
        split at h
        · cases h
        · rename_i s' e' hf
          obtain ⟨g1, g2, g3, g4⟩ := hi _ _ _ ha hf
          have := items_gd hi (a0 := a0) f e' (beh p s') s e (by omega) g2 (by
            have := hp.beh g4
            rw [show a - a0 + (e' - a) = e' - a0 by omega] at this
            exact this) h
          exact ⟨by omega, this.2.1, this.2.2.1, .inr (.inl (by omega))⟩
      · cases h
        exact ⟨by omega, ha, hp, .inr (.inr rfl)⟩
theorem filled_gd {z : List Nat} {a e : Nat} {p s : Stv} (ha : a ≤ z.length) (hp : p.1 ≤ 24 → p.2.length = p.1) (h : filled z a p = .ok (s, e)) : a < e ∧ e ≤ z.length ∧ 1 ≤ s.1 ∧ s.1 ≤ 24 ∧ s.2.length = s.1 := by
  unfold filled at h
  split at h
  · cases h
  · rename_i hr
    split at h
    · cases h
    · rename_i hw
      have : within (run z a) (max 1 p.1) 24 = true := by
        cases hc : within (run z a) (max 1 p.1) 24 with
        | true => rfl
        | false => exact absurd (.inr hc) hw
      obtain ⟨w1, w2, w3, w4⟩ := within_iff.mp this
      cases h
      refine ⟨by unfold bd; omega, bd_le ha, by show 1 ≤ num _; omega, w4, ?_⟩
      show (p.2 ++ List.replicate _ 46).length = num _
      rw [List.length_append, List.length_replicate, hp (by omega)]
      omega
theorem part_gd {z : List Nat} {ri : Nat → Res} (hi : Gd z ri) : Gd z (part ri z) := by
  intro a s e ha h
  unfold part goOn at h
  split at h
  · cases h
  · rename_i p e' hf
    obtain ⟨g1, g2, g3, g4⟩ := items_gd hi (a0 := a) _ a (0, []) p e' (Nat.le_refl _) ha ⟨by rw [Nat.sub_self]; decide, fun _ => rfl⟩ hf
    unfold partEnd at h
    split at h
    · cases h
    · rename_i hp0
      have hlt : a < e' := by
        rcases g4 with g | g | g
        · exact absurd g hp0
        · exact g
        · rw [g] at hp0; exact absurd rfl hp0
      split at h
      · rename_i h64
        have := (List.getElem?_eq_some_iff.mp h64).1
        obtain ⟨f1, f2, f3, f4, f5⟩ := filled_gd (by omega) g3.2 h
        exact ⟨by omega, f2, f3, Gb.small f4 (by omega) f5⟩
      · cases h
        exact ⟨hlt, g2, by omega, g3⟩
def Gps (ps : List Stv) (w : Nat) : Prop := lcmL ps + 1 ≤ 2 ^ (5 * w) ∧ ∀ p ∈ ps, 1 ≤ p.1 ∧ (p.1 ≤ 24 → p.2.length = p.1)
theorem lcm_le_mul {a b : Nat} (ha : 1 ≤ a) (hb : 1 ≤ b) : Nat.lcm a b ≤ a * b := Nat.le_of_dvd (Nat.mul_pos ha hb) (Nat.lcm_dvd_mul a b)
theorem Gps.snoc {ps : List Stv} {s : Stv} {x y : Nat} (h : Gps ps x) (h1 : 1 ≤ s.1) (hs : Gb s y) : Gps (ps ++ [s]) (x + y) := by
  refine ⟨?_, fun p hp => ?_⟩
  · rw [lcmL_snoc, Nat.mul_add, Nat.pow_add]
    refine Nat.le_trans ?_ (Nat.mul_le_mul h.1 hs.1)
    have := lcm_le_mul (lcmL_pos fun p hp => (h.2 p hp).1) h1
    rw [Nat.add_mul, Nat.mul_add]
    omega
  · rcases List.mem_append.mp hp with hp | hp
    · exact h.2 p hp
    · rw [List.mem_singleton.mp hp]; exact ⟨h1, hs.2⟩
theorem Gps.shown {ps : List Stv} {w : Nat} (h : Gps ps w) : 1 ≤ (shown ps).1 ∧ Gb (shown ps) w :=
  ⟨lcmL_pos fun p hp => (h.2 p hp).1, h.1, fun _ => showN_len _ _⟩
theorem Gps.one {s : Stv} {w : Nat} (h1 : 1 ≤ s.1) (h : Gb s w) : Gps [s] w := by
  refine ⟨?_, fun p hp => ?_⟩
  · show Nat.lcm 1 s.1 + 1 ≤ _
    rw [show Nat.lcm 1 s.1 = s.1 by simp [Nat.lcm]]; exact h.1
  · rw [List.mem_singleton.mp hp]; exact ⟨h1, h.2⟩
theorem Gps.mono {ps : List Stv} {x y : Nat} (h : Gps ps x) (e : x ≤ y) : Gps ps y := ⟨Nat.le_trans h.1 (pow_mono5 e), h.2⟩
theorem more_gd {z : List Nat} {rq : Nat → Res} (hi : Gd z rq) {a0 : Nat} : ∀ (f a : Nat) (ps : List Stv) (s : Stv) (e : Nat), a0 ≤ a → a ≤ z.length → Gps ps (a - a0) → more rq z f a ps = .ok (s, e) → a ≤ e ∧ e ≤ z.length ∧ 1 ≤ s.1 ∧ Gb s (e - a0)
  | 0, a, ps, s, e, h0, ha, hp, h => by
    unfold more at h
    cases h
    exact ⟨by omega, ha, hp.shown⟩
  | f + 1, a, ps, s, e, h0, ha, hp, h => by
    unfold more at h
    split at h
    · rename_i h38
      have hl := (List.getElem?_eq_some_iff.mp h38).1
      unfold goOn at h
      split at h
      · cases h
      · rename_i s' e' hf
        obtain ⟨g1, g2, g3, g4⟩ := hi _ _ _ (by omega) hf
        have := more_gd hi (a0 := a0) f e' (ps ++ [s']) s e (by omega) g2 ((hp.snoc g3 g4).mono (by omega)) h
        exact ⟨by omega, this.2⟩
    · cases h
      exact ⟨by omega, ha, hp.shown⟩
theorem parts_gd {z : List Nat} {ri : Nat → Res} (hi : Gd z ri) : Gd z (parts ri z) := by
  intro a s e ha h
  unfold parts goOn at h
  split at h
  · cases h
  · rename_i s' e' hf
    obtain ⟨g1, g2, g3, g4⟩ := part_gd hi _ _ _ ha hf
    have := more_gd (part_gd hi) (a0 := a) _ e' [s'] s e (by omega) g2 (Gps.one g3 g4) h
    exact ⟨by omega, this.2⟩
theorem rdItem_zero (z : List Nat) : rdItem z 0 = item none z := by unfold rdItem; rfl
theorem rdItem_succ (z : List Nat) (d : Nat) : rdItem z (d + 1) = item (some (rd z d)) z := by conv => lhs; unfold rdItem
theorem rd_eq (z : List Nat) (d : Nat) : rd z d = parts (rdItem z d) z := by unfold rd; rfl
theorem rdItem_gd (z : List Nat) : ∀ d, Gd z (rdItem z d)
  | 0 => by rw [rdItem_zero]; exact item_gd fun f e => nomatch e
  | d + 1 => by
    rw [rdItem_succ]
    refine item_gd fun f e => ?_
    cases e
    rw [rd_eq]
    exact parts_gd (rdItem_gd z d)
theorem rd_gd (z : List Nat) (d : Nat) : Gd z (rd z d) := by rw [rd_eq]; exact parts_gd (rdItem_gd z d)
end Fg
/-! What the walk of the reader asks. -/
namespace Fg
open PySem PySem.Spec PyProof.Rows L2
theorem range_getD_map {α β : Type} (xs : List α) (d : α) (g : α → β) : (List.range xs.length).map (fun i => g (xs.getD i d)) = xs.map g := by
  refine List.ext_getElem? fun i => ?_
  rw [List.getElem?_map, List.getElem?_map]
  by_cases h : i < xs.length
  · rw [List.getElem?_range h, Option.map_some, List.getD_eq_getElem?_getD, List.getElem?_eq_getElem h]
    rfl
  · rw [List.getElem?_eq_none (by simpa using h), List.getElem?_eq_none (by omega)]
    rfl
def PartsAt (H : Hp) (qs : List Addr) (ps : List Stv) : Prop := qs.length = ps.length ∧ ∀ (i : Nat) (q : Addr) (p : Stv), qs[i]? = some q → ps[i]? = some p → H q = some (Sv p.1 p.2)
theorem PartsAt.mono {H H' : Hp} {qs : List Addr} {ps : List Stv} (h : PartsAt H qs ps) (s : Same H H') : PartsAt H' qs ps := ⟨h.1, fun i q p a b => s _ _ (h.2 i q p a b)⟩
/-- below some thousand bits -/
def Big (n : Nat) : Prop := n < 2 ^ 8600
theorem Big.le {n m : Nat} (h : Big n) (e : m ≤ n) : Big m := Nat.lt_of_le_of_lt e h
theorem Big.div {n : Nat} {a : Int} (h : Big n) (h0 : (0 : Int) < (n : Int)) : CDivW a (n : Int) := wide_div (b := 8600) h0 (by rw [Int.natAbs_natCast]; exact h) (by decide) (by decide)
theorem Big.mul {n m : Nat} (h : Big n) (h' : Big m) : IntMulOk (n : Int) (m : Int) := CMulW.ok (wide_mul (a := 8600) (b := 8600) (by rw [Int.natAbs_natCast]; exact h) (by rw [Int.natAbs_natCast]; exact h') (by decide) (by decide) (by decide))
theorem Gb.big {s : Stv} {w : Nat} (h : Gb s w) (hw : w ≤ 1700) : Big s.1 := Nat.lt_of_lt_of_le (Nat.lt_of_lt_of_le (Nat.lt_succ_self _) h.1) (Nat.pow_le_pow_right (by decide) (by omega))
theorem Gps.big {ps : List Stv} {w : Nat} (h : Gps ps w) (hw : w ≤ 1700) : Big (lcmL ps) := Nat.lt_of_lt_of_le (Nat.lt_of_lt_of_le (Nat.lt_succ_self _) h.1) (Nat.pow_le_pow_right (by decide) (by omega))
theorem lcmL_take {ps : List Stv} (h : ∀ p ∈ ps, 1 ≤ p.1) (i : Nat) : lcmL (ps.take i) ≤ lcmL ps := by
  refine Nat.le_of_dvd (lcmL_pos h) ?_
  conv => rhs; rw [← List.take_append_drop i ps]
  unfold lcmL
  rw [List.foldl_append]
  exact (dvd_fold _ _).1
/-- int(text) -/
def rIntTx : RC := fun xs H Q => ∃ a n, xs = [.str a] ∧ PySem.intText? a = some n ∧ a.length ≤ 640 ∧ Q (.int n) H
theorem call_intTx {X : Cx} : CallR X (.type "int") rIntTx := call_int_str
theorem int1 : ∀ c ∈ DG, PySem.intText? ⟨#[c]⟩ = some ((num [c] : Nat) : Int) := by decide +kernel
theorem int2 : ∀ c ∈ DG, ∀ d ∈ DG, PySem.intText? ⟨#[c, d]⟩ = some ((num [c, d] : Nat) : Int) := by decide +kernel
theorem i_intTx {r : List Nat} {H : Hp} {Q : VK} (h1 : 1 ≤ r.length) (h2 : r.length ≤ 2) (hd : ∀ c ∈ r, c ∈ DG) (q : Q (.int ((num r : Nat) : Int)) H) : rIntTx [S r] H Q := by
  match r, h1, h2, hd, q with
  | [c], _, _, hd, q => exact ⟨_, _, rfl, int1 c (hd c (by simp)), (show 1 ≤ 640 by omega), q⟩
  | [c, d], _, _, hd, q => exact ⟨_, _, rfl, int2 c (hd c (by simp)) d (hd d (by simp)), (show 2 ≤ 640 by omega), q⟩
/-- str(int), of small ones -/
def dec (n : Nat) : List Nat := if n < 10 then [48 + n] else [48 + n / 10, 48 + n % 10]
theorem dec_str : ∀ n : Nat, n < 100 → (toString (n : Int) : Str) = ⟨(dec n).toArray⟩ := by decide +kernel
def rStrS : RC := fun xs H Q => ∃ n : Nat, xs = [.int (n : Int)] ∧ n < 100 ∧ Q (S (dec n)) H
theorem call_strS {X : Cx} : CallR X (.type "str") rStrS := by
  intro pins s σ H xs us Q I rs h
  obtain ⟨n, rfl, hn, q⟩ := h
  refine call_str_int pins s σ H _ us Q I rs ⟨(n : Int), rfl, ?_, ?_⟩
  · have : (n : Int).natAbs = n := Int.natAbs_natCast n
    rw [this]
    by_cases h0 : n = 0
    · subst h0; decide
    · exact Nat.lt_trans ((Nat.log2_lt h0).mpr (Nat.lt_trans hn (by decide : 100 < 2 ^ 7))) (by decide)
  · have e : V.str (toString (n : Int)) = S (dec n) := by unfold S; rw [dec_str n hn]
    rw [e]; exact q
def rpOf (z : List Nat) : Nat → Option (Nat → Res)
  | 0 => none
  | d + 1 => some (rd z d)
theorem rdItem_item (z : List Nat) (d : Nat) : rdItem z d = item (rpOf z d) z := by
  cases d with
  | zero => exact rdItem_zero z
  | succ d => exact rdItem_succ z d
/-- what is no string -/
def NoStr (H : Hp) (x : V) : Prop := x = .non ∨ (∃ b, x = .bl b) ∨ (∃ i, x = .int i) ∨ ∃ a xs, x = .ref a ∧ (H a = some (.tup xs) ∨ H a = some (.lst xs))
theorem NoStr.mono {H H' : Hp} {x : V} (h : NoStr H x) (s : Same H H') : NoStr H' x := by
  rcases h with h | h | h | ⟨a, xs, h, h2⟩
  · exact .inl h
  · exact .inr (.inl h)
  · exact .inr (.inr (.inl h))
  · exact .inr (.inr (.inr ⟨a, xs, h, h2.imp (s _ _) (s _ _)⟩))
end Fg
/-! A reader with a stack, and that it reads as the other. -/
namespace Fg
open PySem PySem.Spec PyProof.Rows L2
inductive Fin where
  | bad (k : Nat)
  | done (s : Stv)
abbrev Fr := Nat × List Stv × Stv
def lclose (st : List Fr) (ps : List Stv) (p : Stv) (c : Nat) : Option (List Fr × List Stv × Stv) :=
  if p.1 = 0 ∨ (c = 41 ∧ st = []) then none
  else if c = 38 then some (st, ps ++ [p], (0, []))
  else match st with
    | [] => none
    | (t, ps', p') :: rest => some (rest, ps', beh p' (rep (shown (ps ++ [p])) t))
def lfill (p : Stv) (r : List Nat) : Option Stv := if r.take 1 = [48] ∨ within r (max 1 p.1) 24 = false then none else some (fillTo p (num r))
abbrev OPS : List Nat := [46, 103, 114, 119, 40]
/-- none: wrong; some none: what follows is wrong -/
def ltimes (r : List Nat) (h : Option Nat) : Option (Option Nat) :=
  if r = [] then some (some 1)
  else if r.take 1 = [48] then none
  else if (match h with | none => true | some c => !decide (c ∈ OPS)) = true then some none
  else if within r 2 24 = false then none
  else some (some (num r))
def lread (z : List Nat) : Nat → List Fr → List Stv → Stv → Bool → Nat → Fin
  | 0, _, _, _, _, _ => .bad 0
  | f + 1, st, ps, p, fl, a =>
    match z[a]? with
    | none => if p.1 = 0 ∨ st ≠ [] then .bad z.length else .done (shown (ps ++ [p]))
    | some c =>
      if c = 38 ∨ c = 41 then
        match lclose st ps p c with
        | none => .bad a
        | some (st', ps', p') => lread z f st' ps' p' false (a + 1)
      else if c = 64 then
        if fl = true ∨ p.1 = 0 then .bad a
        else if run z (a + 1) = [] then .bad (a + 1)
        else match lfill p (run z (a + 1)) with
          | none => .bad (a + 1)
          | some p' => lread z f st ps p' true (bd z (a + 1))
      else if fl = true then .bad a
      else match ltimes (run z a) z[bd z a]? with
        | none => .bad a
        | some none => .bad (bd z a)
        | some (some t) => match z[bd z a]? with
          | none => .bad (bd z a)
          | some h =>
            if h ∉ OPS ∨ (h = 40 ∧ (run z a = [] ∨ st.length = 6)) then .bad (bd z a)
            else if h = 40 then lread z f ((t, ps, p) :: st) [] (0, []) false (bd z a + 1)
            else lread z f st ps (beh p (rep (1, [h]) t)) false (bd z a + 1)
/-! ### the other one, by what follows -/
theorem items_fuel {z : List Nat} {ri : Nat → Res} (hi : Gd z ri) : ∀ (f f' a : Nat) (p : Stv), a ≤ z.length → z.length + 1 ≤ f + a → z.length + 1 ≤ f' + a → items ri z f a p = items ri z f' a p
  | 0, _, a, _, ha, h, _ => by omega
  | _ + 1, 0, a, _, ha, _, h => by omega
  | f + 1, f' + 1, a, p, ha, h, h' => by
    unfold items
    split
    · rfl
    · split
      · cases hr : ri a with
        | error k => rfl
        | ok se =>
          obtain ⟨s, e⟩ := se
          obtain ⟨g1, g2, _, _⟩ := hi a s e ha hr
          exact items_fuel hi f f' e (beh p s) g2 (by omega) (by omega)
      · rfl
theorem more_fuel {z : List Nat} {rq : Nat → Res} (hi : Gd z rq) : ∀ (f f' a : Nat) (ps : List Stv), a ≤ z.length → z.length + 1 ≤ f + a → z.length + 1 ≤ f' + a → more rq z f a ps = more rq z f' a ps
  | 0, _, a, _, ha, h, _ => by omega
  | _ + 1, 0, a, _, ha, _, h => by omega
  | f + 1, f' + 1, a, ps, ha, h, h' => by
    unfold more
    split
    · rename_i h38
      have hl := (List.getElem?_eq_some_iff.mp h38).1
      cases hr : rq (a + 1) with
      | error k => rfl
      | ok se =>
        obtain ⟨s, e⟩ := se
        obtain ⟨g1, g2, _, _⟩ := hi (a + 1) s e (by omega) hr
        exact more_fuel hi f f' e (ps ++ [s]) g2 (by omega) (by omega)
    · rfl
theorem items_succ (ri : Nat → Res) (z : List Nat) (f a : Nat) (p : Stv) : items ri z (f + 1) a p = match z[a]? with
    | none => .ok (p, a)
    | some c => if isStart c = true then goOn (fun s e => items ri z f e (beh p s)) (ri a) else .ok (p, a) := by
  conv => lhs; unfold items
  try (generalize z[a]? = o; cases o <;> rfl)
theorem more_succ (rq : Nat → Res) (z : List Nat) (f a : Nat) (ps : List Stv) : more rq z (f + 1) a ps = if z[a]? = some 38 then goOn (fun s e => more rq z f e (ps ++ [s])) (rq (a + 1)) else .ok (shown ps, a) := by
  conv => lhs; unfold more
  try rfl
def F (z : List Nat) (a : Nat) : Nat := z.length + 1 - a
def rItems (z : List Nat) (d a : Nat) (p : Stv) : Res := items (rdItem z d) z (F z a) a p
def rMore (z : List Nat) (d a : Nat) (ps : List Stv) : Res := more (Fg.part (rdItem z d) z) z (F z a) a ps
theorem rItems_eq {z : List Nat} {d a : Nat} {p : Stv} (ha : a ≤ z.length) : rItems z d a p = match z[a]? with
    | none => .ok (p, a)
    | some c => if isStart c = true then goOn (fun s e => rItems z d e (beh p s)) (rdItem z d a) else .ok (p, a) := by
  have e : F z a = z.length - a + 1 := by unfold F; omega
  unfold rItems
  rw [e, items_succ]
  cases hz : z[a]? with
  | none => rfl
  | some c =>
    dsimp only
    by_cases hs : isStart c = true
    · rw [if_pos hs, if_pos hs]
      cases hr : rdItem z d a with
      | error k => rfl
      | ok se =>
        obtain ⟨s, e'⟩ := se
        obtain ⟨g1, g2, _, _⟩ := rdItem_gd z d a s e' ha hr
        exact items_fuel (rdItem_gd z d) (z.length - a) (F z e') e' _ g2 (by omega) (by unfold F; omega)
    · rw [if_neg hs, if_neg hs]
theorem rMore_eq {z : List Nat} {d a : Nat} {ps : List Stv} (ha : a ≤ z.length) : rMore z d a ps = if z[a]? = some 38 then goOn (fun s e => rMore z d e (ps ++ [s])) (Fg.part (rdItem z d) z (a + 1)) else .ok (shown ps, a) := by
  have e : F z a = z.length - a + 1 := by unfold F; omega
  unfold rMore
  rw [e, more_succ]
  by_cases hs : z[a]? = some 38
  · rw [if_pos hs, if_pos hs]
    have hl := (List.getElem?_eq_some_iff.mp hs).1
    cases hr : Fg.part (rdItem z d) z (a + 1) with
    | error k => rfl
    | ok se =>
      obtain ⟨s, e'⟩ := se
      obtain ⟨g1, g2, _, _⟩ := part_gd (rdItem_gd z d) (a + 1) s e' (by omega) hr
      exact more_fuel (part_gd (rdItem_gd z d)) (z.length - a) (F z e') e' _ g2 (by omega) (by unfold F; omega)
  · rw [if_neg hs, if_neg hs]
theorem rPart_eq (z : List Nat) (d a : Nat) : Fg.part (rdItem z d) z a = goOn (partEnd z) (rItems z d a (0, [])) := rfl
theorem rd_more (z : List Nat) (d a : Nat) : rd z d a = goOn (fun s e => rMore z d e [s]) (Fg.part (rdItem z d) z a) := by rw [rd_eq]; rfl
def kEnd (k : Stv → Nat → Fin) : Res → Fin
  | .error j => .bad j
  | .ok (s, e) => k s e
theorem kEnd_goOn (k : Stv → Nat → Fin) (g : Stv → Nat → Res) (r : Res) : kEnd k (goOn g r) = kEnd (fun s e => kEnd k (g s e)) r := by
  cases r with
  | error j => rfl
  | ok se => obtain ⟨s, e⟩ := se; rfl
/-- what follows the end of parts, under so many openings -/
def kP (z : List Nat) : List Fr → Stv → Nat → Fin
  | [], s, e => if e < z.length then .bad e else .done s
  | (t, ps, p) :: rest, s, e => if z[e]? = some 41 then
      kEnd (fun s' e' => kEnd (fun s'' e'' => kEnd (kP z rest) (rMore z (6 - rest.length) e'' (ps ++ [s'']))) (partEnd z s' e')) (rItems z (6 - rest.length) (e + 1) (beh p (rep s t)))
    else .bad e
def kM (z : List Nat) (st : List Fr) (ps : List Stv) (s : Stv) (e : Nat) : Fin := kEnd (kP z st) (rMore z (6 - st.length) e (ps ++ [s]))
def kI (z : List Nat) (st : List Fr) (ps : List Stv) (r : Res) : Fin := kEnd (fun s e => kEnd (kM z st ps) (partEnd z s e)) r
theorem kP_cons (z : List Nat) (t : Nat) (ps : List Stv) (p : Stv) (rest : List Fr) (s : Stv) (e : Nat) : kP z ((t, ps, p) :: rest) s e = if z[e]? = some 41 then kI z rest ps (rItems z (6 - rest.length) (e + 1) (beh p (rep s t))) else .bad e := rfl
theorem kP_stop (z : List Nat) (st : List Fr) (s : Stv) (a : Nat) (hl : a < z.length) (h : z[a]? ≠ some 41) : kP z st s a = .bad a := by
  match st with
  | [] => exact if_pos hl
  | (t, ps, p) :: rest => rw [kP_cons, if_neg h]
theorem kM_stop (z : List Nat) (st : List Fr) (ps : List Stv) (s : Stv) (a : Nat) (hl : a < z.length) (h : z[a]? ≠ some 41) (h' : z[a]? ≠ some 38) : kM z st ps s a = .bad a := by
  unfold kM
  rw [rMore_eq (by omega), if_neg h']
  exact kP_stop z st _ a hl h
theorem lread_both (z : List Nat) : ∀ (n : Nat) (st : List Fr) (ps : List Stv) (p : Stv) (a f : Nat), z.length - a ≤ n → a ≤ z.length → st.length ≤ 6 → z.length + 1 ≤ f + a →
    (lread z f st ps p false a = kI z st ps (rItems z (6 - st.length) a p)) ∧ (p.1 ≠ 0 → lread z f st ps p true a = kM z st ps p a) := by
  intro n
  induction n with
  | zero =>
    intro st ps p a f hn ha hst hf
    have e : a = z.length := by omega
    subst e
    have hz : z[z.length]? = none := List.getElem?_eq_none (Nat.le_refl _)
    obtain ⟨f', rfl⟩ : ∃ f', f = f' + 1 := ⟨f - 1, by omega⟩
    have two : p.1 ≠ 0 → ∀ fl, lread z (f' + 1) st ps p fl z.length = kM z st ps p z.length := fun hp fl => by
      unfold lread kM
      rw [rMore_eq ha, hz, if_neg (show ¬ ((none : Option Nat) = some 38) by simp)]
      dsimp only [kEnd]
      match st with
      | [] => rw [if_neg (by simp [hp])]; show _ = kP z [] _ _; unfold kP; rw [if_neg (Nat.lt_irrefl _)]
      | (t, ps', p') :: rest => rw [if_pos (by simp), kP_cons, hz, if_neg (by simp)]
    refine ⟨?_, fun hp => two hp true⟩
    rw [rItems_eq ha, hz]
    dsimp only
    unfold kI
    dsimp only [kEnd]
    unfold partEnd
    by_cases hp : p.1 = 0
    · rw [if_pos hp]
      unfold lread
      rw [hz]
      dsimp only [kEnd]
      rw [if_pos (.inl hp)]
    · rw [if_neg hp, hz, if_neg (by simp)]
      exact two hp false
  | succ n ih =>
    intro st ps p a f hn ha hst hf
    by_cases hl : a < z.length
    case neg => exact ih st ps p a f (by omega) ha hst hf
    obtain ⟨f', rfl⟩ : ∃ f', f = f' + 1 := ⟨f - 1, by omega⟩
    have hz : z[a]? = some z[a] := List.getElem?_eq_getElem hl
    generalize z[a] = c at hz
    -- & and )
    have amp : p.1 ≠ 0 → c = 38 ∨ c = 41 → ∀ fl, lread z (f' + 1) st ps p fl a = kM z st ps p a := fun hp hc fl => by
      unfold lread kM
      rw [rMore_eq ha, hz]
      dsimp only
      rw [if_pos hc]
      unfold lclose
      rcases hc with rfl | rfl
      · rw [if_neg (by simp [hp]), if_pos rfl, if_pos rfl]
        dsimp only
        rw [(ih st (ps ++ [p]) (0, []) (a + 1) f' (by omega) (by omega) hst (by omega)).1, kEnd_goOn, rPart_eq, kEnd_goOn]
        rfl
      · rw [if_neg (show ¬ (some 41 = some 38) by decide)]
        match st with
        | [] => rw [if_pos (.inr ⟨rfl, rfl⟩)]; show _ = kP z [] _ _; unfold kP; rw [if_pos hl]
        | (t, ps', p') :: rest =>
          rw [if_neg (by simp [hp]), if_neg (by decide)]
          dsimp only [kEnd]
          rw [kP_cons, hz, if_pos rfl]
          exact (ih rest ps' _ (a + 1) f' (by omega) (by omega) (by simp at hst; omega) (by omega)).1
    have pe : p.1 = 0 → partEnd z p a = .error a := fun hp => if_pos hp
    have pe2 : p.1 ≠ 0 → c ≠ 64 → partEnd z p a = .ok (p, a) := fun hp hc => by
      unfold partEnd
      rw [if_neg hp, hz, if_neg (fun e => hc (Option.some.inj e))]
    constructor
    · rw [rItems_eq ha, hz]
      dsimp only
      by_cases hc : c = 38 ∨ c = 41
      · have ns : ¬ isStart c = true := by rcases hc with rfl | rfl <;> decide
        rw [if_neg ns]
        show _ = kEnd (kM z st ps) (partEnd z p a)
        by_cases hp : p.1 = 0
        · rw [pe hp]
          unfold lread
          rw [hz]
          dsimp only
          rw [if_pos hc]
          unfold lclose
          rw [if_pos (.inl hp)]
          rfl
        · rw [pe2 hp (by rcases hc with rfl | rfl <;> decide)]
          exact amp hp hc false
      by_cases h64 : c = 64
      · subst h64
        rw [if_neg (by decide)]
        show _ = kEnd (kM z st ps) (partEnd z p a)
        unfold lread
        rw [hz]
        dsimp only
        rw [if_neg hc, if_pos rfl]
        by_cases hp : p.1 = 0
        · rw [if_pos (.inr hp), pe hp]
          rfl
        · rw [if_neg (by simp [hp])]
          unfold partEnd
          rw [if_neg hp, hz, if_pos rfl]
          unfold filled
          by_cases hr : run z (a + 1) = []
          · rw [if_pos hr, if_pos hr]
            rfl
          · rw [if_neg hr, if_neg hr]
            unfold lfill
            by_cases hw : (run z (a + 1)).take 1 = [48] ∨ within (run z (a + 1)) (max 1 p.1) 24 = false
            · rw [if_pos hw, if_pos hw]
              rfl
            · rw [if_neg hw, if_neg hw]
              have : within (run z (a + 1)) (max 1 p.1) 24 = true := by
                cases hx : within (run z (a + 1)) (max 1 p.1) 24 with
                | true => rfl
                | false => exact absurd (.inr hx) hw
              obtain ⟨w1, w2, w3, w4⟩ := within_iff.mp this
              have g := bd_ge z (a + 1)
              exact (ih st ps (fillTo p (num (run z (a + 1)))) (bd z (a + 1)) f' (by omega) (bd_le (by omega)) hst (by omega)).2 (by show num _ ≠ 0; omega)
      · unfold lread
        rw [hz]
        dsimp only
        rw [if_neg hc, if_neg h64, if_neg (by decide)]
        have stop : isStart c ≠ true → kI z st ps (.ok (p, a)) = .bad a := fun hs => by
          show kEnd (kM z st ps) (partEnd z p a) = _
          by_cases hp : p.1 = 0
          · rw [pe hp]; rfl
          · rw [pe2 hp h64]
            exact kM_stop z st ps p a hl (by rw [hz]; exact fun e => hc (.inr (Option.some.inj e))) (by rw [hz]; exact fun e => hc (.inl (Option.some.inj e)))
        by_cases hd : c ∈ DG
        case neg =>
          have r0 : run z a = [] := run_stop fun c' h' => by rw [hz] at h'; cases h'; exact hd
          have b0 : bd z a = a := bd_eq.mpr r0
          rw [r0, b0, hz]
          unfold ltimes
          rw [if_pos rfl]
          dsimp only
          by_cases hs : c ∈ SG
          · have st1 : isStart c = true := by unfold isStart; rw [decide_eq_true hs]; rfl
            have n40 : c ≠ 40 := fun e => by subst e; revert hs; decide
            have io : c ∈ OPS := by
              simp only [List.mem_cons, List.not_mem_nil, or_false] at hs ⊢
              omega
            rw [if_pos st1, if_neg (by simp [io, n40]), if_neg n40]
            rw [rdItem_item]
            unfold item
            rw [r0, b0, hz, if_neg (by simp)]
            dsimp only
            rw [if_neg (by simp [hs]), if_neg (by simp), if_pos n40]
            exact (ih st ps _ (a + 1) f' (by omega) (by omega) hst (by omega)).1
          · have st0 : isStart c ≠ true := by unfold isStart; rw [decide_eq_false hs, decide_eq_false hd]; decide
            rw [if_neg st0, stop st0]
            by_cases h40 : c = 40
            · rw [if_pos (.inr ⟨h40, .inl rfl⟩)]
            · have io : c ∉ OPS := by
                simp only [List.mem_cons, List.not_mem_nil, or_false] at hs ⊢
                omega
              rw [if_pos (.inl io)]
        · have st1 : isStart c = true := by unfold isStart; rw [decide_eq_true hd, Bool.or_true]
          have r1 : run z a ≠ [] := by rw [run_step hz hd]; simp
          have gb := bd_ge z a
          have lb := bd_le ha
          rw [if_pos st1]
          unfold ltimes
          rw [if_neg r1]
          have hitem : rdItem z (6 - st.length) a = item (rpOf z (6 - st.length)) z a := rdItem_item z _ ▸ rfl
          rw [hitem]
          unfold item
          by_cases h0 : (run z a).take 1 = [48]
          · rw [if_pos h0, if_pos h0]
            rfl
          rw [if_neg h0, if_neg h0]
          cases hb : z[bd z a]? with
          | none =>
            rw [if_pos rfl]
            rfl
          | some h =>
            dsimp only
            by_cases io : h ∈ OPS
            case neg =>
              have i1 : h ∉ SG ∧ h ≠ 40 := by
                simp only [List.mem_cons, List.not_mem_nil, or_false] at io ⊢
                omega
              rw [if_pos (show (!decide (h ∈ OPS)) = true by rw [decide_eq_false io]; rfl), if_pos i1]
              rfl
            have i1 : ¬ (h ∉ SG ∧ h ≠ 40) := by
              simp only [List.mem_cons, List.not_mem_nil, or_false] at io ⊢
              omega
            rw [if_neg (show ¬ (!decide (h ∈ OPS)) = true by rw [decide_eq_true io]; decide), if_neg i1]
            cases hw : within (run z a) 2 24 with
            | false =>
              rw [if_pos rfl, if_pos ⟨r1, rfl⟩]
              rfl
            | true =>
              rw [if_neg (show ¬ true = false by decide), if_neg (fun z => by cases z.2)]
              dsimp only
              have et : timesOf (run z a) = num (run z a) := if_neg r1
              have hlb := (List.getElem?_eq_some_iff.mp hb).1
              rw [et]
              by_cases h40 : h = 40
              case neg =>
                rw [if_neg (by simp [io, h40]), if_neg h40, if_pos h40]
                exact (ih st ps _ (bd z a + 1) f' (by omega) (by omega) hst (by omega)).1
              rw [if_neg (show ¬ (h ≠ 40) from fun z => z h40)]
              by_cases h6 : st.length = 6
              · rw [if_pos (.inr ⟨h40, .inr h6⟩), h6]
                rfl
              · rw [if_neg (by simp [io, r1, h6]), if_pos h40]
                obtain ⟨d, hd'⟩ : ∃ d, 6 - st.length = d + 1 := ⟨5 - st.length, by omega⟩
                rw [(ih ((num (run z a), ps, p) :: st) [] (0, []) (bd z a + 1) f' (by omega) (by omega) (by simp; omega) (by omega)).1]
                have hd2 : 6 - ((num (run z a), ps, p) :: st).length = d := by simp; omega
                rw [hd2, hd']
                show _ = kEnd _ (goOn _ (close z (num (run z a)) (rd z d (bd z a + 1))))
                rw [kEnd_goOn, rd_more, rPart_eq]
                unfold kI
                have hcl : ∀ (r : Res) (k : Stv → Nat → Fin), kEnd k (close z (num (run z a)) r) = kEnd (fun s e => if z[e]? = some 41 then k (rep s (num (run z a))) (e + 1) else .bad e) r := fun r k => by
                  cases r with
                  | error j => rfl
                  | ok se =>
                    obtain ⟨s, e⟩ := se
                    show kEnd k (if z[e]? = some 41 then _ else _) = (if z[e]? = some 41 then _ else _)
                    split <;> rfl
                rw [hcl, kEnd_goOn, kEnd_goOn]
                congr 1
                funext s e
                congr 1
                funext s' e'
                unfold kM
                rw [hd2]
                congr 1
                funext s2 e2
                rw [kP_cons]
                unfold kI kM
                rw [hd']
    · intro hp
      by_cases hc : c = 38 ∨ c = 41
      · exact amp hp hc true
      have e1 : z[a]? ≠ some 41 := by rw [hz]; exact fun e => hc (.inr (Option.some.inj e))
      have e2 : z[a]? ≠ some 38 := by rw [hz]; exact fun e => hc (.inl (Option.some.inj e))
      rw [kM_stop z st ps p a hl e1 e2]
      unfold lread
      rw [hz]
      dsimp only
      rw [if_neg hc]
      by_cases h64 : c = 64
      · rw [if_pos h64, if_pos (.inl rfl)]
      · rw [if_neg h64, if_pos rfl]
/-- what the whole text tells -/
def told (z : List Nat) : Fin := match rd z 6 0 with
  | .error k => .bad k
  | .ok (s, e) => if e < z.length then .bad e else .done s
theorem lread_told (z : List Nat) (f : Nat) (hf : z.length + 1 ≤ f) : lread z f [] [] (0, []) false 0 = told z := by
  rw [(lread_both z z.length [] [] (0, []) 0 f (by omega) (by omega) (by decide) (by omega)).1]
  unfold told
  rw [rd_more, rPart_eq]
  show kEnd (fun s e => kEnd (kM z [] []) (partEnd z s e)) (rItems z 6 0 (0, [])) = _
  cases rItems z 6 0 (0, []) with
  | error k => rfl
  | ok se =>
    obtain ⟨s, e⟩ := se
    show kEnd (kM z [] []) (partEnd z s e) = match goOn (fun s e => rMore z 6 e [s]) (partEnd z s e) with
      | .error k => Fin.bad k
      | .ok (s, e) => if e < z.length then .bad e else .done s
    cases partEnd z s e with
    | error k => rfl
    | ok se =>
      obtain ⟨s, e⟩ := se
      show kEnd (kP z []) (rMore z 6 e [s]) = match rMore z 6 e [s] with
        | .error k => Fin.bad k
        | .ok (s, e) => if e < z.length then .bad e else .done s
      cases rMore z 6 e [s] with
      | error k => rfl
      | ok se => obtain ⟨s, e⟩ := se; rfl
end Fg
/-! What the walk of the reader with a stack asks. -/
namespace Fg
open PySem PySem.Spec PyProof.Rows L2
def Wf (ps : List Stv) (p : Stv) : Prop := (∀ x ∈ ps, 1 ≤ x.1 ∧ (x.1 ≤ 24 → x.2.length = x.1)) ∧ (p.1 ≤ 24 → p.2.length = p.1)
def wt (ps : List Stv) (p : Stv) : Nat := (lcmL ps + 1) * (p.1 + 1)
def WS : List Fr → Nat
  | [] => 1
  | (t, ps, p) :: r => t * wt ps p * WS r
structure WB (st : List Fr) (ps : List Stv) (p : Stv) (a : Nat) : Prop where
  wf : Wf ps p
  fr : ∀ f ∈ st, Wf f.2.1 f.2.2 ∧ 1 ≤ f.1 ∧ f.1 ≤ 24
  le : WS st * wt ps p ≤ 2 ^ (5 * a + 1)
theorem WS_pos {st : List Fr} (h : ∀ f ∈ st, Wf f.2.1 f.2.2 ∧ 1 ≤ f.1 ∧ f.1 ≤ 24) : 1 ≤ WS st := by
  induction st with
  | nil => exact Nat.le_refl _
  | cons f r ih =>
    obtain ⟨t, ps, p⟩ := f
    have h1 := (h _ List.mem_cons_self).2.1
    have h2 := ih fun f hf => h f (List.mem_cons_of_mem _ hf)
    have h3 : 1 ≤ wt ps p := Nat.mul_pos (Nat.succ_pos _) (Nat.succ_pos _)
    exact Nat.mul_pos (Nat.mul_pos h1 h3) h2
theorem pow_step {a b : Nat} (h : a < b) : 2 ^ (5 * a + 1) * 32 ≤ 2 ^ (5 * b + 1) := by
  have : 2 ^ (5 * a + 1) * 32 = 2 ^ (5 * (a + 1) + 1) := by rw [show 5 * (a + 1) + 1 = (5 * a + 1) + 5 by omega, Nat.pow_add _ _ 5]
  rw [this]
  exact Nat.pow_le_pow_right (by decide) (by omega)
/-- the weight grows by no more than the text -/
theorem WB.grow {st st' : List Fr} {ps ps' : List Stv} {p p' : Stv} {a b : Nat} (h : WB st ps p a) (hab : a < b) (h1 : Wf ps' p') (h2 : ∀ f ∈ st', Wf f.2.1 f.2.2 ∧ 1 ≤ f.1 ∧ f.1 ≤ 24)
    (h3 : WS st' * wt ps' p' ≤ WS st * wt ps p * 32) : WB st' ps' p' b :=
  ⟨h1, h2, Nat.le_trans h3 (Nat.le_trans (Nat.mul_le_mul_right _ h.le) (pow_step hab))⟩
theorem lcm_snoc_le {ps : List Stv} {p : Stv} (h : ∀ x ∈ ps, 1 ≤ x.1 ∧ (x.1 ≤ 24 → x.2.length = x.1)) (hp : p.1 ≠ 0) : lcmL (ps ++ [p]) + 1 ≤ wt ps p := by
  rw [lcmL_snoc]
  have := lcm_le_mul (lcmL_pos fun x hx => (h x hx).1) (show 1 ≤ p.1 by omega)
  unfold wt
  rw [Nat.add_mul, Nat.mul_add]
  omega
theorem wf_snoc {ps : List Stv} {p : Stv} (h : Wf ps p) (hp : p.1 ≠ 0) : ∀ x ∈ ps ++ [p], 1 ≤ x.1 ∧ (x.1 ≤ 24 → x.2.length = x.1) := fun x hx => by
  rcases List.mem_append.mp hx with hx | hx
  · exact h.1 x hx
  · rw [List.mem_singleton.mp hx]; exact ⟨by omega, h.2⟩
theorem WB.amp {st : List Fr} {ps : List Stv} {p : Stv} {a : Nat} (h : WB st ps p a) (hp : p.1 ≠ 0) : WB st (ps ++ [p]) (0, []) (a + 1) := by
  refine h.grow (Nat.lt_succ_self _) ⟨wf_snoc h.wf hp, fun _ => rfl⟩ h.fr ?_
  have := lcm_snoc_le h.wf.1 hp
  have e : wt (ps ++ [p]) (0, []) = lcmL (ps ++ [p]) + 1 := Nat.mul_one _
  rw [e]
  exact Nat.le_trans (Nat.mul_le_mul_left _ this) (Nat.le_mul_of_pos_right _ (by decide))
theorem beh_len {p s : Stv} (hp : p.1 ≤ 24 → p.2.length = p.1) (hs : s.1 ≤ 24 → s.2.length = s.1) : (beh p s).1 ≤ 24 → (beh p s).2.length = (beh p s).1 := fun h => by
  have h : p.1 + s.1 ≤ 24 := h
  show (p.2 ++ s.2).length = p.1 + s.1
  rw [List.length_append, hp (by omega), hs (by omega)]
theorem rep_lenS {s : Stv} {t : Nat} (hs : s.1 ≤ 24 → s.2.length = s.1) (t1 : 1 ≤ t) : (rep s t).1 ≤ 24 → (rep s t).2.length = (rep s t).1 := fun h => by
  have h : s.1 * t ≤ 24 := h
  have : s.1 ≤ s.1 * t := Nat.le_mul_of_pos_right _ t1
  show (rpt t s.2).length = s.1 * t
  rw [rpt_len, hs (by omega), Nat.mul_comm]
theorem WB.close {rest : List Fr} {ps ps' : List Stv} {p p' : Stv} {t a : Nat} (h : WB ((t, ps', p') :: rest) ps p a) (hp : p.1 ≠ 0) : WB rest ps' (beh p' (rep (shown (ps ++ [p])) t)) (a + 1) := by
  obtain ⟨f1, f2, f3⟩ := h.fr _ List.mem_cons_self
  refine h.grow (Nat.lt_succ_self _) ⟨f1.1, beh_len f1.2 (rep_lenS (fun _ => showN_len _ _) f2)⟩ (fun f hf => h.fr f (List.mem_cons_of_mem _ hf)) ?_
  have h1 := lcm_snoc_le h.wf.1 hp
  show WS rest * ((lcmL ps' + 1) * (p'.1 + lcmL (ps ++ [p]) * t + 1)) ≤ t * ((lcmL ps' + 1) * (p'.1 + 1)) * WS rest * wt ps p * 32
  generalize lcmL (ps ++ [p]) = L at *
  generalize wt ps p = W at *
  generalize WS rest = R
  generalize lcmL ps' + 1 = M
  have h2 : p'.1 + L * t + 1 ≤ t * (p'.1 + 1) * W := by
    have a1 : L * t + t ≤ t * W := by
      have := Nat.mul_le_mul_left t h1
      rw [Nat.mul_add, Nat.mul_one, Nat.mul_comm t L] at this
      exact this
    have a2 : t * W ≤ (p'.1 + 1) * (t * W) := Nat.le_mul_of_pos_left _ (Nat.succ_pos _)
    have a3 : (p'.1 + 1) * (t * W) = p'.1 * (t * W) + t * W := by rw [Nat.add_mul, Nat.one_mul]
    have a4 : p'.1 ≤ p'.1 * (t * W) := Nat.le_mul_of_pos_right _ (by have : t ≤ t * W := by omega
                                                                     omega)
    have a5 : t * (p'.1 + 1) * W = (p'.1 + 1) * (t * W) := by rw [Nat.mul_comm t, Nat.mul_assoc]
    rw [a5, a3]
    omega
  calc R * (M * (p'.1 + L * t + 1)) ≤ R * (M * (t * (p'.1 + 1) * W)) := Nat.mul_le_mul_left _ (Nat.mul_le_mul_left _ h2)
    _ = t * (M * (p'.1 + 1)) * R * W := by simp only [Nat.mul_comm, Nat.mul_left_comm, Nat.mul_assoc]
    _ ≤ t * (M * (p'.1 + 1)) * R * W * 32 := Nat.le_mul_of_pos_right _ (by decide)
theorem WB.part {st : List Fr} {ps : List Stv} {p p' : Stv} {a b : Nat} (h : WB st ps p a) (hab : a < b) (hl : p'.1 ≤ 24 → p'.2.length = p'.1) (h1 : p'.1 + 1 ≤ (p.1 + 1) * 32) : WB st ps p' b := by
  refine h.grow hab ⟨h.wf.1, hl⟩ h.fr ?_
  unfold wt
  calc WS st * ((lcmL ps + 1) * (p'.1 + 1)) ≤ WS st * ((lcmL ps + 1) * ((p.1 + 1) * 32)) := Nat.mul_le_mul_left _ (Nat.mul_le_mul_left _ h1)
    _ = WS st * ((lcmL ps + 1) * (p.1 + 1)) * 32 := by simp only [Nat.mul_assoc]
theorem WB.fill {st : List Fr} {ps : List Stv} {p : Stv} {a b n : Nat} (h : WB st ps p a) (hab : a < b) (h1 : p.1 ≤ n) (h2 : n ≤ 24) : WB st ps (fillTo p n) b := by
  refine h.part hab (fun _ => ?_) ?_
  · show (p.2 ++ List.replicate (n - p.1) 46).length = n
    rw [List.length_append, List.length_replicate, h.wf.2 (by omega)]
    omega
  · show n + 1 ≤ _
    rw [Nat.add_mul]; omega
theorem WB.sign {st : List Fr} {ps : List Stv} {p : Stv} {a b c t : Nat} (h : WB st ps p a) (hab : a < b) (t1 : 1 ≤ t) (t2 : t ≤ 24) : WB st ps (beh p (rep (1, [c]) t)) b := by
  refine h.part hab (beh_len h.wf.2 (rep_lenS (fun _ => rfl) t1)) ?_
  show p.1 + 1 * t + 1 ≤ _
  rw [Nat.add_mul]; omega
theorem WB.opn {st : List Fr} {ps : List Stv} {p : Stv} {a b t : Nat} (h : WB st ps p a) (hab : a + 2 ≤ b) (t1 : 1 ≤ t) (t2 : t ≤ 24) : WB ((t, ps, p) :: st) [] (0, []) b := by
  have h0 : WB st ps p (a + 1) := h.grow (Nat.lt_succ_self _) h.wf h.fr (Nat.le_mul_of_pos_right _ (by decide))
  refine ⟨⟨by simp, fun _ => rfl⟩, fun f hf => ?_, ?_⟩
  · rcases List.mem_cons.mp hf with rfl | hf
    · exact ⟨h.wf, t1, t2⟩
    · exact h.fr f hf
  · show t * wt ps p * WS st * 2 ≤ _
    have h1 : t * wt ps p * WS st * 2 = (WS st * wt ps p) * (t * 2) := by simp only [Nat.mul_comm, Nat.mul_left_comm, Nat.mul_assoc]
    rw [h1]
    have h2 : (WS st * wt ps p) * (t * 2) ≤ 2 ^ (5 * a + 1) * (32 * 32) := Nat.mul_le_mul h.le (by omega)
    have h3 : 2 ^ (5 * a + 1) * (32 * 32) = 2 ^ (5 * (a + 2) + 1) := by rw [show 5 * (a + 2) + 1 = (5 * a + 1) + 10 by omega, Nat.pow_add _ _ 10]
    exact Nat.le_trans h2 (h3 ▸ Nat.pow_le_pow_right (by decide) (by omega))
theorem WB.big {st : List Fr} {ps : List Stv} {p : Stv} {a : Nat} (h : WB st ps p a) (hp : p.1 ≠ 0) (ha : a ≤ 1700) : Big (lcmL (ps ++ [p])) := by
  have h1 := lcm_snoc_le h.wf.1 hp
  have h2 : wt ps p ≤ WS st * wt ps p := Nat.le_mul_of_pos_left _ (WS_pos h.fr)
  have h3 : 2 ^ (5 * a + 1) ≤ 2 ^ 8600 := Nat.pow_le_pow_right (by decide) (by omega)
  exact Nat.lt_of_lt_of_le (Nat.lt_of_succ_le (Nat.le_trans h1 (Nat.le_trans h2 h.le))) h3
theorem WB.start : WB [] [] (0, []) 0 := ⟨⟨by simp, fun _ => rfl⟩, by simp, by decide⟩
/-! ### how it stands in the heap -/
def PL (H : Hp) (D : Addr) (ps : List Stv) : Prop := ∃ qs : List Addr, H D = some (.lst (qs.map V.ref)) ∧ PartsAt H qs ps
theorem PL.mono {H H' : Hp} {D : Addr} {ps : List Stv} (h : PL H D ps) (s : Same H H') : PL H' D ps := by
  obtain ⟨qs, h1, h2⟩ := h
  exact ⟨qs, s _ _ h1, h2.mono s⟩
theorem PartsAt.snoc {H : Hp} {qs : List Addr} {ps : List Stv} {q : Addr} {p : Stv} (h : PartsAt H qs ps) (hq : H q = some (Sv p.1 p.2)) : PartsAt H (qs ++ [q]) (ps ++ [p]) := by
  have hl := h.1
  refine ⟨by rw [List.length_append, List.length_append, hl]; rfl, fun i x y h1 h2 => ?_⟩
  by_cases hi : i < qs.length
  · rw [List.getElem?_append_left hi] at h1
    rw [List.getElem?_append_left (by omega)] at h2
    exact h.2 i x y h1 h2
  · rw [List.getElem?_append_right (by omega)] at h1
    rw [List.getElem?_append_right (by omega)] at h2
    have e0 : i - qs.length = 0 := by
      have := (List.getElem?_eq_some_iff.mp h1).1
      rw [List.length_singleton] at this
      omega
    rw [e0] at h1
    rw [show i - ps.length = 0 by omega] at h2
    cases h1; cases h2
    exact hq
def FA (H : Hp) (a : Addr) (f : Fr) : Prop := ∃ D q, H a = some (.tup [.int (f.1 : Int), .ref D, .ref q]) ∧ PL H D f.2.1 ∧ H q = some (Sv f.2.2.1 f.2.2.2)
theorem FA.mono {H H' : Hp} {a : Addr} {f : Fr} (h : FA H a f) (s : Same H H') : FA H' a f := by
  obtain ⟨D, q, h1, h2, h3⟩ := h
  exact ⟨D, q, s _ _ h1, h2.mono s, s _ _ h3⟩
/-- the frames of a stack, the last opened one last -/
inductive FS (H : Hp) : List Addr → List Fr → Prop where
  | nil : FS H [] []
  | cons {as : List Addr} {st : List Fr} {a : Addr} {f : Fr} : FS H as st → FA H a f → FS H (as ++ [a]) (f :: st)
theorem FS.mono {H H' : Hp} {as : List Addr} {st : List Fr} (h : FS H as st) (s : Same H H') : FS H' as st := by
  induction h with
  | nil => exact .nil
  | cons _ h2 ih => exact .cons ih (h2.mono s)
theorem FS.len {H : Hp} {as : List Addr} {st : List Fr} (h : FS H as st) : as.length = st.length := by
  induction h with
  | nil => rfl
  | cons _ _ ih => rw [List.length_append, ih]; rfl
def SL (H : Hp) (D : Addr) (st : List Fr) : Prop := ∃ as : List Addr, H D = some (.lst (as.map V.ref)) ∧ FS H as st
theorem SL.mono {H H' : Hp} {D : Addr} {st : List Fr} (h : SL H D st) (s : Same H H') : SL H' D st := by
  obtain ⟨as, h1, h2⟩ := h
  exact ⟨as, s _ _ h1, h2.mono s⟩
end Fg
namespace K05
open PySem PySem.Spec PyProof.Rows L2 Fg
def topS (i : Nat) : Stmt := PySem.Challenge.pw_falseglim_k05_bad_rhythm_texts.main.body.getD i (.Pass ⟨0, 0, 0, 0⟩)
abbrev s_common_beats : Stmt := topS 9
theorem sc_common_beats : FnScope ["first", "second", "one", "two"] ["first", "second"] (defScope s_common_beats) := ⟨rfl, rfl, rfl, by decide +kernel, rfl, by decide +kernel, by decide +kernel⟩
abbrev s_repeated : Stmt := topS 10
theorem sc_repeated : FnScope ["stretch", "times", "beats"] ["stretch", "times"] (defScope s_repeated) := ⟨rfl, rfl, rfl, by decide +kernel, rfl, by decide +kernel, by decide +kernel⟩
abbrev s_put_behind : Stmt := topS 11
theorem sc_put_behind : FnScope ["stretch", "other", "beats"] ["stretch", "other"] (defScope s_put_behind) := ⟨rfl, rfl, rfl, by decide +kernel, rfl, by decide +kernel, by decide +kernel⟩
abbrev s_first_lit : Stmt := topS 12
theorem sc_first_lit : FnScope ["signs", "sign"] ["signs"] (defScope s_first_lit) := ⟨rfl, rfl, rfl, by decide +kernel, rfl, by decide +kernel, by decide +kernel⟩
abbrev s_shown_together : Stmt := topS 13
theorem sc_shown_together : FnScope ["parts", "beats", "part", "rows", "beat", "row"] ["parts"] (defScope s_shown_together) := ⟨rfl, rfl, rfl, by decide +kernel, rfl, by decide +kernel, by decide +kernel⟩
abbrev s_behind_digits : Stmt := topS 14
theorem sc_behind_digits : FnScope ["text", "at"] ["text", "at"] (defScope s_behind_digits) := ⟨rfl, rfl, rfl, by decide +kernel, rfl, by decide +kernel, by decide +kernel⟩
abbrev s_is_within : Stmt := topS 15
theorem sc_is_within : FnScope ["run", "low", "high"] ["run", "low", "high"] (defScope s_is_within) := ⟨rfl, rfl, rfl, by decide +kernel, rfl, by decide +kernel, by decide +kernel⟩
abbrev s_read_item : Stmt := topS 16
theorem sc_read_item : FnScope ["text", "at", "opened", "low", "run", "times", "stretch"] ["text", "at", "opened"] (defScope s_read_item) := ⟨rfl, rfl, rfl, by decide +kernel, rfl, by decide +kernel, by decide +kernel⟩
abbrev s_read_filled : Stmt := topS 17
theorem sc_read_filled : FnScope ["text", "at", "part", "behind", "run", "beats"] ["text", "at", "part"] (defScope s_read_filled) := ⟨rfl, rfl, rfl, by decide +kernel, rfl, by decide +kernel, by decide +kernel⟩
abbrev s_read_part : Stmt := topS 18
theorem sc_read_part : FnScope ["text", "at", "opened", "part", "item"] ["text", "at", "opened"] (defScope s_read_part) := ⟨rfl, rfl, rfl, by decide +kernel, rfl, by decide +kernel, by decide +kernel⟩
abbrev s_read_parts : Stmt := topS 19
theorem sc_read_parts : FnScope ["text", "at", "opened", "part", "parts"] ["text", "at", "opened"] (defScope s_read_parts) := ⟨rfl, rfl, rfl, by decide +kernel, rfl, by decide +kernel, by decide +kernel⟩
abbrev s_read_round : Stmt := topS 20
theorem sc_read_round : FnScope ["text", "stretch", "at"] ["text"] (defScope s_read_round) := ⟨rfl, rfl, rfl, by decide +kernel, rfl, by decide +kernel, by decide +kernel⟩
abbrev s_L_draw : Stmt := topS 22
theorem sc_L_draw : FnScope ["_law_script", "_law_cells", "_law_cell"] ["_law_script"] (defScope s_L_draw) := ⟨rfl, rfl, rfl, by decide +kernel, rfl, by decide +kernel, by decide +kernel⟩
abbrev s_L_mix : Stmt := topS 23
theorem sc_L_mix : FnScope ["_law_cell", "_law_turn", "_law_one", "_law_two"] ["_law_cell", "_law_turn"] (defScope s_L_mix) := ⟨rfl, rfl, rfl, by decide +kernel, rfl, by decide +kernel, by decide +kernel⟩
abbrev s_L_pick : Stmt := topS 24
theorem sc_L_pick : FnScope ["_law_draw_here", "_law_many", "_law_cell", "_law_digit", "_law_found"] ["_law_draw_here", "_law_many"] (defScope s_L_pick) := ⟨rfl, rfl, rfl, by decide +kernel, rfl, by decide +kernel, by decide +kernel⟩
abbrev s_L_is_int : Stmt := topS 25
theorem sc_L_is_int : FnScope ["_law_thing"] ["_law_thing"] (defScope s_L_is_int) := ⟨rfl, rfl, rfl, by decide +kernel, rfl, by decide +kernel, by decide +kernel⟩
abbrev s_L_sign : Stmt := topS 26
theorem sc_L_sign : FnScope ["_law_draw_here"] ["_law_draw_here"] (defScope s_L_sign) := ⟨rfl, rfl, rfl, by decide +kernel, rfl, by decide +kernel, by decide +kernel⟩
abbrev s_L_common : Stmt := topS 27
theorem sc_L_common : FnScope ["_law_one", "_law_two", "_law_first", "_law_second", "_law_third"] ["_law_one", "_law_two"] (defScope s_L_common) := ⟨rfl, rfl, rfl, by decide +kernel, rfl, by decide +kernel, by decide +kernel⟩
abbrev s_L_behind : Stmt := topS 28
theorem sc_L_behind : FnScope ["_law_one", "_law_two", "_law_many"] ["_law_one", "_law_two"] (defScope s_L_behind) := ⟨rfl, rfl, rfl, by decide +kernel, rfl, by decide +kernel, by decide +kernel⟩
abbrev s_L_often : Stmt := topS 29
theorem sc_L_often : FnScope ["_law_one", "_law_times_here", "_law_many"] ["_law_one", "_law_times_here"] (defScope s_L_often) := ⟨rfl, rfl, rfl, by decide +kernel, rfl, by decide +kernel, by decide +kernel⟩
abbrev s_L_together : Stmt := topS 30
theorem sc_L_together : FnScope ["_law_parts", "_law_many", "_law_part", "_law_row", "_law_spot", "_law_lit"] ["_law_parts"] (defScope s_L_together) := ⟨rfl, rfl, rfl, by decide +kernel, rfl, by decide +kernel, by decide +kernel⟩
abbrev s_L_run : Stmt := topS 31
theorem sc_L_run : FnScope ["_law_text", "_law_spot", "_law_last"] ["_law_text", "_law_spot"] (defScope s_L_run) := ⟨rfl, rfl, rfl, by decide +kernel, rfl, by decide +kernel, by decide +kernel⟩
abbrev s_L_fill : Stmt := topS 32
theorem sc_L_fill : FnScope ["_law_part", "_law_run_here"] ["_law_part", "_law_run_here"] (defScope s_L_fill) := ⟨rfl, rfl, rfl, by decide +kernel, rfl, by decide +kernel, by decide +kernel⟩
abbrev s_L_times : Stmt := topS 33
theorem sc_L_times : FnScope ["_law_run_here", "_law_follow"] ["_law_run_here", "_law_follow"] (defScope s_L_times) := ⟨rfl, rfl, rfl, by decide +kernel, rfl, by decide +kernel, by decide +kernel⟩
abbrev s_L_close : Stmt := topS 34
theorem sc_L_close : FnScope ["_law_stack", "_law_parts", "_law_part", "_law_here", "_law_whole", "_law_outer"] ["_law_stack", "_law_parts", "_law_part", "_law_here"] (defScope s_L_close) := ⟨rfl, rfl, rfl, by decide +kernel, rfl, by decide +kernel, by decide +kernel⟩
abbrev s_L_read : Stmt := topS 35
theorem sc_L_read : FnScope ["_law_text", "_law_stack", "_law_parts", "_law_part", "_law_filled", "_law_spot", "_law_here", "_law_after", "_law_run_here", "_law_low", "_law_times_here", "_law_whole"] ["_law_text"] (defScope s_L_read) := ⟨rfl, rfl, rfl, by decide +kernel, rfl, by decide +kernel, by decide +kernel⟩
abbrev s_L_number : Stmt := topS 36
theorem sc_L_number : FnScope ["_law_draw_here"] ["_law_draw_here"] (defScope s_L_number) := ⟨rfl, rfl, rfl, by decide +kernel, rfl, by decide +kernel, by decide +kernel⟩
abbrev s_L_part_text : Stmt := topS 37
theorem sc_L_part_text : FnScope ["_law_draw_here", "_law_depth", "_law_tally", "_law_text", "_law_turn", "_law_kind"] ["_law_draw_here", "_law_depth", "_law_tally"] (defScope s_L_part_text) := ⟨rfl, rfl, rfl, by decide +kernel, rfl, by decide +kernel, by decide +kernel⟩
abbrev s_L_parts_text : Stmt := topS 38
theorem sc_L_parts_text : FnScope ["_law_draw_here", "_law_depth", "_law_tally", "_law_texts", "_law_turn"] ["_law_draw_here", "_law_depth", "_law_tally"] (defScope s_L_parts_text) := ⟨rfl, rfl, rfl, by decide +kernel, rfl, by decide +kernel, by decide +kernel⟩
abbrev s_L_spoilt : Stmt := topS 39
theorem sc_L_spoilt : FnScope ["_law_draw_here", "_law_text", "_law_place", "_law_sign_here", "_law_kind"] ["_law_draw_here", "_law_text"] (defScope s_L_spoilt) := ⟨rfl, rfl, rfl, by decide +kernel, rfl, by decide +kernel, by decide +kernel⟩
abbrev s_L_chain : Stmt := topS 40
theorem sc_L_chain : FnScope ["_law_draw_here", "_law_many", "_law_text", "_law_turn"] ["_law_draw_here"] (defScope s_L_chain) := ⟨rfl, rfl, rfl, by decide +kernel, rfl, by decide +kernel, by decide +kernel⟩
abbrev s_L_digits : Stmt := topS 41
theorem sc_L_digits : FnScope ["_law_draw_here", "_law_run_here", "_law_low"] ["_law_draw_here"] (defScope s_L_digits) := ⟨rfl, rfl, rfl, by decide +kernel, rfl, by decide +kernel, by decide +kernel⟩
abbrev s_L_told : Stmt := topS 42
theorem sc_L_told : FnScope ["_law_text", "e", "_law_hits"] ["_law_text"] (defScope s_L_told) := ⟨rfl, rfl, rfl, by decide +kernel, rfl, by decide +kernel, by decide +kernel⟩
abbrev s_L_agree : Stmt := topS 43
theorem sc_L_agree : FnScope ["_law_told_here", "_law_due"] ["_law_told_here", "_law_due"] (defScope s_L_agree) := ⟨rfl, rfl, rfl, by decide +kernel, rfl, by decide +kernel, by decide +kernel⟩
abbrev s_law : Stmt := topS 44
theorem sc_law : FnScope ["_law_script", "_law_draw_here", "_law_text", "_law_once", "_law_thrice", "_law_one", "_law_thing"] ["_law_script"] (defScope s_law) := ⟨rfl, rfl, rfl, by decide +kernel, rfl, by decide +kernel, by decide +kernel⟩
abbrev s_BadText : Stmt := inClass (topS 2) 0
theorem sc_BadText : FnScope ["self", "at"] ["self", "at"] (defScope s_BadText) := ⟨rfl, rfl, rfl, by decide +kernel, rfl, by decide +kernel, by decide +kernel⟩
abbrev s_TooLong : Stmt := inClass (topS 3) 0
theorem sc_TooLong : FnScope ["self", "number"] ["self", "number"] (defScope s_TooLong) := ⟨rfl, rfl, rfl, by decide +kernel, rfl, by decide +kernel, by decide +kernel⟩
/-- what the top has written -/
structure Txt (K : PySem.W.Frag) (mg : Str → Option Value) (C_GlimError : Addr) (C_BadText : Addr) (C_TooLong : Addr) : Prop where
  d_common_beats : DefIn K mg "common_beats" s_common_beats ["first", "second"]
  d_repeated : DefIn K mg "repeated" s_repeated ["stretch", "times"]
  d_put_behind : DefIn K mg "put_behind" s_put_behind ["stretch", "other"]
  d_first_lit : DefIn K mg "first_lit" s_first_lit ["signs"]
  d_shown_together : DefIn K mg "shown_together" s_shown_together ["parts"]
  d_behind_digits : DefIn K mg "behind_digits" s_behind_digits ["text", "at"]
  d_is_within : DefIn K mg "is_within" s_is_within ["run", "low", "high"]
  d_read_item : DefIn K mg "read_item" s_read_item ["text", "at", "opened"]
  d_read_filled : DefIn K mg "read_filled" s_read_filled ["text", "at", "part"]
  d_read_part : DefIn K mg "read_part" s_read_part ["text", "at", "opened"]
  d_read_parts : DefIn K mg "read_parts" s_read_parts ["text", "at", "opened"]
  d_read_round : DefIn K mg "read_round" s_read_round ["text"]
  d_L_draw : DefIn K mg "_law_draw" s_L_draw ["_law_script"]
  d_L_mix : DefIn K mg "_law_mix" s_L_mix ["_law_cell", "_law_turn"]
  d_L_pick : DefIn K mg "_law_pick" s_L_pick ["_law_draw_here", "_law_many"]
  d_L_is_int : DefIn K mg "_law_is_int" s_L_is_int ["_law_thing"]
  d_L_sign : DefIn K mg "_law_sign" s_L_sign ["_law_draw_here"]
  d_L_common : DefIn K mg "_law_common" s_L_common ["_law_one", "_law_two"]
  d_L_behind : DefIn K mg "_law_behind" s_L_behind ["_law_one", "_law_two"]
  d_L_often : DefIn K mg "_law_often" s_L_often ["_law_one", "_law_times_here"]
  d_L_together : DefIn K mg "_law_together" s_L_together ["_law_parts"]
  d_L_run : DefIn K mg "_law_run" s_L_run ["_law_text", "_law_spot"]
  d_L_fill : DefIn K mg "_law_fill" s_L_fill ["_law_part", "_law_run_here"]
  d_L_times : DefIn K mg "_law_times" s_L_times ["_law_run_here", "_law_follow"]
  d_L_close : DefIn K mg "_law_close" s_L_close ["_law_stack", "_law_parts", "_law_part", "_law_here"]
  d_L_read : DefIn K mg "_law_read" s_L_read ["_law_text"]
  d_L_number : DefIn K mg "_law_number" s_L_number ["_law_draw_here"]
  d_L_part_text : DefIn K mg "_law_part_text" s_L_part_text ["_law_draw_here", "_law_depth", "_law_tally"]
  d_L_parts_text : DefIn K mg "_law_parts_text" s_L_parts_text ["_law_draw_here", "_law_depth", "_law_tally"]
  d_L_spoilt : DefIn K mg "_law_spoilt" s_L_spoilt ["_law_draw_here", "_law_text"]
  d_L_chain : DefIn K mg "_law_chain" s_L_chain ["_law_draw_here"]
  d_L_digits : DefIn K mg "_law_digits" s_L_digits ["_law_draw_here"]
  d_L_told : DefIn K mg "_law_told" s_L_told ["_law_text"]
  d_L_agree : DefIn K mg "_law_agree" s_L_agree ["_law_told_here", "_law_due"]
  d_law : DefIn K mg "law" s_law ["_law_script"]
  b_ValueError : mg "ValueError" = none
  b_abs : mg "abs" = none
  b_bool : mg "bool" = none
  b_int : mg "int" = none
  b_isinstance : mg "isinstance" = none
  b_len : mg "len" = none
  b_max : mg "max" = none
  b_range : mg "range" = none
  b_str : mg "str" = none
  b_sum : mg "sum" = none
  g_SIGNS : ∃ t, mg "SIGNS" = some (.str ⟨([46, 103, 114, 119] : List Nat).toArray⟩ t)
  g_MOST_ROUND : ∃ t, mg "MOST_ROUND" = some (.int 24 t)
  g_DIGITS : ∃ t, mg "DIGITS" = some (.str ⟨([48, 49, 50, 51, 52, 53, 54, 55, 56, 57] : List Nat).toArray⟩ t)
  g_MOST_OPEN : ∃ t, mg "MOST_OPEN" = some (.int 6 t)
  c_GlimError : mg "GlimError" = some (.ref C_GlimError)
  c_BadText : mg "BadText" = some (.ref C_BadText)
  c_TooLong : mg "TooLong" = some (.ref C_TooLong)
  o_BadText : OexC K C_BadText
  nf_BadText : PySem.W.findIn K (.ref C_BadText) "at" = some none
  i_BadText : ∃ fI fd, PySem.W.findIn K (.ref C_BadText) "__init__" = some (some (.ref fI)) ∧ PySem.W.typeIn K (.ref fI) = some (.type "function") ∧ Fun K "__init__" "BadText.__init__" s_BadText fI fd ∧ Binds K fd ["self", "at"] []
  e_BadText : ExcD K C_BadText
  o_TooLong : OexC K C_TooLong
  nf_TooLong : PySem.W.findIn K (.ref C_TooLong) "number" = some none
  i_TooLong : ∃ fI fd, PySem.W.findIn K (.ref C_TooLong) "__init__" = some (some (.ref fI)) ∧ PySem.W.typeIn K (.ref fI) = some (.type "function") ∧ Fun K "__init__" "TooLong.__init__" s_TooLong fI fd ∧ Binds K fd ["self", "number"] []
  e_TooLong : ExcD K C_TooLong
  k_BadText_BadText : PySem.W.kitOne K (.ref C_BadText) (.ref C_BadText) = some true
  k_BadText_TooLong : PySem.W.kitOne K (.ref C_BadText) (.ref C_TooLong) = some false
  k_BadText_ValueError : PySem.W.kitOne K (.ref C_BadText) (.type "ValueError") = some true
  k_TooLong_BadText : PySem.W.kitOne K (.ref C_TooLong) (.ref C_BadText) = some false
  k_TooLong_TooLong : PySem.W.kitOne K (.ref C_TooLong) (.ref C_TooLong) = some true
  k_TooLong_ValueError : PySem.W.kitOne K (.ref C_TooLong) (.type "ValueError") = some true
  m_BadText_GlimError : PySem.W.exmOne K (.ref C_BadText) (.ref C_GlimError) = some true
  m_TooLong_GlimError : PySem.W.exmOne K (.ref C_TooLong) (.ref C_GlimError) = some true
section
variable {P : Program} {w : World} {K : PySem.W.Frag} {mg : Str → Option Value} {base : Heap} {C_GlimError C_BadText C_TooLong : Addr}
theorem okx_BadText (T : Txt K mg C_GlimError C_BadText C_TooLong) : OKx P w K mg base "BadText" "at" C_BadText := by
  obtain ⟨fI, fd, h1, h2, F, hb⟩ := T.i_BadText
  exact ⟨T.c_BadText, T.o_BadText, T.nf_BadText, fI, fd, h1, h2, ini_ok F sc_BadText T.o_BadText T.nf_BadText (fun cdv A outer s H E => (pss_one (ps_ost (pv 0) (pv 1)))), hb⟩
theorem okx_TooLong (T : Txt K mg C_GlimError C_BadText C_TooLong) : OKx P w K mg base "TooLong" "number" C_TooLong := by
  obtain ⟨fI, fd, h1, h2, F, hb⟩ := T.i_TooLong
  exact ⟨T.c_TooLong, T.o_TooLong, T.nf_TooLong, fI, fd, h1, h2, ini_ok F sc_TooLong T.o_TooLong T.nf_TooLong (fun cdv A outer s H E => (pss_one (ps_ost (pv 0) (pv 1)))), hb⟩
end
end K05
namespace K05
open PySem PySem.Spec PyProof.Rows L2 Fg
local macro_rules | `(tactic| walk_at "sq") => `(tactic| first
  | assumption
  | exact .inl (.inl (by assumption))
  | exact .inl (.inl upd_same))
local macro_rules | `(tactic| walk_at "st") => `(tactic| first
  | assumption
  | exact .inl (.inl (by assumption))
  | exact .inl (.inl upd_same))
local macro_rules | `(tactic| walk_at "o") => `(tactic| first
  | omega
  | assumption
  | (simp only [List.length_append, List.length_take, List.length_drop, List.length_cons, List.length_nil, List.length_singleton, List.length_map, List.length_range, Int.toNat_natCast] ; omega))
local macro_rules | `(tactic| walk_at "s") => `(tactic| first
  | (with_reducible refine i_seq ?_)
  | (with_reducible refine i_asg ?_)
  | ((with_reducible refine' i_var ?h1 ?_); (case h1 => rfl))
  | (with_reducible refine i_c ?_)
  | ((with_reducible refine' i_gname' ?h1 ?_); (case h1 => (simp only [List.set_cons_zero, List.set_cons_succ]; rfl)))
  | (with_reducible refine i_op ?_)
  | (with_reducible refine i_ifS ?_)
  | (with_reducible refine i_for ?_)
  | (with_reducible refine i_test ?_)
  | (with_reducible refine i_B ?_)
  | (with_reducible refine i_exbl ?_)
  | (with_reducible refine i_exint ?_)
  | (with_reducible refine i_cb ?_)
  | (with_reducible refine i_nil ?_)
  | (with_reducible refine i_cons ?_)
  | (with_reducible refine i_ret ?_)
  | (with_reducible refine i_sl ?_)
  | (with_reducible refine i_nopart ?_)
  | (with_reducible refine i_part ?_)
  | (with_reducible refine i_add_int ?_)
  | (with_reducible refine i_sub ?_)
  | (with_reducible refine i_lt ?_)
  | ((with_reducible refine' i_mod ?h1 ?_); (case h1 => walk_at "o"))
  | ((with_reducible refine' i_fdiv ?h1 ?_); (case h1 => (refine cdiv_small ?_ ?_ <;> walk_at "o")))
  | ((with_reducible refine' i_sl_to ?h1 ?h2 ?_); (case h1 => walk_at "o"); (case h2 => walk_at "o"))
  | ((with_reducible refine' i_sl_from ?h1 ?h2 ?_); (case h1 => walk_at "o"); (case h2 => walk_at "o"))
  | ((with_reducible refine' i_add_str ?h1 ?_); (case h1 => walk_at "o"))
  | ((with_reducible refine' i_mul_int ?h1 ?_); (case h1 => first | (refine mul_small ?_ ?_ <;> walk_at "o") | (refine mul_smallR ?_ ?_ <;> walk_at "o")))
  | (with_reducible refine i_le ?_)
  | (with_reducible refine i_gt ?_)
  | (with_reducible refine i_ge ?_)
  | (with_reducible refine i_eq_int ?_)
  | (with_reducible refine i_eq_str ?_)
  | (with_reducible refine i_ne_int ?_)
  | (with_reducible refine i_ne_str ?_)
  | (with_reducible refine i_eq_bl ?_)
  | (with_reducible refine i_ne_bl ?_)
  | (with_reducible refine i_in_sg ?_)
  | (with_reducible refine i_notIn_sg ?_)
  | (with_reducible refine i_call ?_)
  | (with_reducible refine i_callS ?_)
  | (with_reducible refine i_sp1 ?_)
  | (with_reducible refine i_sp2 ?_)
  | (with_reducible refine i_sp3 ?_)
  | (with_reducible refine i_sp4 ?_)
  | (with_reducible refine i_sp1' ?_)
  | (with_reducible refine i_sp2' ?_)
  | (with_reducible refine i_sp3' ?_)
  | ((with_reducible refine' i_ix_lst ?h1 ?h2 ?_); (case h1 => walk_at "sq"); (case h2 => first | exact atI_nat rfl | rfl))
  | ((with_reducible refine' i_ix_tup ?h1 ?h2 ?_); (case h1 => walk_at "st"); (case h2 => first | exact atI_nat rfl | rfl))
  | (with_reducible refine i_gsub ?_)
  | (with_reducible refine i_par ?_)
  | (with_reducible refine i_lstRg1 ?_)
  | (with_reducible refine i_app ?_)
  | (with_reducible refine i_par2 ?_)
  | ((with_reducible refine' i_aug ?h1 ?_); (case h1 => rfl))
  | (with_reducible refine i_ipI ?_)
  | ((with_reducible refine' i_gtup2 ?h1 ?_); (case h1 => walk_at "st"))
  | (with_reducible refine i_int_bl ?_)
  | (with_reducible refine i_raise ?_)
  | (with_reducible refine i_mkE ?_)
  | (with_reducible refine i_ex1 ?_)
  | (with_reducible refine i_and ?_)
  | (with_reducible refine i_or ?_)
  | (with_reducible refine i_not ?_)
  | (with_reducible refine i_tt ?_)
  | (with_reducible refine i_ff ?_)
  | (with_reducible refine i_nott ?_)
  | (with_reducible refine i_notf ?_)
  | (with_reducible refine i_andV ?_)
  | (with_reducible refine i_orV ?_)
  | (with_reducible refine i_notV ?_)
  | (with_reducible refine i_ifE ?_)
  | (with_reducible refine i_tup ?_)
  | (with_reducible refine i_lst ?_)
  | (with_reducible refine i_un ?_)
  | (with_reducible refine i_neg ?_)
  | (with_reducible refine i_chain ?_)
  | (with_reducible refine i_next ?_)
  | (with_reducible refine i_retN ?_)
  | (with_reducible refine i_drop ?_)
  | (with_reducible refine i_int_int ?_)
  | (with_reducible refine i_abs ?_)
  | (with_reducible refine i_m1c ?_)
  | (with_reducible refine i_is_non ?_)
  | (with_reducible refine i_is_int ?_)
  | (with_reducible refine i_is_bl ?_)
  | (with_reducible refine i_isn_bl ?_)
  | (with_reducible refine i_is_str ?_)
  | (with_reducible refine i_is_ref ?_)
  | (with_reducible refine i_isn_non ?_)
  | (with_reducible refine i_isn_int ?_)
  | (with_reducible refine i_isn_str ?_)
  | (with_reducible refine i_isn_ref ?_)
  | (with_reducible refine i_len_str ?h1 ?_; (case h1 => walk_at "o"))
  | (with_reducible refine i_isi_int_int ?_) | (with_reducible refine i_isi_int_bool ?_) | (with_reducible refine i_isi_int_str ?_) | (with_reducible refine i_isi_int_tuple ?_) | (with_reducible refine i_isi_int_list ?_)
  | (with_reducible refine i_isi_bl_int ?_) | (with_reducible refine i_isi_bl_bool ?_) | (with_reducible refine i_isi_bl_str ?_) | (with_reducible refine i_isi_bl_tuple ?_) | (with_reducible refine i_isi_bl_list ?_)
  | (with_reducible refine i_isi_str_int ?_) | (with_reducible refine i_isi_str_bool ?_) | (with_reducible refine i_isi_str_str ?_) | (with_reducible refine i_isi_str_tuple ?_) | (with_reducible refine i_isi_str_list ?_)
  | (with_reducible refine i_isi_non_int ?_) | (with_reducible refine i_isi_non_bool ?_) | (with_reducible refine i_isi_non_str ?_) | (with_reducible refine i_isi_non_tuple ?_) | (with_reducible refine i_isi_non_list ?_))
local macro_rules | `(tactic| walk_at "go") => `(tactic| (repeat' (walk_at "s")))
local macro_rules | `(tactic| walk_at "n") => `(tactic| simp only [wipe, List.map_cons, List.map_nil, List.set_cons_zero, List.set_cons_succ])
/-! ### draws: the list at a holds a place in the script's cells (at c) and what is left of a great one -/
structure Dd where
  a : Addr
  c : Addr
  ns : List Int
/-- H0: what is known besides -/
def Dr (K : PySem.W.Frag) (d : Dd) (H0 H : Hp) : Prop := Same H0 H ∧ H0 d.a = none ∧ SqL K H0 d.c (d.ns.map V.int) ∧ d.ns.length ≤ 100 ∧ ∃ p b u x s : Int, H d.a = some (.lst [.ref d.c, .int p, .int b, .int u, .int x, .int s]) ∧ 0 ≤ p
section
variable {K : PySem.W.Frag} {d : Dd} {H0 H H' H1 : Hp} {q : Addr} {o o' : HO}
theorem Dr.same (h : Dr K d H0 H) (s : Same H H') : Dr K d H0 H' := by
  obtain ⟨s0, n0, hc, hl, p, b, u, x, sd, ha, hp⟩ := h
  exact ⟨s0.trans s, n0, hc, hl, p, b, u, x, sd, s _ _ ha, hp⟩
theorem Dr.new (h : Dr K d H0 H) (n : H q = none) : Dr K d (upd H0 q o) (upd H q o) := by
  obtain ⟨s0, n0, hc, hl, p, b, u, x, sd, ha, hp⟩ := h
  have nq : d.a ≠ q := ne_of_none ha n
  have s1 : Same H0 (upd H0 q o) := same_upd (s0.free n)
  refine ⟨fun b' o' e => ?_, by rw [upd_ne nq]; exact n0, s1.seq hc, hl, p, b, u, x, sd, by rw [upd_ne nq]; exact ha, hp⟩
  by_cases hb : b' = q
  · rw [hb, upd_same] at e
    rw [hb, upd_same]; exact e
  · rw [upd_ne hb] at e
    rw [upd_ne hb]; exact s0 _ _ e
/-- an object that is known changes -/
theorem Dr.put (h : Dr K d (upd H0 q o) H) (hc : SqL K H0 d.c (d.ns.map V.int)) (n : H0 q = none) : Dr K d (upd H0 q o') (upd H q o') := by
  obtain ⟨s0, n0, _, hl, p, b, u, x, sd, ha, hp⟩ := h
  have nq : d.a ≠ q := fun z => by rw [z, upd_same] at n0; cases n0
  have s1 : Same H0 (upd H0 q o') := same_upd n
  rw [upd_ne nq] at n0
  refine ⟨fun b' o' e => ?_, by rw [upd_ne nq]; exact n0, s1.seq hc, hl, p, b, u, x, sd, by rw [upd_ne nq]; exact ha, hp⟩
  by_cases hb : b' = q
  · rw [hb, upd_same] at e
    rw [hb, upd_same]; exact e
  · rw [upd_ne hb] at e
    rw [upd_ne hb]; exact s0 _ _ (by rw [upd_ne hb]; exact e)
/-- more, or less, is known -/
theorem Dr.know (h : Dr K d H0 H) (s0 : Same H0 H1) (s1 : Same H1 H) (n : H1 d.a = none) : Dr K d H1 H := by
  obtain ⟨_, n0, hc, hl, p, b, u, x, sd, ha, hp⟩ := h
  exact ⟨s1, n, s0.seq hc, hl, p, b, u, x, sd, ha, hp⟩
theorem Dr.less (h : Dr K d (upd H0 q o) H) (hc : SqL K H0 d.c (d.ns.map V.int)) (n : H0 q = none) : Dr K d H0 H := by
  obtain ⟨s0, n0, _, hl, p, b, u, x, sd, ha, hp⟩ := h
  have nq : d.a ≠ q := fun z => by rw [z, upd_same] at n0; cases n0
  rw [upd_ne nq] at n0
  exact ⟨(same_upd n).trans s0, n0, hc, hl, p, b, u, x, sd, ha, hp⟩
theorem Dr.old (h : Dr K d H0 H) (e : H0 q = some o) : H q = some o := h.1 _ _ e
theorem Dr.cells (h : Dr K d H0 H) : SqL K H0 d.c (d.ns.map V.int) := h.2.2.1
theorem Dr.free (h : Dr K d H0 H) (n : H q = none) : H0 q = none := h.1.free n
/-- what a call that leaves all as it was hands back new -/
theorem Dr.got (h : Dr K d H0 H) (n : H q = none) (s : Same H H') (e : H' q = some o) : Dr K d (upd H0 q o) H' := by
  obtain ⟨s0, n0, hc, hl, p, b, u, x, sd, ha, hp⟩ := h
  have nq : d.a ≠ q := ne_of_none ha n
  have s1 : Same H0 (upd H0 q o) := same_upd (s0.free n)
  refine ⟨fun b' o' e' => ?_, by rw [upd_ne nq]; exact n0, s1.seq hc, hl, p, b, u, x, sd, s _ _ ha, hp⟩
  by_cases hb : b' = q
  · rw [hb, upd_same] at e'
    rw [hb, e]; exact e'
  · rw [upd_ne hb] at e'
    exact s _ _ (s0 _ _ e')
end
theorem range_getD (xs : List V) : (List.range xs.length).map (fun i => xs.getD i .non) = xs := by
  refine List.ext_getElem? fun i => ?_
  rw [List.getElem?_map]
  by_cases h : i < xs.length
  · rw [List.getElem?_range h, Option.map_some, List.getD_eq_getElem?_getD, List.getElem?_eq_getElem h]
    rfl
  · rw [List.getElem?_eq_none (by simpa using h), List.getElem?_eq_none (by omega)]
    rfl
def Btw (n many : Int) : Prop := 0 ≤ n ∧ (2 ≤ many → n < many) ∧ (many < 2 → n = 0)
section
variable {P : Program} {w : World} {K : PySem.W.Frag} {mg : Str → Option Value} {base : Heap} {C_GlimError C_BadText C_TooLong : Addr}
def p_L_draw (K : PySem.W.Frag) : P1 := fun v H Q _ => ∃ (a0 : Addr) (ns : List Int), v = .ref a0 ∧ SqL K H a0 (ns.map V.int) ∧ ns.length ≤ 100 ∧ ∀ H0 d H', Same H H0 → Dr K d H0 H' → Q (.ref d.a) H'
theorem ok_L_draw (T : Txt K mg C_GlimError C_BadText C_TooLong) : OK P w K mg base CX0 1 "_law_draw" ["_law_script"] (sp1  (p_L_draw K)) := by
  refine OK.mk (k := 0) T.d_L_draw sc_L_draw len1 fun f cdv A outer s H vs Q E hr h => ?_
  obtain ⟨x, rfl, h⟩ := h
  refine ⟨_, (pss_cons (ps_setLc (i := 1) (own := [("_law_cell", 2)]) (g := gName 2) (tt := tYes) (by rfl) sc_L_draw.nd rfl rfl (sw_true rfl rfl rfl (by decide +kernel)) (piAny K (pv 0)) (blkOk_by (own := [("_law_cell", 2)]) (N := ["_law_script", "_law_cells", "_law_cell"]) (sc := (defScope s_L_draw)) (by decide +kernel)) (fun _ _ _ _ _ => (pg_name (i := 2) sc_L_draw.nd rfl (Or.inl rfl))) (fun _ _ _ _ _ => pts_nil) (fun _ _ _ _ _ => (pv 2))) (pss_one (ps_ret (pe_lst (pa_cons (pv 1) (pa_cons pe_int (pa_cons pe_int (pa_cons pe_int (pa_cons pe_int (pa_cons (pe_op (opAdd K) (pe_op op_modP (pe_callTy call_intP (by rfl) T.b_int (by decide +kernel) (pa_cons (pe_callB (cSum K rfl) (by rfl) T.b_sum (by decide +kernel) (pa_cons (pv 1) pa_nil)) pa_nil)) pe_int) (pe_op op_mulP pe_int (pe_callB (cLen K) (by rfl) T.b_len (by decide +kernel) (pa_cons (pv 1) pa_nil)))) pa_nil)))))))))), ?_⟩
  show (_ : TS) { nx := fun _ H' => Q .non H', rt := Q } [some x, none, none] H
  obtain ⟨a0, ns, rfl, hS, hl, q⟩ := h
  walk_at "go"
  refine c_lst (xs := ns.map V.int) (fun R k => by walk_at "go"; exact k) hS (by rw [List.length_map]; omega) (fun _ => true) (fun i => (ns.map V.int).getD i .non) (fun _ => rfl) (fun i v H2 hi s2 QB k => k H2 (Same.refl H2)) (fun i v H2 hi s2 _ QV k => ?_) (fun Dl H2 n2 s2 d2 => ?_)
  · show (_ : TE) [some (.ref a0), none, some v] H2 QV
    walk_at "go"
    have e : v = (ns.map V.int).getD i .non := by rw [List.getD_eq_getElem?_getD, hi]; rfl
    rw [e]
    exact k H2 (Same.refl H2)
  · rw [kept_all, range_getD] at d2
    walk_at "go"
    refine i_sum (ns := ns) (.inl (.inl d2)) ?_
    walk_at "go"
    refine i_len_lst (.inl (.inl d2)) ?_
    walk_at "go"
    refine i_new (by show 6 ≤ 100000; omega) fun a na => ?_
    walk_at "go"
    exact q H2 ⟨a, Dl, ns⟩ _ s2 ⟨same_upd na, na, .inl (.inl d2), hl, _, _, _, _, _, upd_same, Int.le_refl _⟩
def p_L_mix : P2 := fun x y H Q _ => ∃ a b : Int, x = .int a ∧ y = .int b ∧ ∀ r : Int, Q (.int r) H
theorem ok_L_mix (T : Txt K mg C_GlimError C_BadText C_TooLong) : OK P w K mg base CX0 1 "_law_mix" ["_law_cell", "_law_turn"] (sp2  p_L_mix) := by
  refine OK.mk (k := 0) T.d_L_mix sc_L_mix len2 fun f cdv A outer s H vs Q E hr h => ?_
  obtain ⟨x, y, rfl, h⟩ := h
  refine ⟨_, (pss_cons (ps_set (i := 2) sc_L_mix.nd rfl (Or.inl rfl) (pe_op op_modP (pe_callTy call_intP (by rfl) T.b_int (by decide +kernel) (pa_cons (pe_op (opAdd K) (pe_op (opAdd K) (pe_op op_mulP (pv 0) pe_int) (pe_op op_mulP (pv 1) pe_int)) pe_int) pa_nil)) pe_int)) (pss_cons (ps_set (i := 3) sc_L_mix.nd rfl (Or.inl rfl) (pe_op op_modP (pe_callTy call_intP (by rfl) T.b_int (by decide +kernel) (pa_cons (pe_op (opAdd K) (pe_op (opAdd K) (pe_op op_mulP (pv 2) (pv 2)) (pe_op op_mulP (pv 1) pe_int)) (pv 0)) pa_nil)) pe_int)) (pss_cons (ps_set (i := 3) sc_L_mix.nd rfl (Or.inl rfl) (pe_op op_modP (pe_callTy call_intP (by rfl) T.b_int (by decide +kernel) (pa_cons (pe_op (opAdd K) (pe_op op_mulP (pv 3) (pv 3)) (pv 2)) pa_nil)) pe_int)) (pss_one (ps_ret (pe_op op_fdivP (pv 3) pe_int)))))), ?_⟩
  show (_ : TS) { nx := fun _ H' => Q .non H', rt := Q } [some x, some y, none, none] H
  obtain ⟨c, t, rfl, rfl, q⟩ := h
  walk_at "go"
  have h1 : 0 ≤ (c * 48271 + t * 69621 + 12345) % 2147483647 := Int.emod_nonneg _ (by decide)
  have h2 : (c * 48271 + t * 69621 + 12345) % 2147483647 < 2147483647 := Int.emod_lt_of_pos _ (by decide)
  generalize (c * 48271 + t * 69621 + 12345) % 2147483647 = o at *
  walk_at "go"
  have h3 : 0 ≤ (o * o + t * 7919 + c) % 998244353 := Int.emod_nonneg _ (by decide)
  have h4 : (o * o + t * 7919 + c) % 998244353 < 998244353 := Int.emod_lt_of_pos _ (by decide)
  generalize (o * o + t * 7919 + c) % 998244353 = o2 at *
  walk_at "go"
  exact q _
/-- a number from 0 to less than so many; the draws go on -/
def p_L_pick (K : PySem.W.Frag) : P2 := fun x y H Q _ => ∃ (H0 : Hp) (d : Dd) (many : Int), x = .ref d.a ∧ y = .int many ∧ Dr K d H0 H ∧ many ≤ 10000000000000000000000000000000000000000 ∧ ∀ (n : Int) H', Dr K d H0 H' → Btw n many → Q (.int n) H'
theorem wide_many {b many : Int} (h : 0 < many) (h2 : many ≤ 10000000000000000000000000000000000000000) : CDivW b many := by
  refine wide_div (b := 140) h ?_ (by decide) (by decide)
  have e : (2 : Nat) ^ 140 = 1393796574908163946345982392040522594123776 := by decide +kernel
  rw [e]
  omega
theorem ok_L_pick (T : Txt K mg C_GlimError C_BadText C_TooLong) : OK P w K mg base CX0 2 "_law_pick" ["_law_draw_here", "_law_many"] (sp2  (p_L_pick K)) := by
  refine OK.mk (k := 1) T.d_L_pick sc_L_pick len2 fun f cdv A outer s H vs Q E hr h => ?_
  obtain ⟨x, y, rfl, h⟩ := h
  refine ⟨_, (pss_cons (ps_if (pt_cmpR op_ltP (pv 1) pe_int (nomark _)) (pss_one (ps_ret pe_int)) pss_nil) (Evl.pss_cut (ps_if (pw_and (pt_cmpR (opEq K hr.units) (pe_ix (ixK K) (pv 0) pe_int (fun _ _ => rfl)) pe_int (nomark _)) (pw_and (pt_cmpR op_ltP (pe_ix (ixK K) (pv 0) pe_int (fun _ _ => rfl)) (pe_callB (cLen K) (by rfl) T.b_len (by decide +kernel) (pa_cons (pe_ix (ixK K) (pv 0) pe_int (fun _ _ => rfl)) pa_nil)) (nomark _)) (pw_and1 (pt_cmpR (opEq K hr.units) (pe_ix (ixK K) (pv 0) pe_int (fun _ _ => rfl)) pe_int (nomark _))))).pt (pss_cons (ps_set (i := 2) sc_L_pick.nd rfl (Or.inl rfl) (pe_ix (ixK K) (pe_ix (ixK K) (pv 0) pe_int (fun _ _ => rfl)) (pe_ix (ixK K) (pv 0) pe_int (fun _ _ => rfl)) (fun _ _ => rfl))) (pss_one (ps_if (pw_or (pt_cmpR op_geP (pv 2) (pe_op op_powP pe_int pe_int) (nomark _)) (pw_or1 (pt_cmpR op_leP (pv 2) (pe_un un_neg (pe_op op_powP pe_int pe_int)) (nomark _)))).pt (pss_cons (ps_asg (pe_op op_modP (pe_callTy call_intP (by rfl) T.b_int (by decide +kernel) (pa_cons (pe_callB call_absP (by rfl) T.b_abs (by decide +kernel) (pa_cons (pv 2) pa_nil)) pa_nil)) (pe_op op_powP (pe_op op_powP pe_int pe_int) pe_int)) (pg_sub (pv 0) pe_int set_list)) (pss_one (ps_asg (pe_op (opAdd K) (pe_ix (ixK K) (pv 0) pe_int (fun _ _ => rfl)) pe_int) (pg_sub (pv 0) pe_int set_list)))) pss_nil))) pss_nil) (pss_cons (ps_if (pt_cmpR op_gtP (pe_ix (ixK K) (pv 0) pe_int (fun _ _ => rfl)) pe_int (nomark _)) (pss_cons (ps_set (i := 3) sc_L_pick.nd rfl (Or.inl rfl) (pe_op op_modP (pe_callTy call_intP (by rfl) T.b_int (by decide +kernel) (pa_cons (pe_ix (ixK K) (pv 0) pe_int (fun _ _ => rfl)) pa_nil)) (pv 1))) (pss_cons (ps_asg (pe_op op_fdivP (pe_ix (ixK K) (pv 0) pe_int (fun _ _ => rfl)) (pv 1)) (pg_sub (pv 0) pe_int set_list)) (pss_one (ps_ret (pv 3))))) pss_nil) (pss_cons (ps_if (pt_cmpR op_ltP (pe_ix (ixK K) (pv 0) pe_int (fun _ _ => rfl)) (pe_callB (cLen K) (by rfl) T.b_len (by decide +kernel) (pa_cons (pe_ix (ixK K) (pv 0) pe_int (fun _ _ => rfl)) pa_nil)) (nomark _)) (pss_cons (ps_set (i := 2) sc_L_pick.nd rfl (Or.inl rfl) (pe_ix (ixK K) (pe_ix (ixK K) (pv 0) pe_int (fun _ _ => rfl)) (pe_ix (ixK K) (pv 0) pe_int (fun _ _ => rfl)) (fun _ _ => rfl))) (pss_cons (ps_asg (pe_op (opAdd K) (pe_ix (ixK K) (pv 0) pe_int (fun _ _ => rfl)) pe_int) (pg_sub (pv 0) pe_int set_list)) (pss_cons (ps_set (i := 4) sc_L_pick.nd rfl (Or.inl rfl) (pe_op op_modP (pe_callTy call_intP (by rfl) T.b_int (by decide +kernel) (pa_cons (pe_f (ok_L_mix (K := K) T) (hr.mono (by decide)) pass0 (pa_cons (pe_op (opAdd K) (pv 2) (pe_op op_mulP pe_int (pe_ix (ixK K) (pv 0) pe_int (fun _ _ => rfl)))) (pa_cons (pe_ix (ixK K) (pv 0) pe_int (fun _ _ => rfl)) pa_nil))) pa_nil)) (pv 1))) (Evl.pss_cut (ps_if (pt_cmpR (opEq K hr.units) (pe_ix (ixK K) (pv 0) pe_int (fun _ _ => rfl)) pe_int (nomark _)) (pss_cons (ps_asg pe_int (pg_sub (pv 0) pe_int set_list)) (pss_one (ps_asg (pe_op (opAdd K) (pe_ix (ixK K) (pv 0) pe_int (fun _ _ => rfl)) pe_int) (pg_sub (pv 0) pe_int set_list)))) pss_nil) (pss_one (ps_ret (pv 4))))))) pss_nil) (pss_cons (ps_asg (pe_op (opAdd K) (pe_ix (ixK K) (pv 0) pe_int (fun _ _ => rfl)) pe_int) (pg_sub (pv 0) pe_int set_list)) (pss_one (ps_ret (pe_op op_modP (pe_callTy call_intP (by rfl) T.b_int (by decide +kernel) (pa_cons (pe_f (ok_L_mix (K := K) T) (hr.mono (by decide)) pass0 (pa_cons (pe_ix (ixK K) (pv 0) pe_int (fun _ _ => rfl)) (pa_cons (pe_op (opAdd K) (pe_ix (ixK K) (pv 0) pe_int (fun _ _ => rfl)) pe_int) pa_nil))) pa_nil)) (pv 1))))))))), ?_⟩
  show (_ : TS) { nx := fun _ H' => Q .non H', rt := Q } [some x, some y, none, none, none] H
  obtain ⟨H0, d, many, rfl, rfl, dr, hmax, q⟩ := h
  walk_at "go"
  refine i_dec (fun e => ?_) (fun e => ?_)
  · walk_at "go"
    exact q 0 H dr ⟨Int.le_refl _, fun z => by omega, fun _ => rfl⟩
  walk_at "go"
  have hpos : 0 < many := by omega
  -- a great cell is taken up
  refine i_cut (fun σ H' => ∃ v2 v3 v4, σ = [some (.ref d.a), some (.int many), v2, v3, v4] ∧ Dr K d H0 H') ?_ ?_
  · obtain ⟨a, c, ns⟩ := d
    obtain ⟨s0, n0, hC, hl, p, b, u, x, sd, hA, hp⟩ := id dr
    dsimp only at *
    have hC' : SqL K H c (ns.map V.int) := s0.seq hC
    have skip : ∃ v2 v3 v4, ([some (.ref a), some (.int many), none, none, none] : L2.St) = [some (.ref a), some (.int many), v2, v3, v4] ∧ Dr K ⟨a, c, ns⟩ H0 H := ⟨_, _, _, rfl, dr⟩
    walk_at "go"
    refine i_dec (fun e1 => ?_) (fun e1 => skip)
    walk_at "go"
    refine i_len_lst hC' ?_
    walk_at "go"
    refine i_dec (fun e2 => ?_) (fun e2 => skip)
    walk_at "go"
    refine i_dec (fun e3 => ?_) (fun e3 => skip)
    walk_at "go"
    rw [List.length_map] at e2
    have hpl : p.toNat < ns.length := by omega
    refine i_ix_lst (v := .int ns[p.toNat]) hC' (atI_int hp (by rw [List.getElem?_map, List.getElem?_eq_getElem hpl]; rfl)) ?_
    walk_at "go"
    refine i_pow (by decide +kernel) ?_
    walk_at "go"
    have fin : ∃ v2 v3 v4, ([some (.ref a), some (.int many), some (.int ns[p.toNat]), none, none] : L2.St) = [some (.ref a), some (.int many), v2, v3, v4] ∧ Dr K ⟨a, c, ns⟩ H0 H := ⟨_, _, _, rfl, dr⟩
    refine i_dec (fun e4 => ?_) (fun e4 => ?_)
    case' refine_2 =>
      walk_at "go"
      refine i_pow (by decide +kernel) ?_
      walk_at "go"
      refine i_dec (fun e5 => ?_) (fun e5 => fin)
    all_goals
      walk_at "go"
      refine i_pow (by decide +kernel) ?_
      walk_at "go"
      refine i_pow (by decide +kernel) ?_
      walk_at "go"
      refine i_mod (by decide +kernel) ?_
      walk_at "go"
      refine i_setL 2 hA rfl rfl ?_
      walk_at "go"
      refine i_setL 1 upd_same rfl rfl ?_
      walk_at "go"
      rw [upd_upd]
      exact ⟨_, _, _, rfl, Same.upd s0 n0, n0, hC, hl, _, _, _, _, _, upd_same, by omega⟩
  · rintro σ H1 ⟨v2, v3, v4, rfl, d1⟩
    obtain ⟨a, c, ns⟩ := d
    obtain ⟨s0, n0, hC, hl, p, b, u, x, sd, hA, hp⟩ := id d1
    dsimp only at *
    have hC' : SqL K H1 c (ns.map V.int) := s0.seq hC
    have put : ∀ {p' b' u' x' s' : Int}, 0 ≤ p' → Dr K ⟨a, c, ns⟩ H0 (upd H1 a (.lst [.ref c, .int p', .int b', .int u', .int x', .int s'])) := fun h => ⟨Same.upd s0 n0, n0, hC, hl, _, _, _, _, _, upd_same, h⟩
    have btw : ∀ r : Int, Btw (r % many) many := fun r => ⟨Int.emod_nonneg _ (by omega), fun _ => Int.emod_lt_of_pos _ hpos, fun z => by omega⟩
    walk_at "go"
    refine i_dec (fun e1 => ?_) (fun e1 => ?_)
    · -- a digit of the great one
      walk_at "go"
      refine i_fdiv (wide_many hpos hmax) ?_
      walk_at "go"
      refine i_setL 2 hA rfl rfl ?_
      walk_at "go"
      exact q _ _ (put hp) (btw _)
    walk_at "go"
    refine i_len_lst hC' ?_
    walk_at "go"
    rw [List.length_map]
    refine i_dec (fun e2 => ?_) (fun e2 => ?_)
    · have hpl : p.toNat < ns.length := by omega
      walk_at "go"
      refine i_ix_lst (v := .int ns[p.toNat]) hC' (atI_int hp (by rw [List.getElem?_map, List.getElem?_eq_getElem hpl]; rfl)) ?_
      walk_at "go"
      refine i_setL 3 hA rfl rfl ?_
      walk_at "go"
      refine ⟨_, _, rfl, rfl, fun r => ?_⟩
      walk_at "go"
      refine i_cut (fun σ H' => ∃ v3, σ = [some (.ref a), some (.int many), some (.int ns[p.toNat]), v3, some (.int (r % many))] ∧ Dr K ⟨a, c, ns⟩ H0 H') ?_ ?_
      · walk_at "go"
        refine i_dec (fun e3 => ?_) (fun e3 => ⟨_, rfl, put hp⟩)
        walk_at "go"
        refine i_setL 3 upd_same rfl rfl ?_
        walk_at "go"
        refine i_setL 1 upd_same rfl rfl ?_
        walk_at "go"
        rw [upd_upd, upd_upd]
        exact ⟨_, rfl, put (by omega)⟩
      · rintro σ H2 ⟨v3, rfl, d2⟩
        walk_at "go"
        exact q _ _ d2 (btw _)
    · walk_at "go"
      refine i_setL 4 hA rfl rfl ?_
      walk_at "go"
      refine ⟨_, _, rfl, rfl, fun r => ?_⟩
      walk_at "go"
      exact q _ _ (put hp) (btw _)
end
end K05
namespace K05
open PySem PySem.Spec PyProof.Rows L2 Fg
local macro_rules | `(tactic| walk_at "sq") => `(tactic| first
  | assumption
  | exact .inl (.inl (by assumption))
  | exact .inl (.inl upd_same))
local macro_rules | `(tactic| walk_at "st") => `(tactic| first
  | assumption
  | exact .inl (.inl (by assumption))
  | exact .inl (.inl upd_same))
local macro_rules | `(tactic| walk_at "o") => `(tactic| first
  | omega
  | assumption
  | (simp only [List.length_append, List.length_take, List.length_drop, List.length_cons, List.length_nil, List.length_singleton, List.length_map, List.length_range, Int.toNat_natCast] ; omega))
local macro_rules | `(tactic| walk_at "s") => `(tactic| first
  | (with_reducible refine i_seq ?_)
  | (with_reducible refine i_asg ?_)
  | ((with_reducible refine' i_var ?h1 ?_); (case h1 => rfl))
  | (with_reducible refine i_c ?_)
  | ((with_reducible refine' i_gname' ?h1 ?_); (case h1 => (simp only [List.set_cons_zero, List.set_cons_succ]; rfl)))
  | (with_reducible refine i_op ?_)
  | (with_reducible refine i_ifS ?_)
  | (with_reducible refine i_for ?_)
  | (with_reducible refine i_test ?_)
  | (with_reducible refine i_B ?_)
  | (with_reducible refine i_exbl ?_)
  | (with_reducible refine i_exint ?_)
  | (with_reducible refine i_cb ?_)
  | (with_reducible refine i_nil ?_)
  | (with_reducible refine i_cons ?_)
  | (with_reducible refine i_ret ?_)
  | (with_reducible refine i_sl ?_)
  | (with_reducible refine i_nopart ?_)
  | (with_reducible refine i_part ?_)
  | (with_reducible refine i_add_int ?_)
  | (with_reducible refine i_sub ?_)
  | (with_reducible refine i_lt ?_)
  | ((with_reducible refine' i_mod ?h1 ?_); (case h1 => walk_at "o"))
  | ((with_reducible refine' i_fdiv ?h1 ?_); (case h1 => (refine cdiv_small ?_ ?_ <;> walk_at "o")))
  | ((with_reducible refine' i_sl_to ?h1 ?h2 ?_); (case h1 => walk_at "o"); (case h2 => walk_at "o"))
  | ((with_reducible refine' i_sl_from ?h1 ?h2 ?_); (case h1 => walk_at "o"); (case h2 => walk_at "o"))
  | ((with_reducible refine' i_add_str ?h1 ?_); (case h1 => walk_at "o"))
  | ((with_reducible refine' i_mul_int ?h1 ?_); (case h1 => first | (refine mul_small ?_ ?_ <;> walk_at "o") | (refine mul_smallR ?_ ?_ <;> walk_at "o")))
  | (with_reducible refine i_le ?_)
  | (with_reducible refine i_gt ?_)
  | (with_reducible refine i_ge ?_)
  | (with_reducible refine i_eq_int ?_)
  | (with_reducible refine i_eq_str ?_)
  | (with_reducible refine i_ne_int ?_)
  | (with_reducible refine i_ne_str ?_)
  | (with_reducible refine i_eq_bl ?_)
  | (with_reducible refine i_ne_bl ?_)
  | (with_reducible refine i_in_sg ?_)
  | (with_reducible refine i_notIn_sg ?_)
  | (with_reducible refine i_call ?_)
  | (with_reducible refine i_callS ?_)
  | (with_reducible refine i_sp1 ?_)
  | (with_reducible refine i_sp2 ?_)
  | (with_reducible refine i_sp3 ?_)
  | (with_reducible refine i_sp4 ?_)
  | (with_reducible refine i_sp1' ?_)
  | (with_reducible refine i_sp2' ?_)
  | (with_reducible refine i_sp3' ?_)
  | ((with_reducible refine' i_ix_lst ?h1 ?h2 ?_); (case h1 => walk_at "sq"); (case h2 => first | exact atI_nat rfl | rfl))
  | ((with_reducible refine' i_ix_tup ?h1 ?h2 ?_); (case h1 => walk_at "st"); (case h2 => first | exact atI_nat rfl | rfl))
  | (with_reducible refine i_gsub ?_)
  | (with_reducible refine i_par ?_)
  | (with_reducible refine i_lstRg1 ?_)
  | (with_reducible refine i_app ?_)
  | (with_reducible refine i_par2 ?_)
  | ((with_reducible refine' i_aug ?h1 ?_); (case h1 => rfl))
  | (with_reducible refine i_ipI ?_)
  | ((with_reducible refine' i_gtup2 ?h1 ?_); (case h1 => walk_at "st"))
  | (with_reducible refine i_int_bl ?_)
  | (with_reducible refine i_raise ?_)
  | (with_reducible refine i_mkE ?_)
  | (with_reducible refine i_ex1 ?_)
  | (with_reducible refine i_and ?_)
  | (with_reducible refine i_or ?_)
  | (with_reducible refine i_not ?_)
  | (with_reducible refine i_tt ?_)
  | (with_reducible refine i_ff ?_)
  | (with_reducible refine i_nott ?_)
  | (with_reducible refine i_notf ?_)
  | (with_reducible refine i_andV ?_)
  | (with_reducible refine i_orV ?_)
  | (with_reducible refine i_notV ?_)
  | (with_reducible refine i_ifE ?_)
  | (with_reducible refine i_tup ?_)
  | (with_reducible refine i_lst ?_)
  | (with_reducible refine i_un ?_)
  | (with_reducible refine i_neg ?_)
  | (with_reducible refine i_chain ?_)
  | (with_reducible refine i_next ?_)
  | (with_reducible refine i_retN ?_)
  | (with_reducible refine i_drop ?_)
  | (with_reducible refine i_int_int ?_)
  | (with_reducible refine i_abs ?_)
  | (with_reducible refine i_m1c ?_)
  | (with_reducible refine i_is_non ?_)
  | (with_reducible refine i_is_int ?_)
  | (with_reducible refine i_is_bl ?_)
  | (with_reducible refine i_isn_bl ?_)
  | (with_reducible refine i_is_str ?_)
  | (with_reducible refine i_is_ref ?_)
  | (with_reducible refine i_isn_non ?_)
  | (with_reducible refine i_isn_int ?_)
  | (with_reducible refine i_isn_str ?_)
  | (with_reducible refine i_isn_ref ?_)
  | (with_reducible refine i_len_str ?h1 ?_; (case h1 => walk_at "o"))
  | (with_reducible refine i_isi_int_int ?_) | (with_reducible refine i_isi_int_bool ?_) | (with_reducible refine i_isi_int_str ?_) | (with_reducible refine i_isi_int_tuple ?_) | (with_reducible refine i_isi_int_list ?_)
  | (with_reducible refine i_isi_bl_int ?_) | (with_reducible refine i_isi_bl_bool ?_) | (with_reducible refine i_isi_bl_str ?_) | (with_reducible refine i_isi_bl_tuple ?_) | (with_reducible refine i_isi_bl_list ?_)
  | (with_reducible refine i_isi_str_int ?_) | (with_reducible refine i_isi_str_bool ?_) | (with_reducible refine i_isi_str_str ?_) | (with_reducible refine i_isi_str_tuple ?_) | (with_reducible refine i_isi_str_list ?_)
  | (with_reducible refine i_isi_non_int ?_) | (with_reducible refine i_isi_non_bool ?_) | (with_reducible refine i_isi_non_str ?_) | (with_reducible refine i_isi_non_tuple ?_) | (with_reducible refine i_isi_non_list ?_))
local macro_rules | `(tactic| walk_at "go") => `(tactic| (repeat' (walk_at "s")))
local macro_rules | `(tactic| walk_at "n") => `(tactic| simp only [wipe, List.map_cons, List.map_nil, List.set_cons_zero, List.set_cons_succ])
/-! ### comprehensions whose elements draw -/
section
variable {K : PySem.W.Frag} {σ : L2.St} {H H0 : Hp} {Q : VK} {te : TE} {ta : TA} {j : Nat} {vs : List Nat} {d : Dd}
theorem c_rngD (Pz : Int → Prop) (ha : ∀ R : List V → Hp → Prop, (∀ (z : Int) H1, Dr K d H0 H1 → Pz z → R [.int z] H1) → ta σ H R) (hz : ∀ z, Pz z → 0 ≤ z ∧ z ≤ 100000)
    (Pc : Nat → List V → Prop) (h0 : Pc 0 []) (hl : ∀ i acc, Pc i acc → acc.length ≤ 100000) (hw : ∀ x, wipe ((wipe σ vs).set j (some x)) vs = wipe σ vs)
    (he : ∀ (z : Int) (i : Nat) acc Hk H2, Pz z → (i : Int) < z → Pc i acc → Dr K d Hk H2 → ∀ QV : VK, (∀ y H3, Dr K d Hk H3 → Pc (i + 1) (acc ++ [y]) → QV y H3) → te ((wipe σ vs).set j (some (.int (i : Int)))) H2 QV)
    (q : ∀ (z : Int) Dl H3 acc, Pz z → H0 Dl = none → Pc z.toNat acc → Dr K d (upd H0 Dl (.lst acc)) H3 → Q (.ref Dl) H3) : tLc (iRng1 ta) (gName j) tYes te vs σ H Q := by
  refine ha _ fun z H1 dr pz => ⟨z, rfl, by have := hz z pz; omega, by have := hz z pz; omega, fun Dl nD => ?_⟩
  have n0 : H0 Dl = none := dr.free nD
  refine lc_range (fun i H' => ∃ acc, Pc i acc ∧ Dr K d (upd H0 Dl (.lst acc)) H') ⟨[], h0, dr.new nD⟩ (fun i H' hi p => ?_) (fun H' p => ?_)
  · obtain ⟨acc, pc, dr'⟩ := p
    rw [Int.zero_add]
    refine ⟨hw _, ?_⟩
    refine i_yes (i_tt ?_)
    refine he z i acc _ H' pz (by omega) pc dr' _ fun y H3 dr3 pc' => ⟨acc, dr3.old upd_same, Nat.lt_of_le_of_lt (hl i acc pc) (by decide), _, pc', dr3.put dr.cells n0⟩
  · obtain ⟨acc, pc, dr'⟩ := p
    exact q z Dl H' acc pz n0 pc dr'
end
section
variable {K : PySem.W.Frag} {σ : L2.St} {H H0 : Hp} {Q : VK} {te tl : TE} {j : Nat} {vs : List Nat} {d : Dd} {a : Addr} {xs : List V}
/-- a comprehension over a list that is known, whose elements draw -/
theorem c_lstD (dr : Dr K d H0 H) (hx : H0 a = some (.lst xs)) (ha : ∀ R : VK, R (.ref a) H → tl σ H R) (hn : xs.length ≤ 100000)
    (Pc : Nat → List V → Prop) (h0 : Pc 0 []) (hl : ∀ i acc, Pc i acc → acc.length ≤ 100000) (hw : ∀ x, wipe ((wipe σ vs).set j (some x)) vs = wipe σ vs)
    (he : ∀ (i : Nat) x acc Hk H2, xs[i]? = some x → Pc i acc → Dr K d Hk H2 → ∀ QV : VK, (∀ y H3, Dr K d Hk H3 → Pc (i + 1) (acc ++ [y]) → QV y H3) → te ((wipe σ vs).set j (some x)) H2 QV)
    (q : ∀ Dl H3 acc, H0 Dl = none → Pc xs.length acc → Dr K d (upd H0 Dl (.lst acc)) H3 → Q (.ref Dl) H3) : tLc (iAny K tl) (gName j) tYes te vs σ H Q := by
  refine ha _ (.inl ⟨a, xs, rfl, .inl (.inl (dr.old hx)), fun Dl nD => ?_⟩)
  have n0 : H0 Dl = none := dr.free nD
  have ne : a ≠ Dl := ne_of_none hx n0
  refine lc_list (xs := xs) (fun i H' => ∃ acc, Pc i acc ∧ Dr K d (upd H0 Dl (.lst acc)) H') ⟨[], h0, dr.new nD⟩ (fun i H' _ p => ?_) (fun i x H' hi p => ?_) (fun H' p => ?_)
  · obtain ⟨acc, _, dr'⟩ := p
    exact .inl (.inl (dr'.old ((upd_ne ne).trans hx)))
  · obtain ⟨acc, pc, dr'⟩ := p
    refine ⟨hw _, ?_⟩
    refine i_yes (i_tt ?_)
    refine he i x acc _ H' hi pc dr' _ fun y H3 dr3 pc' => ⟨acc, dr3.old upd_same, Nat.lt_of_le_of_lt (hl i acc pc) (by decide), _, pc', dr3.put dr.cells n0⟩
  · obtain ⟨acc, pc, dr'⟩ := p
    exact q Dl H' acc n0 pc dr'
end
section
variable {K : PySem.W.Frag} {d : Dd} {H0 H : Hp} {q : Addr} {o : HO}
theorem Dr.self (h : Dr K d H0 H) : ∃ o, H d.a = some o := by
  obtain ⟨s0, n0, hc, hl, p, b, u, x, sd, ha, hp⟩ := h
  exact ⟨_, ha⟩
theorem Dr.ne (h : Dr K d H0 H) (n : H q = none) : q ≠ d.a := fun z => by
  obtain ⟨o, e⟩ := h.self
  rw [← z, n] at e
  cases e
/-- what stands is known -/
theorem Dr.learn (h : Dr K d H0 H) (e : H q = some o) (ne : q ≠ d.a) : Dr K d (upd H0 q o) H := by
  obtain ⟨s0, n0, hc, hl, p, b, u, x, sd, ha, hp⟩ := h
  have s1 : Same H0 (upd H0 q o) := fun b' o' e' => by
    by_cases hb : b' = q
    · subst hb
      rw [upd_same]
      have := s0 _ _ e'
      rw [e] at this
      exact this
    · rw [upd_ne hb]; exact e'
  refine ⟨fun b' o' e' => ?_, by rw [upd_ne (Ne.symm ne)]; exact n0, s1.seq hc, hl, p, b, u, x, sd, ha, hp⟩
  by_cases hb : b' = q
  · subst hb
    rw [upd_same] at e'
    rw [e]; exact e'
  · rw [upd_ne hb] at e'
    exact s0 _ _ e'
end
/-- a new object, known or not -/
theorem Dr.skip {K : PySem.W.Frag} {d : Dd} {H0 H : Hp} {q : Addr} {o : HO} (h : Dr K d H0 H) (n : H q = none) : Dr K d H0 (upd H q o) := h.same (same_upd n)
theorem Dr.step {K : PySem.W.Frag} {d : Dd} {Hk H : Hp} {p : Addr} (o : HO) (h : Dr K d Hk H) (n : H p = none) : ∃ Hk', Same Hk Hk' ∧ Hk' p = some o ∧ Dr K d Hk' (upd H p o) := ⟨upd Hk p o, same_upd (h.free n), upd_same, h.new n⟩
theorem Dr.back {K : PySem.W.Frag} {d : Dd} {H0 H1 H H' : Hp} (h : Dr K d H1 H) (dr : Dr K d H0 H') (s : Same H0 H1) : Dr K d H0 H := by
  obtain ⟨s1, n1, hc1, hl, p, b, u, x, sd, ha, hp⟩ := h
  obtain ⟨s0, n0, hc, _⟩ := dr
  exact ⟨s.trans s1, n0, hc, hl, p, b, u, x, sd, ha, hp⟩
section
variable {P : Program} {w : World} {K : PySem.W.Frag} {mg : Str → Option Value} {base : Heap} {C_GlimError C_BadText C_TooLong : Addr}
/-- the kinds of values that laws show about -/
def Kn (H : Hp) (x : V) : Prop := (∃ l, x = S l) ∨ NoStr H x
def isI : V → Bool
  | .int _ => true
  | _ => false
def p_L_is_int : P1 := fun x H Q _ => Kn H x ∧ Q (.bl (isI x)) H
theorem ok_L_is_int (T : Txt K mg C_GlimError C_BadText C_TooLong) : OK P w K mg base CX0 1 "_law_is_int" ["_law_thing"] (sp1  p_L_is_int) := by
  refine OK.mk (k := 0) T.d_L_is_int sc_L_is_int len1 fun f cdv A outer s H vs Q E hr h => ?_
  obtain ⟨x, rfl, h⟩ := h
  refine ⟨_, (pss_one (ps_ret (pe_and (pe_callB (cIsi K) (by rfl) T.b_isinstance (by decide +kernel) (pa_cons (pv 0) (pa_cons (pe_bltn (v := .ty "int") (by rfl) T.b_int (by decide +kernel) rfl) pa_nil))) (pe_one (pe_not (pe_callB (cIsi K) (by rfl) T.b_isinstance (by decide +kernel) (pa_cons (pv 0) (pa_cons (pe_bltn (v := .ty "bool") (by rfl) T.b_bool (by decide +kernel) rfl) pa_nil)))))))), ?_⟩
  show (_ : TS) { nx := fun _ H' => Q .non H', rt := Q } [some x] H
  obtain ⟨h, q⟩ := h
  rcases h with ⟨l, rfl⟩ | rfl | ⟨b, rfl⟩ | ⟨i, rfl⟩ | ⟨a, xs, rfl, h | h⟩
  · walk_at "go"
    exact q
  · walk_at "go"
    exact q
  · walk_at "go"
    exact q
  · walk_at "go"
    exact q
  · walk_at "go"
    refine i_isi_tup_int h ?_
    walk_at "go"
    exact q
  · walk_at "go"
    refine i_isi_lst_int h ?_
    walk_at "go"
    exact q
def p_L_sign (K : PySem.W.Frag) : P1 := fun x H Q _ => ∃ (H0 : Hp) (d : Dd), x = .ref d.a ∧ Dr K d H0 H ∧ ∀ c H', Dr K d H0 H' → c ∈ SG → Q (S [c]) H'
theorem ok_L_sign (T : Txt K mg C_GlimError C_BadText C_TooLong) : OK P w K mg base CX0 3 "_law_sign" ["_law_draw_here"] (sp1  (p_L_sign K)) := by
  refine OK.mk (k := 2) T.d_L_sign sc_L_sign len1 fun f cdv A outer s H vs Q E hr h => ?_
  obtain ⟨x, rfl, h⟩ := h
  refine ⟨_, (pss_one (ps_ret (pe_ix (ixK K) (pe_S [46, 46, 46, 119, 119, 114, 103]) (pe_f (ok_L_pick (K := K) T) (hr.mono (by decide)) pass0 (pa_cons (pv 0) (pa_cons pe_int pa_nil))) (fun _ _ => rfl)))), ?_⟩
  show (_ : TS) { nx := fun _ H' => Q .non H', rt := Q } [some x] H
  obtain ⟨H0, d, rfl, dr, q⟩ := h
  walk_at "go"
  refine ⟨H0, d, 7, rfl, rfl, dr, by decide, fun n H1 dr1 b => ?_⟩
  have b0 := b.1
  have b1 := b.2.1 (by decide)
  have hn : n.toNat < 7 := by omega
  have key : ∀ i < 7, ∃ c, ([46, 46, 46, 119, 119, 114, 103] : List Nat)[i]? = some c ∧ c ∈ SG := by decide
  obtain ⟨c, hc, hs⟩ := key n.toNat hn
  refine i_ix_str (by decide) b0 hc ?_
  walk_at "go"
  exact q c H1 dr1 hs
end
end K05
namespace K05
open PySem PySem.Spec PyProof.Rows L2 Fg
local macro_rules | `(tactic| walk_at "sq") => `(tactic| first
  | assumption
  | exact .inl (.inl (by assumption))
  | exact .inl (.inl upd_same))
local macro_rules | `(tactic| walk_at "st") => `(tactic| first
  | assumption
  | exact .inl (.inl (by assumption))
  | exact .inl (.inl upd_same))
local macro_rules | `(tactic| walk_at "o") => `(tactic| first
  | omega
  | assumption
  | (simp only [List.length_append, List.length_take, List.length_drop, List.length_cons, List.length_nil, List.length_singleton, List.length_map, List.length_range, Int.toNat_natCast] ; omega))
local macro_rules | `(tactic| walk_at "s") => `(tactic| first
  | (with_reducible refine i_seq ?_)
  | (with_reducible refine i_asg ?_)
  | ((with_reducible refine' i_var ?h1 ?_); (case h1 => rfl))
  | (with_reducible refine i_c ?_)
  | ((with_reducible refine' i_gname' ?h1 ?_); (case h1 => (simp only [List.set_cons_zero, List.set_cons_succ]; rfl)))
  | (with_reducible refine i_op ?_)
  | (with_reducible refine i_ifS ?_)
  | (with_reducible refine i_for ?_)
  | (with_reducible refine i_test ?_)
  | (with_reducible refine i_B ?_)
  | (with_reducible refine i_exbl ?_)
  | (with_reducible refine i_exint ?_)
  | (with_reducible refine i_cb ?_)
  | (with_reducible refine i_nil ?_)
  | (with_reducible refine i_cons ?_)
  | (with_reducible refine i_ret ?_)
  | (with_reducible refine i_sl ?_)
  | (with_reducible refine i_nopart ?_)
  | (with_reducible refine i_part ?_)
  | (with_reducible refine i_add_int ?_)
  | (with_reducible refine i_sub ?_)
  | (with_reducible refine i_lt ?_)
  | ((with_reducible refine' i_mod ?h1 ?_); (case h1 => walk_at "o"))
  | ((with_reducible refine' i_fdiv ?h1 ?_); (case h1 => (refine cdiv_small ?_ ?_ <;> walk_at "o")))
  | ((with_reducible refine' i_sl_to ?h1 ?h2 ?_); (case h1 => walk_at "o"); (case h2 => walk_at "o"))
  | ((with_reducible refine' i_sl_from ?h1 ?h2 ?_); (case h1 => walk_at "o"); (case h2 => walk_at "o"))
  | ((with_reducible refine' i_add_str ?h1 ?_); (case h1 => walk_at "o"))
  | ((with_reducible refine' i_mul_int ?h1 ?_); (case h1 => first | (refine mul_small ?_ ?_ <;> walk_at "o") | (refine mul_smallR ?_ ?_ <;> walk_at "o")))
  | (with_reducible refine i_le ?_)
  | (with_reducible refine i_gt ?_)
  | (with_reducible refine i_ge ?_)
  | (with_reducible refine i_eq_int ?_)
  | (with_reducible refine i_eq_str ?_)
  | (with_reducible refine i_ne_int ?_)
  | (with_reducible refine i_ne_str ?_)
  | (with_reducible refine i_eq_bl ?_)
  | (with_reducible refine i_ne_bl ?_)
  | (with_reducible refine i_in_sg ?_)
  | (with_reducible refine i_notIn_sg ?_)
  | (with_reducible refine i_call ?_)
  | (with_reducible refine i_callS ?_)
  | (with_reducible refine i_sp1 ?_)
  | (with_reducible refine i_sp2 ?_)
  | (with_reducible refine i_sp3 ?_)
  | (with_reducible refine i_sp4 ?_)
  | (with_reducible refine i_sp1' ?_)
  | (with_reducible refine i_sp2' ?_)
  | (with_reducible refine i_sp3' ?_)
  | ((with_reducible refine' i_ix_lst ?h1 ?h2 ?_); (case h1 => walk_at "sq"); (case h2 => first | exact atI_nat rfl | rfl))
  | ((with_reducible refine' i_ix_tup ?h1 ?h2 ?_); (case h1 => walk_at "st"); (case h2 => first | exact atI_nat rfl | rfl))
  | (with_reducible refine i_gsub ?_)
  | (with_reducible refine i_par ?_)
  | (with_reducible refine i_lstRg1 ?_)
  | (with_reducible refine i_app ?_)
  | (with_reducible refine i_par2 ?_)
  | ((with_reducible refine' i_aug ?h1 ?_); (case h1 => rfl))
  | (with_reducible refine i_ipI ?_)
  | ((with_reducible refine' i_gtup2 ?h1 ?_); (case h1 => walk_at "st"))
  | (with_reducible refine i_int_bl ?_)
  | (with_reducible refine i_raise ?_)
  | (with_reducible refine i_mkE ?_)
  | (with_reducible refine i_ex1 ?_)
  | (with_reducible refine i_and ?_)
  | (with_reducible refine i_or ?_)
  | (with_reducible refine i_not ?_)
  | (with_reducible refine i_tt ?_)
  | (with_reducible refine i_ff ?_)
  | (with_reducible refine i_nott ?_)
  | (with_reducible refine i_notf ?_)
  | (with_reducible refine i_andV ?_)
  | (with_reducible refine i_orV ?_)
  | (with_reducible refine i_notV ?_)
  | (with_reducible refine i_ifE ?_)
  | (with_reducible refine i_tup ?_)
  | (with_reducible refine i_lst ?_)
  | (with_reducible refine i_un ?_)
  | (with_reducible refine i_neg ?_)
  | (with_reducible refine i_chain ?_)
  | (with_reducible refine i_next ?_)
  | (with_reducible refine i_retN ?_)
  | (with_reducible refine i_drop ?_)
  | (with_reducible refine i_int_int ?_)
  | (with_reducible refine i_abs ?_)
  | (with_reducible refine i_m1c ?_)
  | (with_reducible refine i_is_non ?_)
  | (with_reducible refine i_is_int ?_)
  | (with_reducible refine i_is_bl ?_)
  | (with_reducible refine i_isn_bl ?_)
  | (with_reducible refine i_is_str ?_)
  | (with_reducible refine i_is_ref ?_)
  | (with_reducible refine i_isn_non ?_)
  | (with_reducible refine i_isn_int ?_)
  | (with_reducible refine i_isn_str ?_)
  | (with_reducible refine i_isn_ref ?_)
  | (with_reducible refine i_len_str ?h1 ?_; (case h1 => walk_at "o"))
  | (with_reducible refine i_isi_int_int ?_) | (with_reducible refine i_isi_int_bool ?_) | (with_reducible refine i_isi_int_str ?_) | (with_reducible refine i_isi_int_tuple ?_) | (with_reducible refine i_isi_int_list ?_)
  | (with_reducible refine i_isi_bl_int ?_) | (with_reducible refine i_isi_bl_bool ?_) | (with_reducible refine i_isi_bl_str ?_) | (with_reducible refine i_isi_bl_tuple ?_) | (with_reducible refine i_isi_bl_list ?_)
  | (with_reducible refine i_isi_str_int ?_) | (with_reducible refine i_isi_str_bool ?_) | (with_reducible refine i_isi_str_str ?_) | (with_reducible refine i_isi_str_tuple ?_) | (with_reducible refine i_isi_str_list ?_)
  | (with_reducible refine i_isi_non_int ?_) | (with_reducible refine i_isi_non_bool ?_) | (with_reducible refine i_isi_non_str ?_) | (with_reducible refine i_isi_non_tuple ?_) | (with_reducible refine i_isi_non_list ?_))
local macro_rules | `(tactic| walk_at "go") => `(tactic| (repeat' (walk_at "s")))
local macro_rules | `(tactic| walk_at "n") => `(tactic| simp only [wipe, List.map_cons, List.map_nil, List.set_cons_zero, List.set_cons_succ])
section
variable {P : Program} {w : World} {K : PySem.W.Frag} {mg : Str → Option Value} {base : Heap} {C_GlimError C_BadText C_TooLong : Addr}
def p_common : P2 := fun x y H Q _ => ∃ a b : Nat, x = .int (a : Int) ∧ y = .int (b : Int) ∧ 1 ≤ a ∧ 1 ≤ b ∧ Big a ∧ Big b ∧ Q (.int ((Nat.lcm a b : Nat) : Int)) H
theorem ok_common_beats (T : Txt K mg C_GlimError C_BadText C_TooLong) : OK P w K mg base CX0 1 "common_beats" ["first", "second"] (sp2  p_common) := by
  refine OK.mk (k := 0) T.d_common_beats sc_common_beats len2 fun f cdv A outer s H vs Q E hr h => ?_
  obtain ⟨x, y, rfl, h⟩ := h
  refine ⟨_, (pss_cons (ps_par (i := 2) (j := 3) rfl sc_common_beats.nd rfl rfl (by decide) rfl rfl (pa_cons (pv 0) (pa_cons (pv 1) pa_nil)) (by rfl)) (pss_cons (ps_while PassesOwn.never (pt_cmpR op_gtP (pv 3) pe_int (nomark _)) (pss_one (ps_par (i := 2) (j := 3) rfl sc_common_beats.nd rfl rfl (by decide) rfl rfl (pa_cons (pv 3) (pa_cons (pe_op op_modP (pv 2) (pv 3)) pa_nil)) (by rfl)))) (pss_one (ps_ret (pe_op op_mulP (pe_op op_fdivP (pv 0) (pv 2)) (pv 1)))))), ?_⟩
  show (_ : TS) { nx := fun _ H' => Q .non H', rt := Q } [some x, some y, none, none] H
  obtain ⟨a, b, rfl, rfl, a1, b1, a2, b2, q⟩ := h
  walk_at "go"
  refine i_while (fun m σ H' => ∃ n : Nat, σ = [some (.int (a : Int)), some (.int (b : Int)), some (.int (n : Int)), some (.int (m : Int))] ∧ H' = H ∧ 1 ≤ n ∧ Nat.gcd n m = Nat.gcd a b) b ⟨a, rfl, rfl, a1, rfl⟩ ?_
  rintro m σ H' ⟨n, rfl, rfl, n1, hg⟩
  walk_at "go"
  refine i_dec (fun e => i_turn ?_) (fun e => ?_)
  · walk_at "go"
    refine ⟨n % m, Nat.mod_lt _ (by omega), m, ?_, rfl, by omega, ?_⟩
    · show [_, _, _, some (V.int ((n : Int) % (m : Int)))] = _
      rw [← Int.natCast_emod]
    · rw [← hg, Nat.gcd_comm m, ← Nat.gcd_rec, Nat.gcd_comm]
  · have e0 : m = 0 := by omega
    subst e0
    rw [Nat.gcd_zero_right] at hg
    subst hg
    have g1 : Nat.gcd a b ≤ a := Nat.gcd_le_left _ (by omega)
    have g2 : 1 ≤ Nat.gcd a b := Nat.gcd_pos_of_pos_left _ a1
    have g3 : Big (Nat.gcd a b) := a2.le g1
    walk_at "go"
    refine i_fdiv (g3.div (by omega)) ?_
    walk_at "go"
    rw [← Int.natCast_ediv]
    refine i_mul_int ((a2.le (Nat.div_le_self _ _)).mul b2) ?_
    have e : ((a / Nat.gcd a b : Nat) : Int) * (b : Int) = ((Nat.lcm a b : Nat) : Int) := by
      rw [← Int.natCast_mul]
      congr 1
      unfold Nat.lcm
      rw [Nat.mul_comm (a / _), ← Nat.mul_div_assoc _ (Nat.gcd_dvd_left a b), Nat.mul_comm]
    rw [e]
    exact q
def p_repeated : P2 := fun x y H Q _ => ∃ (a : Addr) (n : Nat) (r : List Nat) (t : Nat), x = .ref a ∧ y = .int (t : Int) ∧ H a = some (Sv n r) ∧ 1 ≤ n ∧ (n ≤ 24 → r.length = n) ∧ 1 ≤ t ∧ t ≤ 1000 ∧ ∀ p, H p = none → Q (.ref p) (upd H p (Sv (n * t) (rpt t r)))
theorem ok_repeated (T : Txt K mg C_GlimError C_BadText C_TooLong) : OK P w K mg base CX0 1 "repeated" ["stretch", "times"] (sp2  p_repeated) := by
  refine OK.mk (k := 0) T.d_repeated sc_repeated len2 fun f cdv A outer s H vs Q E hr h => ?_
  obtain ⟨x, y, rfl, h⟩ := h
  refine ⟨_, (pss_cons (ps_set (i := 2) sc_repeated.nd rfl (Or.inl rfl) (pe_op op_mulP (pe_ix (ixK K) (pv 0) pe_int (fun _ _ => rfl)) (pv 1))) (pss_cons (ps_if (pt_cmpR op_gtP (pv 2) (pe_gI 24 T.g_MOST_ROUND) (nomark _)) (pss_one (ps_ret (pe_tup (pa_cons (pv 2) (pa_cons pe_non pa_nil))))) pss_nil) (pss_one (ps_ret (pe_tup (pa_cons (pv 2) (pa_cons (pe_op op_mulP (pe_ix (ixK K) (pv 0) pe_int (fun _ _ => rfl)) (pv 1)) pa_nil))))))), ?_⟩
  show (_ : TS) { nx := fun _ H' => Q .non H', rt := Q } [some x, some y, none] H
  obtain ⟨a, n, r, t, rfl, rfl, ha, n1, hr, t1, t2, q⟩ := h
  walk_at "go"
  have e : (n : Int) * (t : Int) = ((n * t : Nat) : Int) := (Int.natCast_mul _ _).symm
  rw [e]
  have nt : n ≤ n * t := Nat.le_mul_of_pos_right _ t1
  have tt : t ≤ n * t := Nat.le_mul_of_pos_left _ n1
  unfold Sv at q
  generalize hm : n * t = m at *
  walk_at "go"
  refine i_dec (fun e => ?_) (fun e => ?_)
  · walk_at "go"
    refine i_new (by show 2 ≤ 100000; omega) fun p np => ?_
    rw [if_neg (by omega)] at q
    exact q p np
  · walk_at "go"
    have hn : n ≤ 24 := by omega
    rw [if_pos hn]
    refine i_mul_str ⟨by rw [hr hn]; omega, by omega⟩ ?_
    walk_at "go"
    refine i_new (by show 2 ≤ 100000; omega) fun p np => ?_
    rw [if_pos (by omega)] at q
    exact q p np
def p_behind : P2 := fun x y H Q _ => ∃ (a b : Addr) (n m : Nat) (r s : List Nat), x = .ref a ∧ y = .ref b ∧ H a = some (Sv n r) ∧ H b = some (Sv m s) ∧ (n ≤ 24 → r.length = n) ∧ (m ≤ 24 → s.length = m) ∧ ∀ p, H p = none → Q (.ref p) (upd H p (Sv (n + m) (r ++ s)))
theorem ok_put_behind (T : Txt K mg C_GlimError C_BadText C_TooLong) : OK P w K mg base CX0 1 "put_behind" ["stretch", "other"] (sp2  p_behind) := by
  refine OK.mk (k := 0) T.d_put_behind sc_put_behind len2 fun f cdv A outer s H vs Q E hr h => ?_
  obtain ⟨x, y, rfl, h⟩ := h
  refine ⟨_, (pss_cons (ps_set (i := 2) sc_put_behind.nd rfl (Or.inl rfl) (pe_op (opAdd K) (pe_ix (ixK K) (pv 0) pe_int (fun _ _ => rfl)) (pe_ix (ixK K) (pv 1) pe_int (fun _ _ => rfl)))) (pss_cons (ps_if (pt_cmpR op_gtP (pv 2) (pe_gI 24 T.g_MOST_ROUND) (nomark _)) (pss_one (ps_ret (pe_tup (pa_cons (pv 2) (pa_cons pe_non pa_nil))))) pss_nil) (pss_one (ps_ret (pe_tup (pa_cons (pv 2) (pa_cons (pe_op (opAdd K) (pe_ix (ixK K) (pv 0) pe_int (fun _ _ => rfl)) (pe_ix (ixK K) (pv 1) pe_int (fun _ _ => rfl))) pa_nil))))))), ?_⟩
  show (_ : TS) { nx := fun _ H' => Q .non H', rt := Q } [some x, some y, none] H
  obtain ⟨a, b, n, m, r, s', rfl, rfl, ha, hb, hr, hs, q⟩ := h
  walk_at "go"
  have e : (n : Int) + (m : Int) = ((n + m : Nat) : Int) := (Int.natCast_add _ _).symm
  rw [e]
  unfold Sv at q
  walk_at "go"
  refine i_dec (fun e => ?_) (fun e => ?_)
  · walk_at "go"
    refine i_new (by show 2 ≤ 100000; omega) fun p np => ?_
    rw [if_neg (by omega)] at q
    exact q p np
  · walk_at "go"
    have hn : n ≤ 24 := by omega
    have hm : m ≤ 24 := by omega
    rw [if_pos hn, if_pos hm]
    refine i_add_str (by rw [hr hn, hs hm]; omega) ?_
    walk_at "go"
    refine i_new (by show 2 ≤ 100000; omega) fun p np => ?_
    rw [if_pos (by omega)] at q
    exact q p np
def p_first_lit (K : PySem.W.Frag) : P1 := fun x H Q _ => ∃ (a : Addr) (cs : List Nat), x = .ref a ∧ SqL K H a (cs.map fun c => S [c]) ∧ Q (S [firstLit cs]) H
theorem ok_first_lit (T : Txt K mg C_GlimError C_BadText C_TooLong) : OK P w K mg base CX0 1 "first_lit" ["signs"] (sp1  (p_first_lit K)) := by
  refine OK.mk (k := 0) T.d_first_lit sc_first_lit len1 fun f cdv A outer s H vs Q E hr h => ?_
  obtain ⟨x, rfl, h⟩ := h
  refine ⟨_, (pss_cons (ps_for PassesOwn.never rfl (piAny K (pv 0)) (pg_name (i := 1) sc_first_lit.nd rfl (Or.inl rfl)) (pss_one (ps_if (pt_cmpR (opNe K hr.units) (pv 1) (pe_S [46]) (nomark _)) (pss_one (ps_ret (pv 1))) pss_nil))) (pss_one (ps_ret (pe_S [46])))), ?_⟩
  show (_ : TS) { nx := fun _ H' => Q .non H', rt := Q } [some x, none] H
  obtain ⟨a, cs, rfl, ha, q⟩ := h
  walk_at "go"
  refine i_forL ha (fun i σ H' => ∃ v, σ = [some (.ref a), v] ∧ H' = H ∧ firstLit cs = firstLit (cs.drop i)) ⟨_, rfl, rfl, rfl⟩ ?_ ?_ ?_
  · rintro i σ H' _ ⟨v, rfl, rfl, _⟩
    exact ha
  · rintro i x σ H' hi ⟨v, rfl, rfl, hf⟩
    rw [List.getElem?_map] at hi
    obtain ⟨c, hc, rfl⟩ := Option.map_eq_some_iff.mp hi
    obtain ⟨hl, rfl⟩ := List.getElem?_eq_some_iff.mp hc
    rw [List.drop_eq_getElem_cons hl] at hf
    walk_at "go"
    refine i_decN (fun e => ?_) (fun e => ?_)
    · walk_at "go"
      have e' : cs[i] ≠ 46 := fun z => e (by rw [z])
      rw [show firstLit (cs[i] :: cs.drop (i + 1)) = cs[i] from if_neg e'] at hf
      rw [hf] at q
      exact q
    · walk_at "go"
      have e' : cs[i] = 46 := by simpa using e
      refine ⟨_, rfl, rfl, ?_⟩
      rw [hf]
      exact if_pos e'
  · rintro σ H' ⟨v, rfl, rfl, hf⟩
    walk_at "go"
    rw [List.length_map, List.drop_length] at hf
    rw [hf] at q
    exact q
def p_shown (K : PySem.W.Frag) : P1 := fun x H Q _ => ∃ (a : Addr) (qs : List Addr) (ps : List (Nat × List Nat)), x = .ref a ∧ SqL K H a (qs.map V.ref) ∧ PartsAt H qs ps ∧ ps.length ≤ 90000 ∧ (∀ p ∈ ps, 1 ≤ p.1 ∧ (p.1 ≤ 24 → p.2.length = p.1)) ∧
  Big (lcmL ps) ∧ ∀ p H', Same H H' → H' p = some (Sv (lcmL ps) (showN ps (lcmL ps))) → Q (.ref p) H'
theorem ok_shown_together (T : Txt K mg C_GlimError C_BadText C_TooLong) : OK P w K mg base CX0 2 "shown_together" ["parts"] (sp1  (p_shown K)) := by
  refine OK.mk (k := 1) T.d_shown_together sc_shown_together len1 fun f cdv A outer s H vs Q E hr h => ?_
  obtain ⟨x, rfl, h⟩ := h
  refine ⟨_, (pss_cons (ps_set (i := 1) sc_shown_together.nd rfl (Or.inr rfl) pe_int) (pss_cons (ps_for PassesOwn.never rfl (piAny K (pv 0)) (pg_name (i := 2) sc_shown_together.nd rfl (Or.inl rfl)) (pss_one (ps_set (i := 1) sc_shown_together.nd rfl (Or.inr rfl) (pe_f (ok_common_beats (K := K) T) (hr.mono (by decide)) pass0 (pa_cons (pv 1) (pa_cons (pe_ix (ixK K) (pv 2) pe_int (fun _ _ => rfl)) pa_nil)))))) (pss_cons (ps_if (pt_cmpR op_gtP (pv 1) (pe_gI 24 T.g_MOST_ROUND) (nomark _)) (pss_one (ps_ret (pe_tup (pa_cons (pv 1) (pa_cons pe_non pa_nil))))) pss_nil) (pss_cons (ps_set (i := 3) sc_shown_together.nd rfl (Or.inr rfl) (pe_lc (own := [("part", 2)]) (g := gName 2) (tt := tYes) (by rfl) sc_shown_together.nd (piAny K (pv 0)) (blkOk_by (own := [("part", 2)]) (N := ["parts", "beats", "part", "rows", "beat", "row"]) (sc := (defScope s_shown_together)) (by decide +kernel)) (fun _ _ _ _ _ => (pg_name (i := 2) sc_shown_together.nd rfl (Or.inl rfl))) (fun _ _ _ _ _ => pts_nil) (fun _ _ _ _ _ => (pe_op op_mulP (pe_ix (ixK K) (pv 2) pe_int (fun _ _ => rfl)) (pe_op op_fdivP (pv 1) (pe_ix (ixK K) (pv 2) pe_int (fun _ _ => rfl))))))) (pss_one (ps_ret (pe_tup (pa_cons (pv 1) (pa_cons (peJoin K (pe_S []) (pe_lc (own := [("beat", 4)]) (g := gName 4) (tt := tYes) (by rfl) sc_shown_together.nd (pi_range1 rfl T.b_range (pa_cons (pv 1) pa_nil)) (blkOk_by (own := [("beat", 4)]) (N := ["parts", "beats", "part", "rows", "beat", "row"]) (sc := (defScope s_shown_together)) (by decide +kernel)) (fun _ _ _ _ _ => (pg_name (i := 4) sc_shown_together.nd rfl (Or.inr rfl))) (fun _ _ _ _ _ => pts_nil) (fun _ _ _ _ _ => (pe_f (ok_first_lit (K := K) T) (hr.mono (by decide)) pass0 (pa_cons (pe_lc (own := [("row", 5)]) (g := gName 5) (tt := tYes) (by rfl) sc_shown_together.nd (piAny K (pv 3)) (Fg.blkOk_in (own := [("row", 5)]) (N := ["parts", "beats", "part", "rows", "beat", "row"]) (sc := (defScope s_shown_together)) (by rfl) (by rfl) (by decide +kernel)) (fun _ _ _ _ _ => (pg_name (i := 5) sc_shown_together.nd rfl (Or.inl rfl))) (fun _ _ _ _ _ => pts_nil) (fun _ _ _ _ _ => (pe_ix (ixK K) (pv 5) (pv 4) (fun _ _ => rfl)))) pa_nil))))) pa_nil))))))))), ?_⟩
  show (_ : TS) { nx := fun _ H' => Q .non H', rt := Q } [some x, none, none, none, none, none] H
  obtain ⟨a, qs, ps, rfl, ha, ⟨hlen, hat⟩, h100, hok, hsm, q⟩ := h
  walk_at "go"
  refine i_forL ha (fun i σ H' => ∃ v, σ = [some (.ref a), some (.int ((lcmL (ps.take i) : Nat) : Int)), v, none, none, none] ∧ H' = H) ⟨_, rfl, rfl⟩ ?_ ?_ ?_
  · rintro i σ H' _ ⟨v, rfl, rfl⟩
    exact ha
  · rintro i x σ H' hi ⟨v, rfl, rfl⟩
    rw [List.getElem?_map] at hi
    obtain ⟨qa, hqa, rfl⟩ := Option.map_eq_some_iff.mp hi
    obtain ⟨hl, e⟩ := List.getElem?_eq_some_iff.mp hqa
    have hp : ps[i]? = some ps[i] := List.getElem?_eq_getElem (by omega)
    have hq := hat i qa _ hqa hp
    have ok := hok _ (List.mem_of_getElem? hp)
    have e2 : ps.take (i + 1) = ps.take i ++ [ps[i]] := by rw [List.take_succ, hp]; rfl
    walk_at "go"
    refine ⟨lcmL (ps.take i), ps[i].1, rfl, rfl, lcmL_pos fun p hp => (hok p (List.mem_of_mem_take hp)).1, ok.1, hsm.le (lcmL_take (fun p hp => (hok p hp).1) i), hsm.le (Nat.le_of_dvd (lcmL_pos fun p hp => (hok p hp).1) (dvd_lcmL (List.mem_of_getElem? hp))), ?_⟩
    rw [← lcmL_snoc, ← e2]
    walk_at "go"
    exact ⟨_, rfl, rfl⟩
  · rintro σ H' ⟨v, rfl, rfl⟩
    rw [List.length_map, hlen, List.take_length]
    clear hsm
    have hL1 : 1 ≤ lcmL ps := lcmL_pos fun p hp => (hok p hp).1
    have hdv : ∀ p ∈ ps, p.1 ∣ lcmL ps := fun p hp => dvd_lcmL hp
    unfold Sv at q
    generalize lcmL ps = L at *
    walk_at "go"
    refine i_dec (fun e => ?_) (fun e => ?_)
    · walk_at "go"
      refine i_new (by show 2 ≤ 100000; omega) fun p np => ?_
      rw [if_neg (by omega)] at q
      exact q p _ (same_upd np) upd_same
    have hL : L ≤ 24 := by omega
    rw [if_pos hL] at q
    walk_at "go"
    refine c_lst (K := K) (a := a) (xs := qs.map V.ref) (fun R k => by walk_at "go"; exact k) ha (by rw [List.length_map]; omega) (fun _ => true) (fun i => S (rpt (L / (ps.getD i (1, [])).1) (ps.getD i (1, [])).2)) (fun _ => rfl) (fun i x H2 hi s2 QB k => k H2 (Same.refl H2)) (fun i x H2 hi s2 _ QV k => ?_) (fun Dr H2 n2 s2 d2 => ?_)
    · rw [List.getElem?_map] at hi
      obtain ⟨qa, hqa, rfl⟩ := Option.map_eq_some_iff.mp hi
      obtain ⟨hl, e'⟩ := List.getElem?_eq_some_iff.mp hqa
      have hp : ps[i]? = some ps[i] := List.getElem?_eq_getElem (by omega)
      have hq := s2 _ _ (hat i qa _ hqa hp)
      have hm := List.mem_of_getElem? hp
      have ok := hok _ hm
      have hn : ps[i].1 ≤ L := Nat.le_of_dvd hL1 (hdv _ hm)
      have hr := ok.2 (by omega)
      have ok1 := ok.1
      have e3 : ps.getD i (1, []) = ps[i] := by rw [List.getD_eq_getElem?_getD, hp]; rfl
      rw [e3] at k
      have hdd : L / ps[i].1 * ps[i].1 = L := Nat.div_mul_cancel (hdv _ hm)
      have hdl : L / ps[i].1 ≤ L := Nat.div_le_self _ _
      generalize ps[i] = pp at *
      obtain ⟨n, r⟩ := pp
      dsimp only at *
      show (_ : TE) [some (.ref a), some (.int (L : Int)), some (.ref qa), none, none, none] H2 QV
      walk_at "go"
      rw [if_pos (by omega), ← Int.natCast_ediv]
      refine i_mul_str ⟨by rw [hr, Nat.mul_comm]; omega, by omega⟩ ?_
      exact k H2 (Same.refl H2)
    rw [kept_all, List.length_map, hlen, range_getD_map ps (1, []) (fun (p : Nat × List Nat) => S (rpt (L / p.1) p.2))] at d2
    have e4 : ps.map (fun (p : Nat × List Nat) => S (rpt (L / p.1) p.2)) = (ps.map fun p => rpt (L / p.1) p.2).map S := by rw [List.map_map]; rfl
    rw [e4] at d2
    have hrl : ∀ r ∈ ps.map (fun p => rpt (L / p.1) p.2), r.length = L := fun r hr => by
      obtain ⟨p, hp, rfl⟩ := List.mem_map.mp hr
      have hn : p.1 ≤ L := Nat.le_of_dvd hL1 (hdv _ hp)
      rw [rpt_len, (hok p hp).2 (by omega), Nat.div_mul_cancel (hdv p hp)]
    have e5 : showN ps L = (List.range L).map fun b => firstLit ((ps.map fun p => rpt (L / p.1) p.2).map fun r => r.getD b 0) := by
      unfold showN
      refine List.map_congr_left fun b _ => ?_
      rw [List.map_map]
      rfl
    rw [e5] at q
    have hrs : (ps.map fun p => rpt (L / p.1) p.2).length = ps.length := by rw [List.length_map]
    generalize ps.map (fun (p : Nat × List Nat) => rpt (L / p.1) p.2) = rs at *
    walk_at "go"
    refine c_rng1A L (fun R k => by walk_at "go"; exact k) (by omega) (fun b => S [firstLit (rs.map fun r => r.getD b 0)]) (fun _ => rfl) (fun b H3 hb s3 QV k => ?_) (fun Dj H3 n3 s3 d3 => ?_)
    · show (_ : TE) [some (.ref a), some (.int (L : Int)), v, some (.ref Dr), some (.int (b : Int)), none] H3 QV
      walk_at "go"
      refine c_lst (K := K) (a := Dr) (xs := rs.map S) (fun R k => by walk_at "go"; exact k) (.inl (.inl (s3 _ _ d2))) (by rw [List.length_map]; omega) (fun _ => true) (fun i => S [(rs.getD i []).getD b 0]) (fun _ => rfl) (fun i x H4 hi s4 QB k => k H4 (Same.refl H4)) (fun i x H4 hi s4 _ QV k => ?_) (fun Di H4 n4 s4 d4 => ?_)
      · rw [List.getElem?_map] at hi
        obtain ⟨r, hr, rfl⟩ := Option.map_eq_some_iff.mp hi
        have hl := hrl r (List.mem_of_getElem? hr)
        have e6 : rs.getD i [] = r := by rw [List.getD_eq_getElem?_getD, hr]; rfl
        rw [e6] at k
        show (_ : TE) [some (.ref a), some (.int (L : Int)), v, some (.ref Dr), some (.int (b : Int)), some (S r)] H4 QV
        walk_at "go"
        refine i_ix_str (c := r.getD b 0) (by omega) (by omega) ?_ (k H4 (Same.refl H4))
        rw [Int.toNat_natCast, List.getD_eq_getElem?_getD, List.getElem?_eq_getElem (by omega)]
        rfl
      · rw [kept_all, List.length_map, range_getD_map rs [] (fun r => S [r.getD b 0])] at d4
        walk_at "go"
        refine ⟨Di, rs.map fun r => r.getD b 0, rfl, .inl (.inl (by rw [d4, List.map_map]; rfl)), ?_⟩
        exact k H4 s4
    · have e7 : (List.range L).map (fun b => S [firstLit (rs.map fun r => r.getD b 0)]) = ((List.range L).map fun b => firstLit (rs.map fun r => r.getD b 0)).map fun c => S [c] := by rw [List.map_map]; rfl
      rw [e7] at d3
      walk_at "go"
      refine i_join1 (.inl (.inl d3)) (by rw [List.length_map, List.length_range]; omega) ?_
      walk_at "go"
      refine i_new (by show 2 ≤ 100000; omega) fun p np => ?_
      exact q p _ (s2.trans (s3.trans (same_upd np))) upd_same
def p_behind_digits : P2 := fun x y H Q _ => ∃ (z : List Nat) (a : Nat), x = S z ∧ y = .int (a : Int) ∧ z.length ≤ 100000 ∧ a ≤ z.length ∧ Q (.int ((bd z a : Nat) : Int)) H
theorem ok_behind_digits (T : Txt K mg C_GlimError C_BadText C_TooLong) : OK P w K mg base CX0 1 "behind_digits" ["text", "at"] (sp2  p_behind_digits) := by
  refine OK.mk (k := 0) T.d_behind_digits sc_behind_digits len2 fun f cdv A outer s H vs Q E hr h => ?_
  obtain ⟨x, y, rfl, h⟩ := h
  refine ⟨_, (pss_cons (ps_while PassesOwn.never (pw_and (pt_cmpR op_ltP (pv 1) (pe_callB (cLen K) (by rfl) T.b_len (by decide +kernel) (pa_cons (pv 0) pa_nil)) (nomark _)) (pw_and1 (pt_cmpR (opIn K) (pe_ix (ixK K) (pv 0) (pv 1) (fun _ _ => rfl)) (pe_gS [48, 49, 50, 51, 52, 53, 54, 55, 56, 57] T.g_DIGITS) (by with_unfolding_all rfl)))).pt (pss_one (ps_aug (i := 1) sc_behind_digits.nd rfl (Or.inl rfl) pe_int ip_add))) (pss_one (ps_ret (pv 1)))), ?_⟩
  show (_ : TS) { nx := fun _ H' => Q .non H', rt := Q } [some x, some y] H
  obtain ⟨z, a, rfl, rfl, hz, ha, q⟩ := h
  walk_at "go"
  refine i_while (fun m σ H' => ∃ n : Nat, σ = [some (S z), some (.int (n : Int))] ∧ H' = H ∧ n + m = z.length ∧ bd z n = bd z a) (z.length - a) ⟨a, rfl, rfl, by omega, rfl⟩ ?_
  rintro m σ H' ⟨n, rfl, rfl, hn, hb⟩
  walk_at "go"
  refine i_dec (fun e => ?_) (fun e => ?_)
  · walk_at "go"
    have hl : n < z.length := by omega
    refine i_ix_str (c := z[n]) hz (by omega) (by rw [Int.toNat_natCast]; exact List.getElem?_eq_getElem hl) ?_
    walk_at "go"
    refine i_dec (fun e => i_turn ?_) (fun e => ?_)
    · walk_at "go"
      exact ⟨m - 1, by omega, n + 1, rfl, rfl, by omega, by rw [bd_step (List.getElem?_eq_getElem hl) e, hb]⟩
    · walk_at "go"
      rw [← hb, bd_stop (fun c hc => by rw [List.getElem?_eq_getElem hl] at hc; cases hc; exact e)] at q
      exact q
  · walk_at "go"
    rw [← hb, bd_stop (fun c hc => by rw [List.getElem?_eq_none (by omega)] at hc; cases hc)] at q
    exact q
def p_within : P3 := fun x y u H Q _ => ∃ (r : List Nat) (lo hi : Nat), x = S r ∧ y = .int (lo : Int) ∧ u = .int (hi : Int) ∧ r.length ≤ 100000 ∧ (∀ c ∈ r, c ∈ DG) ∧ Q (.bl (within r lo hi)) H
theorem ok_is_within (T : Txt K mg C_GlimError C_BadText C_TooLong) : OK P w K mg base CX0 1 "is_within" ["run", "low", "high"] (sp3  p_within) := by
  refine OK.mk (k := 0) T.d_is_within sc_is_within len3 fun f cdv A outer s H vs Q E hr h => ?_
  obtain ⟨x, y, z, rfl, h⟩ := h
  refine ⟨_, (pss_one (ps_ret (pe_and (pe_chain op_leP op_leP pe_int (pe_callB (cLen K) (by rfl) T.b_len (by decide +kernel) (pa_cons (pv 0) pa_nil)) pe_int) (pe_one (pe_chain op_leP op_leP (pv 1) (pe_callTy call_intTx (by rfl) T.b_int (by decide +kernel) (pa_cons (pv 0) pa_nil)) (pv 2)))))), ?_⟩
  show (_ : TS) { nx := fun _ H' => Q .non H', rt := Q } [some x, some y, some z] H
  obtain ⟨r, lo, hi, rfl, rfl, rfl, hz, hd, q⟩ := h
  walk_at "go"
  unfold within at q
  have nn : ∀ a b : Nat, decide ((a : Int) ≤ (b : Int)) = decide (a ≤ b) := fun a b => by rw [decide_eq_decide]; omega
  refine i_dec (fun e1 => ?_) (fun e1 => ?_)
  · walk_at "go"
    refine i_dec (fun e2 => ?_) (fun e2 => ?_)
    · walk_at "go"
      refine i_intTx (by omega) (by omega) hd ?_
      walk_at "go"
      rw [decide_eq_true (show 1 ≤ r.length by omega), decide_eq_true (show r.length ≤ 2 by omega), Bool.true_and, Bool.true_and] at q
      rw [nn]
      refine i_bool (fun e => ?_) (fun e => ?_)
      · rw [e, Bool.true_and] at q
        walk_at "go"
        rw [nn]
        exact q
      · rw [e, Bool.false_and] at q
        exact q
    · rw [decide_eq_false (show ¬ r.length ≤ 2 by omega), Bool.and_false, Bool.false_and, Bool.false_and] at q
      walk_at "go"
      exact q
  · rw [decide_eq_false (show ¬ 1 ≤ r.length by omega), Bool.false_and, Bool.false_and, Bool.false_and] at q
    walk_at "go"
    exact q
end
end K05
namespace K05
open PySem PySem.Spec PyProof.Rows L2 Fg
local macro_rules | `(tactic| walk_at "sq") => `(tactic| first
  | assumption
  | exact .inl (.inl (by assumption))
  | exact .inl (.inl upd_same))
local macro_rules | `(tactic| walk_at "st") => `(tactic| first
  | assumption
  | exact .inl (.inl (by assumption))
  | exact .inl (.inl upd_same))
local macro_rules | `(tactic| walk_at "o") => `(tactic| first
  | omega
  | assumption
  | (simp only [List.length_append, List.length_take, List.length_drop, List.length_cons, List.length_nil, List.length_singleton, List.length_map, List.length_range, Int.toNat_natCast] ; omega))
local macro_rules | `(tactic| walk_at "s") => `(tactic| first
  | (with_reducible refine i_seq ?_)
  | (with_reducible refine i_asg ?_)
  | ((with_reducible refine' i_var ?h1 ?_); (case h1 => rfl))
  | (with_reducible refine i_c ?_)
  | ((with_reducible refine' i_gname' ?h1 ?_); (case h1 => (simp only [List.set_cons_zero, List.set_cons_succ]; rfl)))
  | (with_reducible refine i_op ?_)
  | (with_reducible refine i_ifS ?_)
  | (with_reducible refine i_for ?_)
  | (with_reducible refine i_test ?_)
  | (with_reducible refine i_B ?_)
  | (with_reducible refine i_exbl ?_)
  | (with_reducible refine i_exint ?_)
  | (with_reducible refine i_cb ?_)
  | (with_reducible refine i_nil ?_)
  | (with_reducible refine i_cons ?_)
  | (with_reducible refine i_ret ?_)
  | (with_reducible refine i_sl ?_)
  | (with_reducible refine i_nopart ?_)
  | (with_reducible refine i_part ?_)
  | (with_reducible refine i_add_int ?_)
  | (with_reducible refine i_sub ?_)
  | (with_reducible refine i_lt ?_)
  | ((with_reducible refine' i_mod ?h1 ?_); (case h1 => walk_at "o"))
  | ((with_reducible refine' i_fdiv ?h1 ?_); (case h1 => (refine cdiv_small ?_ ?_ <;> walk_at "o")))
  | ((with_reducible refine' i_sl_to ?h1 ?h2 ?_); (case h1 => walk_at "o"); (case h2 => walk_at "o"))
  | ((with_reducible refine' i_sl_from ?h1 ?h2 ?_); (case h1 => walk_at "o"); (case h2 => walk_at "o"))
  | ((with_reducible refine' i_add_str ?h1 ?_); (case h1 => walk_at "o"))
  | ((with_reducible refine' i_mul_int ?h1 ?_); (case h1 => first | (refine mul_small ?_ ?_ <;> walk_at "o") | (refine mul_smallR ?_ ?_ <;> walk_at "o")))
  | (with_reducible refine i_le ?_)
  | (with_reducible refine i_gt ?_)
  | (with_reducible refine i_ge ?_)
  | (with_reducible refine i_eq_int ?_)
  | (with_reducible refine i_eq_str ?_)
  | (with_reducible refine i_ne_int ?_)
  | (with_reducible refine i_ne_str ?_)
  | (with_reducible refine i_eq_bl ?_)
  | (with_reducible refine i_ne_bl ?_)
  | (with_reducible refine i_in_sg ?_)
  | (with_reducible refine i_notIn_sg ?_)
  | (with_reducible refine i_call ?_)
  | (with_reducible refine i_callS ?_)
  | (with_reducible refine i_sp1 ?_)
  | (with_reducible refine i_sp2 ?_)
  | (with_reducible refine i_sp3 ?_)
  | (with_reducible refine i_sp4 ?_)
  | (with_reducible refine i_sp1' ?_)
  | (with_reducible refine i_sp2' ?_)
  | (with_reducible refine i_sp3' ?_)
  | ((with_reducible refine' i_ix_lst ?h1 ?h2 ?_); (case h1 => walk_at "sq"); (case h2 => first | exact atI_nat rfl | rfl))
  | ((with_reducible refine' i_ix_tup ?h1 ?h2 ?_); (case h1 => walk_at "st"); (case h2 => first | exact atI_nat rfl | rfl))
  | (with_reducible refine i_gsub ?_)
  | (with_reducible refine i_par ?_)
  | (with_reducible refine i_lstRg1 ?_)
  | (with_reducible refine i_app ?_)
  | (with_reducible refine i_par2 ?_)
  | ((with_reducible refine' i_aug ?h1 ?_); (case h1 => rfl))
  | (with_reducible refine i_ipI ?_)
  | ((with_reducible refine' i_gtup2 ?h1 ?_); (case h1 => walk_at "st"))
  | (with_reducible refine i_int_bl ?_)
  | (with_reducible refine i_raise ?_)
  | (with_reducible refine i_mkE ?_)
  | (with_reducible refine i_ex1 ?_)
  | (with_reducible refine i_and ?_)
  | (with_reducible refine i_or ?_)
  | (with_reducible refine i_not ?_)
  | (with_reducible refine i_tt ?_)
  | (with_reducible refine i_ff ?_)
  | (with_reducible refine i_nott ?_)
  | (with_reducible refine i_notf ?_)
  | (with_reducible refine i_andV ?_)
  | (with_reducible refine i_orV ?_)
  | (with_reducible refine i_notV ?_)
  | (with_reducible refine i_ifE ?_)
  | (with_reducible refine i_tup ?_)
  | (with_reducible refine i_lst ?_)
  | (with_reducible refine i_un ?_)
  | (with_reducible refine i_neg ?_)
  | (with_reducible refine i_chain ?_)
  | (with_reducible refine i_next ?_)
  | (with_reducible refine i_retN ?_)
  | (with_reducible refine i_drop ?_)
  | (with_reducible refine i_int_int ?_)
  | (with_reducible refine i_abs ?_)
  | (with_reducible refine i_m1c ?_)
  | (with_reducible refine i_is_non ?_)
  | (with_reducible refine i_is_int ?_)
  | (with_reducible refine i_is_bl ?_)
  | (with_reducible refine i_isn_bl ?_)
  | (with_reducible refine i_is_str ?_)
  | (with_reducible refine i_is_ref ?_)
  | (with_reducible refine i_isn_non ?_)
  | (with_reducible refine i_isn_int ?_)
  | (with_reducible refine i_isn_str ?_)
  | (with_reducible refine i_isn_ref ?_)
  | (with_reducible refine i_len_str ?h1 ?_; (case h1 => walk_at "o"))
  | (with_reducible refine i_isi_int_int ?_) | (with_reducible refine i_isi_int_bool ?_) | (with_reducible refine i_isi_int_str ?_) | (with_reducible refine i_isi_int_tuple ?_) | (with_reducible refine i_isi_int_list ?_)
  | (with_reducible refine i_isi_bl_int ?_) | (with_reducible refine i_isi_bl_bool ?_) | (with_reducible refine i_isi_bl_str ?_) | (with_reducible refine i_isi_bl_tuple ?_) | (with_reducible refine i_isi_bl_list ?_)
  | (with_reducible refine i_isi_str_int ?_) | (with_reducible refine i_isi_str_bool ?_) | (with_reducible refine i_isi_str_str ?_) | (with_reducible refine i_isi_str_tuple ?_) | (with_reducible refine i_isi_str_list ?_)
  | (with_reducible refine i_isi_non_int ?_) | (with_reducible refine i_isi_non_bool ?_) | (with_reducible refine i_isi_non_str ?_) | (with_reducible refine i_isi_non_tuple ?_) | (with_reducible refine i_isi_non_list ?_))
local macro_rules | `(tactic| walk_at "go") => `(tactic| (repeat' (walk_at "s")))
local macro_rules | `(tactic| walk_at "n") => `(tactic| simp only [wipe, List.map_cons, List.map_nil, List.set_cons_zero, List.set_cons_succ])
/-- how a reading ends -/
def Out (C : Addr) (H : Hp) (Q : VK) (E : XK) : Res → Prop
  | .error k => Rz E H C "at" (.int (k : Int))
  | .ok (s, e) => ∀ p q H', Same H H' → H' q = some (Sv s.1 s.2) → H' p = some (.tup [.ref q, .int (e : Int)]) → Q (.ref p) H'
def p_rdp (C : Addr) (f : List Nat → Nat → Res) (d : Nat) : P3 := fun x y u H Q E => ∃ (z : List Nat) (a : Nat) (o : Int), x = S z ∧ y = .int (a : Int) ∧ u = .int o ∧ o + (d : Int) = 6 ∧ z.length ≤ 1700 ∧ a ≤ z.length ∧ Out C H Q E (f z a)
/-- the parts behind an opening: never, where no more may be opened -/
def PD (C : Addr) : Nat → P3
  | 0 => fun _ _ _ _ _ _ => False
  | d + 1 => p_rdp C (fun z => rd z d) d
theorem decS {l m : List Nat} : (l = m) = (S l = S m) := propext S_inj.symm
theorem toNat_cast (n : Nat) : ((n : Int)).toNat = n := Int.toNat_natCast n
section
variable {P : Program} {w : World} {K : PySem.W.Frag} {mg : Str → Option Value} {base : Heap} {C_GlimError C_BadText C_TooLong : Addr}
theorem ok_read_item (T : Txt K mg C_GlimError C_BadText C_TooLong) (d : Nat) (R : OK P w K mg base (L2.CX P w) (3 * d + 3) "read_parts" ["text", "at", "opened"] (sp3 (PD C_BadText d))) :
    OK P w K mg base (L2.CX P w) (3 * d + 4) "read_item" ["text", "at", "opened"] (sp3 (p_rdp C_BadText (fun z => rdItem z d) d)) := by
  refine OK.mkX (k := 3 * d + 3) T.d_read_item sc_read_item len3 fun f cdv A outer s H vs Q E hr h => ?_
  obtain ⟨x, y, z, rfl, h⟩ := h
  refine ⟨_, (pss_cons (ps_set (i := 3) sc_read_item.nd rfl (Or.inl rfl) (pv 1)) (pss_cons (ps_set (i := 1) sc_read_item.nd rfl (Or.inl rfl) (pe_f (ok_behind_digits (K := K) T) (hr.mono (by omega)) pass0 (pa_cons (pv 0) (pa_cons (pv 3) pa_nil)))) (pss_cons (ps_set (i := 4) sc_read_item.nd rfl (Or.inl rfl) (pe_slice (slK K) (pv 0) (po_some (pv 3)) (po_some (pv 1)))) (pss_cons (ps_if (pt_cmpR (opEq K hr.units) (pe_slice (slK K) (pv 4) po_none (po_some pe_int)) (pe_S [48]) (nomark _)) (pss_one (ps_raiseP rfl (takes_of rfl rfl rfl rfl) (pmk_E (k := 0) (okx_BadText T) (hr.mono (by omega)) (pa_cons (pv 3) pa_nil)))) pss_nil) (Evl.pss_cut (ps_if (pw_or (pt_cmpR (opEq K hr.units) (pv 1) (pe_callB (cLen K) (by rfl) T.b_len (by decide +kernel) (pa_cons (pv 0) pa_nil)) (nomark _)) (pw_or1 (pw_and (pt_cmpR (opNotIn K) (pe_ix (ixK K) (pv 0) (pv 1) (fun _ _ => rfl)) (pe_gS [46, 103, 114, 119] T.g_SIGNS) (by with_unfolding_all rfl)) (pw_and1 (pt_cmpR (opNe K hr.units) (pe_ix (ixK K) (pv 0) (pv 1) (fun _ _ => rfl)) (pe_S [40]) (nomark _)))).pt)).pt (pss_one (ps_raiseP rfl (takes_of rfl rfl rfl rfl) (pmk_E (k := 0) (okx_BadText T) (hr.mono (by omega)) (pa_cons (pv 1) pa_nil)))) pss_nil) (Evl.pss_cut (ps_if (pw_and (pt_cmpR (opNe K hr.units) (pv 4) (pe_S []) (nomark _)) (pw_and1 (pt_not (pt_val (pe_f (ok_is_within (K := K) T) (hr.mono (by omega)) pass0 (pa_cons (pv 4) (pa_cons pe_int (pa_cons (pe_gI 24 T.g_MOST_ROUND) pa_nil)))))))).pt (pss_one (ps_raiseP rfl (takes_of rfl rfl rfl rfl) (pmk_E (k := 0) (okx_BadText T) (hr.mono (by omega)) (pa_cons (pv 3) pa_nil)))) pss_nil) (Evl.pss_cut (ps_set (i := 5) sc_read_item.nd rfl (Or.inl rfl) (pe_ifExp (pt_cmpR (opEq K hr.units) (pv 4) (pe_S []) (nomark _)) pe_int (pe_callTy call_intTx (by rfl) T.b_int (by decide +kernel) (pa_cons (pv 4) pa_nil)))) (pss_cons (ps_if (pt_cmpR (opNe K hr.units) (pe_ix (ixK K) (pv 0) (pv 1) (fun _ _ => rfl)) (pe_S [40]) (nomark _)) (pss_one (ps_ret (pe_tup (pa_cons (pe_f (ok_repeated (K := K) T) (hr.mono (by omega)) pass0 (pa_cons (pe_tup (pa_cons pe_int (pa_cons (pe_ix (ixK K) (pv 0) (pv 1) (fun _ _ => rfl)) pa_nil))) (pa_cons (pv 5) pa_nil))) (pa_cons (pe_op (opAdd K) (pv 1) pe_int) pa_nil))))) pss_nil) (pss_cons (ps_if (pt_cmpR (opEq K hr.units) (pv 2) (pe_gI 6 T.g_MOST_OPEN) (nomark _)) (pss_one (ps_raiseP rfl (takes_of rfl rfl rfl rfl) (pmk_E (k := 0) (okx_BadText T) (hr.mono (by omega)) (pa_cons (pv 1) pa_nil)))) pss_nil) (pss_cons (ps_asg (pe_f R (hr.mono (by omega)) (passes_call (takes_of rfl rfl rfl rfl) (fun _ _ _ _ h => h)) (pa_cons (pv 0) (pa_cons (pe_op (opAdd K) (pv 1) pe_int) (pa_cons (pe_op (opAdd K) (pv 2) pe_int) pa_nil)))) (pgTup (n := 2) K rfl (pgs_cons (pg_name (i := 6) sc_read_item.nd rfl (Or.inl rfl)) (pgs_cons (pg_name (i := 1) sc_read_item.nd rfl (Or.inl rfl)) pgs_nil)))) (pss_cons (ps_if (pw_or (pt_cmpR (opEq K hr.units) (pv 1) (pe_callB (cLen K) (by rfl) T.b_len (by decide +kernel) (pa_cons (pv 0) pa_nil)) (nomark _)) (pw_or1 (pt_cmpR (opNe K hr.units) (pe_ix (ixK K) (pv 0) (pv 1) (fun _ _ => rfl)) (pe_S [41]) (nomark _)))).pt (pss_one (ps_raiseP rfl (takes_of rfl rfl rfl rfl) (pmk_E (k := 0) (okx_BadText T) (hr.mono (by omega)) (pa_cons (pv 1) pa_nil)))) pss_nil) (pss_one (ps_ret (pe_tup (pa_cons (pe_f (ok_repeated (K := K) T) (hr.mono (by omega)) pass0 (pa_cons (pv 6) (pa_cons (pv 5) pa_nil))) (pa_cons (pe_op (opAdd K) (pv 1) pe_int) pa_nil)))))))))))))))), ?_⟩
  show (_ : TS) { nx := fun _ H' => Q .non H', rt := Q } [some x, some y, some z, none, none, none, none] H
  obtain ⟨z, a, o, rfl, rfl, rfl, ho, hz, ha, h⟩ := h
  replace h : Out C_BadText H Q E (item (rpOf z d) z a) := rdItem_item z d ▸ h
  have ba := bd_le ha
  have ga := bd_ge z a
  have dg := run_digits z a
  have rl : (run z a).length ≤ z.length := by unfold bd at ba; omega
  unfold item at h
  walk_at "go"
  refine ⟨z, a, rfl, rfl, by omega, ha, ?_⟩
  walk_at "go"
  refine i_sl_str (by omega) ?_
  rw [cutN_run ha]
  generalize hrun : run z a = r at *
  generalize hb : bd z a = b at *
  walk_at "go"
  rw [show Int.toNat 1 = 1 from rfl]
  refine i_dec (fun e => ?_) (fun e => ?_)
  · rw [if_pos e] at h
    walk_at "go"
    intro dd nd
    exact Rz.at h nd
  rw [if_neg e] at h
  walk_at "go"
  refine i_cut (fun σ H' => ∃ c, σ = [some (S z), some (.int (b : Int)), some (.int o), some (.int (a : Int)), some (S r), none, none] ∧ H' = H ∧ z[b]? = some c ∧ ¬ (c ∉ SG ∧ c ≠ 40)) ?_ ?_
  · walk_at "go"
    by_cases hl : b < z.length
    case neg =>
      rw [List.getElem?_eq_none (by omega)] at h
      refine i_dec (fun _ => ?_) (fun e' => absurd (by omega) e')
      walk_at "go"
      intro dd nd
      exact Rz.at h nd
    have hc : z[b]? = some z[b] := List.getElem?_eq_getElem hl
    rw [hc] at h
    generalize z[b] = c at *
    dsimp only at h
    have ixc : ∀ {H : Hp} {Q : VK}, Q (S [c]) H → ixP K (S z) (.int (b : Int)) H Q := fun k => i_ix_str (by omega) (by omega) (by rw [Int.toNat_natCast]; exact hc) k
    refine i_dec (fun e' => absurd e' (by omega)) (fun _ => ?_)
    walk_at "go"
    refine ixc ?_
    walk_at "go"
    refine i_decN (fun e1 => ?_) (fun e1 => ?_)
    · walk_at "go"
      refine ixc ?_
      walk_at "go"
      refine i_decN (fun e2 => ?_) (fun e2 => ?_)
      · walk_at "go"
        intro dd nd
        have h : Rz E H C_BadText "at" (.int (b : Int)) := by
          rw [show (if c ∉ SG ∧ c ≠ 40 then Except.error b else _ : Res) = .error b from if_pos ⟨e1, fun z => e2 (by rw [z])⟩] at h
          exact h
        exact Rz.at h nd
      · exact ⟨c, rfl, rfl, hc, fun z => z.2 (List.cons.inj e2).1⟩
    · walk_at "go"
      exact ⟨c, rfl, rfl, hc, fun z => z.1 e1⟩
  rintro σ H' ⟨c, rfl, rfl, hc, hg⟩
  have hl := (List.getElem?_eq_some_iff.mp hc).1
  have ixc : ∀ {H : Hp} {Q : VK}, Q (S [c]) H → ixP K (S z) (.int (b : Int)) H Q := fun k => i_ix_str (by omega) (by omega) (by rw [Int.toNat_natCast]; exact hc) k
  rw [hc] at h
  dsimp only at h
  replace h : Out C_BadText H' Q E (if r ≠ [] ∧ within r 2 24 = false then .error a else if c ≠ 40 then .ok (rep (1, [c]) (timesOf r), b + 1) else match rpOf z d with | none => .error b | some f => close z (timesOf r) (f (b + 1))) := by
    rw [show (if c ∉ SG ∧ c ≠ 40 then Except.error b else _ : Res) = _ from if_neg hg] at h
    exact h
  refine i_cut (fun σ H2 => σ = [some (S z), some (.int (b : Int)), some (.int o), some (.int (a : Int)), some (S r), none, none] ∧ H2 = H' ∧ ¬ (r ≠ [] ∧ within r 2 24 = false)) ?_ ?_
  · walk_at "go"
    refine i_decN (fun e1 => ?_) (fun e1 => ?_)
    · walk_at "go"
      refine ⟨r, 2, 24, rfl, rfl, rfl, by omega, dg, ?_⟩
      walk_at "go"
      cases hw : within r 2 24 with
      | true =>
        walk_at "go"
        exact ⟨rfl, rfl, fun z => by cases z.2⟩
      | false =>
        rw [if_pos ⟨e1, hw⟩] at h
        walk_at "go"
        intro dd nd
        exact Rz.at h nd
    · walk_at "go"
      exact ⟨rfl, rfl, fun z => z.1 e1⟩
  rintro σ H2 ⟨rfl, rfl, ht⟩
  rw [if_neg ht] at h
  obtain ⟨t1, t2, t3⟩ := times_ok ht
  refine i_cut (fun σ H3 => σ = [some (S z), some (.int (b : Int)), some (.int o), some (.int (a : Int)), some (S r), some (.int (timesOf r : Nat)), none] ∧ H3 = H2) ?_ ?_
  · walk_at "go"
    refine i_dec (fun e1 => ?_) (fun e1 => ?_)
    · walk_at "go"
      unfold timesOf
      rw [if_pos e1]
      exact ⟨rfl, rfl⟩
    · walk_at "go"
      have hw : within r 2 24 = true := by
        cases hw : within r 2 24 with
        | true => rfl
        | false => exact absurd ⟨e1, hw⟩ ht
      obtain ⟨w1, w2, _, _⟩ := within_iff.mp hw
      refine i_intTx w1 w2 dg ?_
      unfold timesOf
      rw [if_neg e1]
      exact ⟨rfl, rfl⟩
  rintro σ H3 ⟨rfl, rfl⟩
  generalize timesOf r = t at *
  walk_at "go"
  refine ixc ?_
  walk_at "go"
  refine i_decN (fun e1 => ?_) (fun e1 => ?_)
  · have ne : c ≠ 40 := fun z => e1 (by rw [z])
    rw [if_pos ne] at h
    walk_at "go"
    refine ixc ?_
    walk_at "go"
    refine i_new (by show 2 ≤ 100000; omega) fun p1 n1 => ?_
    walk_at "go"
    refine ⟨p1, 1, [c], t, rfl, rfl, upd_same, by omega, fun _ => rfl, t1, by omega, fun p2 n2 => ?_⟩
    walk_at "go"
    refine i_new (by show 2 ≤ 100000; omega) fun p3 n3 => ?_
    have s2 := (same_upd (o := .tup [.int 1, S [c]]) n1).trans (same_upd (o := Sv (1 * t) (rpt t [c])) n2)
    refine h p3 p2 _ (s2.trans (same_upd n3)) ?_ upd_same
    rw [upd_ne (fun e => by rw [← e, upd_same] at n3; cases n3), upd_same]
    rfl
  have e40 : c = 40 := (List.cons.inj e1).1
  rw [if_neg (fun z => z e40)] at h
  walk_at "go"
  cases d with
  | zero =>
    refine i_dec (fun _ => ?_) (fun e2 => absurd (by omega) e2)
    walk_at "go"
    intro dd nd
    exact Rz.at h nd
  | succ d =>
    refine i_dec (fun e2 => absurd e2 (by omega)) (fun _ => ?_)
    walk_at "go"
    replace h : Out C_BadText H3 Q E (close z t (rd z d (b + 1))) := h
    refine ⟨z, b + 1, o + 1, rfl, by rw [Int.natCast_add]; rfl, rfl, by omega, hz, by omega, ?_⟩
    show Out _ _ _ _ (rd z d (b + 1))
    cases hr2 : rd z d (b + 1) with
    | error k =>
      rw [hr2] at h
      exact h
    | ok se =>
      obtain ⟨s2, e2⟩ := se
      obtain ⟨g1, g2, g3, g4⟩ := rd_gd z d (b + 1) s2 e2 (by omega) hr2
      rw [hr2] at h
      intro p q H4 sm hq hp
      walk_at "go"
      unfold close at h
      dsimp only at h
      by_cases hl2 : e2 < z.length
      case neg =>
        rw [List.getElem?_eq_none (by omega), if_neg (by simp)] at h
        refine i_dec (fun _ => ?_) (fun e' => absurd (by omega) e')
        walk_at "go"
        intro dd nd
        exact Rz.at (Rz.mono h sm) nd
      have hc2 : z[e2]? = some z[e2] := List.getElem?_eq_getElem hl2
      rw [hc2] at h
      generalize z[e2] = c2 at *
      refine i_dec (fun e' => absurd e' (by omega)) (fun _ => ?_)
      walk_at "go"
      refine i_ix_str (c := c2) (by omega) (by omega) (by rw [Int.toNat_natCast]; exact hc2) ?_
      walk_at "go"
      refine i_decN (fun e' => ?_) (fun e' => ?_)
      · rw [if_neg (fun z => e' (by rw [Option.some.inj z]))] at h
        walk_at "go"
        intro dd nd
        exact Rz.at (Rz.mono h sm) nd
      · rw [if_pos (by rw [(List.cons.inj e').1])] at h
        walk_at "go"
        refine ⟨q, s2.1, s2.2, t, rfl, rfl, hq, g3, g4.2, t1, by omega, fun p2 n2 => ?_⟩
        walk_at "go"
        refine i_new (by show 2 ≤ 100000; omega) fun p3 n3 => ?_
        refine h p3 p2 _ ((sm.trans (same_upd n2)).trans (same_upd n3)) ?_ upd_same
        rw [upd_ne (fun e => by rw [← e, upd_same] at n3; cases n3), upd_same]
        rfl
end
end K05
namespace K05
open PySem PySem.Spec PyProof.Rows L2 Fg
local macro_rules | `(tactic| walk_at "sq") => `(tactic| first
  | assumption
  | exact .inl (.inl (by assumption))
  | exact .inl (.inl upd_same))
local macro_rules | `(tactic| walk_at "st") => `(tactic| first
  | assumption
  | exact .inl (.inl (by assumption))
  | exact .inl (.inl upd_same))
local macro_rules | `(tactic| walk_at "o") => `(tactic| first
  | omega
  | assumption
  | (simp only [List.length_append, List.length_take, List.length_drop, List.length_cons, List.length_nil, List.length_singleton, List.length_map, List.length_range, Int.toNat_natCast] ; omega))
local macro_rules | `(tactic| walk_at "s") => `(tactic| first
  | (with_reducible refine i_seq ?_)
  | (with_reducible refine i_asg ?_)
  | ((with_reducible refine' i_var ?h1 ?_); (case h1 => rfl))
  | (with_reducible refine i_c ?_)
  | ((with_reducible refine' i_gname' ?h1 ?_); (case h1 => (simp only [List.set_cons_zero, List.set_cons_succ]; rfl)))
  | (with_reducible refine i_op ?_)
  | (with_reducible refine i_ifS ?_)
  | (with_reducible refine i_for ?_)
  | (with_reducible refine i_test ?_)
  | (with_reducible refine i_B ?_)
  | (with_reducible refine i_exbl ?_)
  | (with_reducible refine i_exint ?_)
  | (with_reducible refine i_cb ?_)
  | (with_reducible refine i_nil ?_)
  | (with_reducible refine i_cons ?_)
  | (with_reducible refine i_ret ?_)
  | (with_reducible refine i_sl ?_)
  | (with_reducible refine i_nopart ?_)
  | (with_reducible refine i_part ?_)
  | (with_reducible refine i_add_int ?_)
  | (with_reducible refine i_sub ?_)
  | (with_reducible refine i_lt ?_)
  | ((with_reducible refine' i_mod ?h1 ?_); (case h1 => walk_at "o"))
  | ((with_reducible refine' i_fdiv ?h1 ?_); (case h1 => (refine cdiv_small ?_ ?_ <;> walk_at "o")))
  | ((with_reducible refine' i_sl_to ?h1 ?h2 ?_); (case h1 => walk_at "o"); (case h2 => walk_at "o"))
  | ((with_reducible refine' i_sl_from ?h1 ?h2 ?_); (case h1 => walk_at "o"); (case h2 => walk_at "o"))
  | ((with_reducible refine' i_add_str ?h1 ?_); (case h1 => walk_at "o"))
  | ((with_reducible refine' i_mul_int ?h1 ?_); (case h1 => first | (refine mul_small ?_ ?_ <;> walk_at "o") | (refine mul_smallR ?_ ?_ <;> walk_at "o")))
  | (with_reducible refine i_le ?_)
  | (with_reducible refine i_gt ?_)
  | (with_reducible refine i_ge ?_)
  | (with_reducible refine i_eq_int ?_)
  | (with_reducible refine i_eq_str ?_)
  | (with_reducible refine i_ne_int ?_)
  | (with_reducible refine i_ne_str ?_)
  | (with_reducible refine i_eq_bl ?_)
  | (with_reducible refine i_ne_bl ?_)
  | (with_reducible refine i_in_sg ?_)
  | (with_reducible refine i_notIn_sg ?_)
  | (with_reducible refine i_call ?_)
  | (with_reducible refine i_callS ?_)
  | (with_reducible refine i_sp1 ?_)
  | (with_reducible refine i_sp2 ?_)
  | (with_reducible refine i_sp3 ?_)
  | (with_reducible refine i_sp4 ?_)
  | (with_reducible refine i_sp1' ?_)
  | (with_reducible refine i_sp2' ?_)
  | (with_reducible refine i_sp3' ?_)
  | ((with_reducible refine' i_ix_lst ?h1 ?h2 ?_); (case h1 => walk_at "sq"); (case h2 => first | exact atI_nat rfl | rfl))
  | ((with_reducible refine' i_ix_tup ?h1 ?h2 ?_); (case h1 => walk_at "st"); (case h2 => first | exact atI_nat rfl | rfl))
  | (with_reducible refine i_gsub ?_)
  | (with_reducible refine i_par ?_)
  | (with_reducible refine i_lstRg1 ?_)
  | (with_reducible refine i_app ?_)
  | (with_reducible refine i_par2 ?_)
  | ((with_reducible refine' i_aug ?h1 ?_); (case h1 => rfl))
  | (with_reducible refine i_ipI ?_)
  | ((with_reducible refine' i_gtup2 ?h1 ?_); (case h1 => walk_at "st"))
  | (with_reducible refine i_int_bl ?_)
  | (with_reducible refine i_raise ?_)
  | (with_reducible refine i_mkE ?_)
  | (with_reducible refine i_ex1 ?_)
  | (with_reducible refine i_and ?_)
  | (with_reducible refine i_or ?_)
  | (with_reducible refine i_not ?_)
  | (with_reducible refine i_tt ?_)
  | (with_reducible refine i_ff ?_)
  | (with_reducible refine i_nott ?_)
  | (with_reducible refine i_notf ?_)
  | (with_reducible refine i_andV ?_)
  | (with_reducible refine i_orV ?_)
  | (with_reducible refine i_notV ?_)
  | (with_reducible refine i_ifE ?_)
  | (with_reducible refine i_tup ?_)
  | (with_reducible refine i_lst ?_)
  | (with_reducible refine i_un ?_)
  | (with_reducible refine i_neg ?_)
  | (with_reducible refine i_chain ?_)
  | (with_reducible refine i_next ?_)
  | (with_reducible refine i_retN ?_)
  | (with_reducible refine i_drop ?_)
  | (with_reducible refine i_int_int ?_)
  | (with_reducible refine i_abs ?_)
  | (with_reducible refine i_m1c ?_)
  | (with_reducible refine i_is_non ?_)
  | (with_reducible refine i_is_int ?_)
  | (with_reducible refine i_is_bl ?_)
  | (with_reducible refine i_isn_bl ?_)
  | (with_reducible refine i_is_str ?_)
  | (with_reducible refine i_is_ref ?_)
  | (with_reducible refine i_isn_non ?_)
  | (with_reducible refine i_isn_int ?_)
  | (with_reducible refine i_isn_str ?_)
  | (with_reducible refine i_isn_ref ?_)
  | (with_reducible refine i_len_str ?h1 ?_; (case h1 => walk_at "o"))
  | (with_reducible refine i_isi_int_int ?_) | (with_reducible refine i_isi_int_bool ?_) | (with_reducible refine i_isi_int_str ?_) | (with_reducible refine i_isi_int_tuple ?_) | (with_reducible refine i_isi_int_list ?_)
  | (with_reducible refine i_isi_bl_int ?_) | (with_reducible refine i_isi_bl_bool ?_) | (with_reducible refine i_isi_bl_str ?_) | (with_reducible refine i_isi_bl_tuple ?_) | (with_reducible refine i_isi_bl_list ?_)
  | (with_reducible refine i_isi_str_int ?_) | (with_reducible refine i_isi_str_bool ?_) | (with_reducible refine i_isi_str_str ?_) | (with_reducible refine i_isi_str_tuple ?_) | (with_reducible refine i_isi_str_list ?_)
  | (with_reducible refine i_isi_non_int ?_) | (with_reducible refine i_isi_non_bool ?_) | (with_reducible refine i_isi_non_str ?_) | (with_reducible refine i_isi_non_tuple ?_) | (with_reducible refine i_isi_non_list ?_))
local macro_rules | `(tactic| walk_at "go") => `(tactic| (repeat' (walk_at "s")))
local macro_rules | `(tactic| walk_at "n") => `(tactic| simp only [wipe, List.map_cons, List.map_nil, List.set_cons_zero, List.set_cons_succ])
theorem flat_one' (k : Nat) : (List.replicate k [46]).flatten = List.replicate k 46 := by
  induction k with
  | zero => rfl
  | succ k ih => rw [List.replicate_succ, List.flatten_cons, ih, List.replicate_succ]; rfl
section
variable {P : Program} {w : World} {K : PySem.W.Frag} {mg : Str → Option Value} {base : Heap} {C_GlimError C_BadText C_TooLong : Addr}
def p_filled (C : Addr) : P3 := fun x y u H Q E => ∃ (z : List Nat) (a : Nat) (q : Addr) (p : Stv), x = S z ∧ y = .int (a : Int) ∧ u = .ref q ∧ H q = some (Sv p.1 p.2) ∧ (p.1 ≤ 24 → p.2.length = p.1) ∧ z.length ≤ 1700 ∧ a ≤ z.length ∧ Out C H Q E (filled z a p)
theorem ok_read_filled (T : Txt K mg C_GlimError C_BadText C_TooLong) : OK P w K mg base (L2.CX P w) 4 "read_filled" ["text", "at", "part"] (sp3  (p_filled C_BadText)) := by
  refine OK.mkX (k := 3) T.d_read_filled sc_read_filled len3 fun f cdv A outer s H vs Q E hr h => ?_
  obtain ⟨x, y, z, rfl, h⟩ := h
  refine ⟨_, (pss_cons (ps_set (i := 3) sc_read_filled.nd rfl (Or.inl rfl) (pe_f (ok_behind_digits (K := K) T) (hr.mono (by decide)) pass0 (pa_cons (pv 0) (pa_cons (pv 1) pa_nil)))) (pss_cons (ps_if (pt_cmpR (opEq K hr.units) (pv 3) (pv 1) (nomark _)) (pss_one (ps_raiseP rfl (takes_of rfl rfl rfl rfl) (pmk_E (k := 0) (okx_BadText T) (hr.mono (by decide)) (pa_cons (pv 1) pa_nil)))) pss_nil) (pss_cons (ps_set (i := 4) sc_read_filled.nd rfl (Or.inl rfl) (pe_slice (slK K) (pv 0) (po_some (pv 1)) (po_some (pv 3)))) (Evl.pss_cut (ps_if (pw_or (pt_cmpR (opEq K hr.units) (pe_ix (ixK K) (pv 4) pe_int (fun _ _ => rfl)) (pe_S [48]) (nomark _)) (pw_or1 (pt_not (pt_val (pe_f (ok_is_within (K := K) T) (hr.mono (by decide)) pass0 (pa_cons (pv 4) (pa_cons (pe_callB (call_max2 rfl) (by rfl) T.b_max (by decide +kernel) (pa_cons pe_int (pa_cons (pe_ix (ixK K) (pv 2) pe_int (fun _ _ => rfl)) pa_nil))) (pa_cons (pe_gI 24 T.g_MOST_ROUND) pa_nil)))))))).pt (pss_one (ps_raiseP rfl (takes_of rfl rfl rfl rfl) (pmk_E (k := 0) (okx_BadText T) (hr.mono (by decide)) (pa_cons (pv 1) pa_nil)))) pss_nil) (pss_cons (ps_set (i := 5) sc_read_filled.nd rfl (Or.inl rfl) (pe_callTy call_intTx (by rfl) T.b_int (by decide +kernel) (pa_cons (pv 4) pa_nil))) (pss_one (ps_ret (pe_tup (pa_cons (pe_tup (pa_cons (pv 5) (pa_cons (pe_op (opAdd K) (pe_ix (ixK K) (pv 2) pe_int (fun _ _ => rfl)) (pe_op op_mulP (pe_S [46]) (pe_op op_subP (pv 5) (pe_ix (ixK K) (pv 2) pe_int (fun _ _ => rfl))))) pa_nil))) (pa_cons (pv 3) pa_nil)))))))))), ?_⟩
  show (_ : TS) { nx := fun _ H' => Q .non H', rt := Q } [some x, some y, some z, none, none, none] H
  obtain ⟨z, a, q, ⟨n, l⟩, rfl, rfl, rfl, hq, hl, hz, ha, h⟩ := h
  dsimp only at hq hl
  have ba := bd_le ha
  have ga := bd_ge z a
  have dg := run_digits z a
  have rl : (run z a).length ≤ z.length := by unfold bd at ba; omega
  have rb := bd_eq (z := z) (a := a)
  unfold filled at h
  walk_at "go"
  refine ⟨z, a, rfl, rfl, by omega, ha, ?_⟩
  walk_at "go"
  refine i_dec (fun e => ?_) (fun e => ?_)
  · rw [if_pos (rb.mp (by omega))] at h
    walk_at "go"
    intro dd nd
    exact Rz.at h nd
  have rne : run z a ≠ [] := fun e' => e (by rw [rb.mpr e'])
  rw [if_neg rne] at h
  walk_at "go"
  refine i_sl_str (by omega) ?_
  rw [cutN_run ha]
  clear rb
  generalize run z a = r at *
  generalize bd z a = b at *
  walk_at "go"
  obtain ⟨c, r', rfl⟩ : ∃ c r', r = c :: r' := by
    cases r with
    | nil => exact absurd rfl rne
    | cons c r' => exact ⟨c, r', rfl⟩
  refine i_cut (fun σ H' => σ = [some (S z), some (.int (a : Int)), some (.ref q), some (.int (b : Int)), some (S (c :: r')), none] ∧ H' = H ∧ ¬ ((c :: r').take 1 = [48] ∨ within (c :: r') (max 1 n) 24 = false)) ?_ ?_
  · walk_at "go"
    refine i_ix_str (c := c) (by omega) (by decide) rfl ?_
    walk_at "go"
    refine i_dec (fun e1 => ?_) (fun e1 => ?_)
    · rw [if_pos (.inl e1)] at h
      walk_at "go"
      intro dd nd
      exact Rz.at h nd
    · unfold Sv at hq
      walk_at "go"
      refine ⟨1, (n : Int), rfl, ?_⟩
      have em : (if (n : Int) > 1 then (n : Int) else 1) = ((max 1 n : Nat) : Int) := by split <;> omega
      rw [em]
      walk_at "go"
      refine ⟨c :: r', max 1 n, 24, rfl, rfl, rfl, by omega, dg, ?_⟩
      walk_at "go"
      cases hw : within (c :: r') (max 1 n) 24 with
      | true =>
        walk_at "go"
        exact ⟨rfl, rfl, fun z => z.elim e1 (fun z => nomatch z)⟩
      | false =>
        rw [if_pos (.inr hw)] at h
        walk_at "go"
        intro dd nd
        exact Rz.at h nd
  rintro σ H' ⟨rfl, rfl, hg⟩
  rw [if_neg hg] at h
  have hw : within (c :: r') (max 1 n) 24 = true := by
    cases hw : within (c :: r') (max 1 n) 24 with
    | true => rfl
    | false => exact absurd (.inr hw) hg
  obtain ⟨w1, w2, w3, w4⟩ := within_iff.mp hw
  walk_at "go"
  refine i_intTx w1 w2 dg ?_
  generalize num (c :: r') = m at *
  have hn : n ≤ 24 := by omega
  unfold Sv at hq
  rw [if_pos hn] at hq
  walk_at "go"
  refine i_mul_strI (by omega) ⟨by show 1 * _ ≤ _; omega, by omega⟩ ?_
  rw [flat_one', show ((m : Int) - (n : Int)).toNat = m - n by omega]
  walk_at "go"
  refine i_add_str (by rw [hl hn, List.length_replicate]; omega) ?_
  walk_at "go"
  refine i_new (by show 2 ≤ 100000; omega) fun p1 n1 => ?_
  walk_at "go"
  refine i_new (by show 2 ≤ 100000; omega) fun p2 n2 => ?_
  refine h p2 p1 _ ((same_upd n1).trans (same_upd n2)) ?_ upd_same
  rw [upd_ne (fun e => by rw [← e, upd_same] at n2; cases n2), upd_same]
  show _ = some (HO.tup [.int (m : Int), if m ≤ 24 then _ else _])
  rw [if_pos w4]
  rfl
theorem ok_read_part (T : Txt K mg C_GlimError C_BadText C_TooLong) (d : Nat) (R : OK P w K mg base (L2.CX P w) (3 * d + 4) "read_item" ["text", "at", "opened"] (sp3 (p_rdp C_BadText (fun z => rdItem z d) d))) :
    OK P w K mg base (L2.CX P w) (3 * d + 5) "read_part" ["text", "at", "opened"] (sp3 (p_rdp C_BadText (fun z => Fg.part (rdItem z d) z) d)) := by
  refine OK.mkX (k := 3 * d + 4) T.d_read_part sc_read_part len3 fun f cdv A outer s H vs Q E hr h => ?_
  obtain ⟨x, y, z, rfl, h⟩ := h
  refine ⟨_, (pss_cons (ps_set (i := 3) sc_read_part.nd rfl (Or.inl rfl) (pe_tup (pa_cons pe_int (pa_cons (pe_S []) pa_nil)))) (Evl.pss_cut (ps_while (passes_of rfl) (pw_and (pt_cmpR op_ltP (pv 1) (pe_callB (cLen K) (by rfl) T.b_len (by decide +kernel) (pa_cons (pv 0) pa_nil)) (nomark _)) (pw_and1 (pw_or (pt_cmpR (opIn K) (pe_ix (ixK K) (pv 0) (pv 1) (fun _ _ => rfl)) (pe_gS [46, 103, 114, 119] T.g_SIGNS) (by with_unfolding_all rfl)) (pw_or1 (pt_cmpR (opIn K) (pe_ix (ixK K) (pv 0) (pv 1) (fun _ _ => rfl)) (pe_gS [48, 49, 50, 51, 52, 53, 54, 55, 56, 57] T.g_DIGITS) (by with_unfolding_all rfl)))).pt)).pt (pss_cons (ps_asg (pe_f R (hr.mono (by omega)) (passes_call (takes_of rfl rfl rfl rfl) (fun _ _ _ _ h => h)) (pa_cons (pv 0) (pa_cons (pv 1) (pa_cons (pv 2) pa_nil)))) (pgTup (n := 2) K rfl (pgs_cons (pg_name (i := 4) sc_read_part.nd rfl (Or.inl rfl)) (pgs_cons (pg_name (i := 1) sc_read_part.nd rfl (Or.inl rfl)) pgs_nil)))) (pss_one (ps_set (i := 3) sc_read_part.nd rfl (Or.inl rfl) (pe_f (ok_put_behind (K := K) T) (hr.mono (by omega)) pass0 (pa_cons (pv 3) (pa_cons (pv 4) pa_nil))))))) (pss_cons (ps_if (pt_cmpR (opEq K hr.units) (pe_ix (ixK K) (pv 3) pe_int (fun _ _ => rfl)) pe_int (nomark _)) (pss_one (ps_raiseP rfl (takes_of rfl rfl rfl rfl) (pmk_E (k := 0) (okx_BadText T) (hr.mono (by omega)) (pa_cons (pv 1) pa_nil)))) pss_nil) (pss_cons (ps_if (pw_and (pt_cmpR op_ltP (pv 1) (pe_callB (cLen K) (by rfl) T.b_len (by decide +kernel) (pa_cons (pv 0) pa_nil)) (nomark _)) (pw_and1 (pt_cmpR (opEq K hr.units) (pe_ix (ixK K) (pv 0) (pv 1) (fun _ _ => rfl)) (pe_S [64]) (nomark _)))).pt (pss_one (ps_ret (pe_f (ok_read_filled (K := K) T) (hr.mono (by omega)) (passes_call (takes_of rfl rfl rfl rfl) (fun _ _ _ _ h => h)) (pa_cons (pv 0) (pa_cons (pe_op (opAdd K) (pv 1) pe_int) (pa_cons (pv 3) pa_nil)))))) pss_nil) (pss_one (ps_ret (pe_tup (pa_cons (pv 3) (pa_cons (pv 1) pa_nil))))))))), ?_⟩
  show (_ : TS) { nx := fun _ H' => Q .non H', rt := Q } [some x, some y, some z, none, none] H
  obtain ⟨z, a, o, rfl, rfl, rfl, ho, hz, ha, h⟩ := h
  replace h : Out C_BadText H Q E (Fg.part (rdItem z d) z a) := h
  unfold Fg.part at h
  have gd := rdItem_gd z d
  walk_at "go"
  refine i_new (by show 2 ≤ 100000; omega) fun p0 n0 => ?_
  walk_at "go"
  refine i_cut (fun σ H' => ∃ (b : Nat) (p : Stv) (pq : Addr) (v : Option V), σ = [some (S z), some (.int (b : Int)), some (.int o), some (.ref pq), v] ∧ a ≤ b ∧ b ≤ z.length ∧ Same H H' ∧ H' pq = some (Sv p.1 p.2) ∧ Gb p (b - a) ∧
    Out C_BadText H Q E (partEnd z p b)) ?_ ?_
  · refine i_while (fun m σ H' => ∃ (f b : Nat) (p : Stv) (pq : Addr) (v : Option V), m = z.length - b ∧ σ = [some (S z), some (.int (b : Int)), some (.int o), some (.ref pq), v] ∧ a ≤ b ∧ b ≤ z.length ∧ z.length + 1 ≤ f + b ∧ Same H H' ∧ H' pq = some (Sv p.1 p.2) ∧ Gb p (b - a) ∧
      Out C_BadText H Q E (goOn (partEnd z) (items (rdItem z d) z f b p))) (z.length - a) ⟨z.length + 1 - a, a, (0, []), p0, _, rfl, rfl, Nat.le_refl _, ha, by omega, same_upd n0, upd_same, ⟨by rw [Nat.sub_self]; decide, fun _ => rfl⟩, h⟩ ?_
    rintro m σ H' ⟨f, b, p, pq, v, rfl, rfl, hab, hb, hf, s1, hp, gp, h⟩
    obtain ⟨f', rfl⟩ : ∃ f', f = f' + 1 := ⟨f - 1, by omega⟩
    unfold items at h
    walk_at "go"
    by_cases hl : b < z.length
    case neg =>
      rw [List.getElem?_eq_none (by omega)] at h
      refine i_dec (fun e => absurd (by omega) hl) (fun _ => ?_)
      walk_at "go"
      exact ⟨b, p, pq, v, rfl, hab, hb, s1, hp, gp, h⟩
    have hc : z[b]? = some z[b] := List.getElem?_eq_getElem hl
    rw [hc] at h
    generalize z[b] = c at *
    dsimp only at h
    have ixc : ∀ {H : Hp} {Q : VK}, Q (S [c]) H → ixP K (S z) (.int (b : Int)) H Q := fun k => i_ix_str (by omega) (by omega) (by rw [Int.toNat_natCast]; exact hc) k
    have turn : isStart c = true → tSeq (tAsg (tCall (sp3 (p_rdp C_BadText (fun z => rdItem z d) d)) [] E (tCons (tVar 0) (tCons (tVar 1) (tCons (tVar 2) tNil)))) (gTup K 2 (gCons (gName 4) (gCons (gName 1) gNil)))) (tAsg (tCall (sp2 p_behind) [] E0 (tCons (tVar 3) (tCons (tVar 4) tNil))) (gName 3))
        { nx := fun σ' H2 => ∃ m', m' < z.length - b ∧ ∃ (f b : Nat) (p : Stv) (pq : Addr) (v : Option V), m' = z.length - b ∧ σ' = [some (S z), some (.int (b : Int)), some (.int o), some (.ref pq), v] ∧ a ≤ b ∧ b ≤ z.length ∧ z.length + 1 ≤ f + b ∧ Same H H2 ∧ H2 pq = some (Sv p.1 p.2) ∧ Gb p (b - a) ∧ Out C_BadText H Q E (goOn (partEnd z) (items (rdItem z d) z f b p)), rt := Q }
        [some (S z), some (.int (b : Int)), some (.int o), some (.ref pq), v] H' := fun hs => by
      rw [if_pos hs] at h
      walk_at "go"
      refine ⟨z, b, o, rfl, rfl, rfl, ho, hz, hb, ?_⟩
      show Out _ _ _ _ (rdItem z d b)
      cases hr2 : rdItem z d b with
      | error k =>
        rw [hr2] at h
        exact Rz.mono h s1
      | ok se =>
        obtain ⟨s2, e2⟩ := se
        obtain ⟨g1, g2, g3, g4⟩ := gd b s2 e2 (by omega) hr2
        rw [hr2] at h
        intro p4 q4 H4 sm hq hp4
        walk_at "go"
        refine ⟨pq, q4, p.1, s2.1, p.2, s2.2, rfl, rfl, sm _ _ hp, hq, gp.2, g4.2, fun p5 n5 => ?_⟩
        walk_at "go"
        refine ⟨z.length - e2, by omega, f', e2, beh p s2, p5, _, rfl, rfl, by omega, g2, by omega, (s1.trans sm).trans (same_upd n5), upd_same, ?_, h⟩
        have := gp.beh g4
        rw [show b - a + (e2 - b) = e2 - a by omega] at this
        exact this
    have stop : isStart c = false → Out C_BadText H Q E (partEnd z p b) := fun hs => by
      rw [if_neg (by rw [hs]; decide)] at h
      exact h
    refine i_dec (fun _ => ?_) (fun e => absurd (by omega) e)
    walk_at "go"
    refine ixc ?_
    walk_at "go"
    refine i_dec (fun e1 => ?_) (fun e1 => ?_)
    · walk_at "go"
      refine i_turn ?_
      exact turn (by unfold isStart; rw [decide_eq_true e1]; rfl)
    walk_at "go"
    refine ixc ?_
    walk_at "go"
    refine i_dec (fun e2 => i_turn ?_) (fun e2 => ?_)
    · exact turn (by unfold isStart; rw [decide_eq_true e2, Bool.or_true])
    · exact ⟨b, p, pq, v, rfl, hab, hb, s1, hp, gp, stop (by unfold isStart; rw [decide_eq_false e1, decide_eq_false e2]; rfl)⟩
  · rintro σ H' ⟨b, ⟨n, l⟩, pq, v, rfl, hab, hb, s1, hp, gp, h⟩
    unfold partEnd at h
    dsimp only at h hp
    have ps : H' pq = some (.tup [.int (n : Int), if n ≤ 24 then S l else .non]) := hp
    walk_at "go"
    refine i_dec (fun e => ?_) (fun e => ?_)
    · rw [if_pos (by omega)] at h
      walk_at "go"
      intro dd nd
      exact Rz.at (Rz.mono h s1) nd
    rw [if_neg (by omega)] at h
    walk_at "go"
    have plain : Out C_BadText H Q E (.ok ((n, l), b)) → ∀ p4, H' p4 = none → Q (.ref p4) (upd H' p4 (.tup [.ref pq, .int (b : Int)])) := fun h p4 n4 =>
      h p4 pq _ (s1.trans (same_upd n4)) ((upd_ne (ne_of_none hp n4)).trans hp) upd_same
    by_cases hl : b < z.length
    case neg =>
      rw [List.getElem?_eq_none (by omega), if_neg (by simp)] at h
      refine i_dec (fun e => absurd (by omega) hl) (fun _ => ?_)
      walk_at "go"
      exact i_new (by show 2 ≤ 100000; omega) (plain h)
    have hc : z[b]? = some z[b] := List.getElem?_eq_getElem hl
    rw [hc] at h
    generalize z[b] = c at *
    refine i_dec (fun _ => ?_) (fun e => absurd (by omega) e)
    walk_at "go"
    refine i_ix_str (c := c) (by omega) (by omega) (by rw [Int.toNat_natCast]; exact hc) ?_
    walk_at "go"
    refine i_dec (fun e2 => ?_) (fun e2 => ?_)
    · rw [if_pos (by rw [(List.cons.inj e2).1])] at h
      walk_at "go"
      refine ⟨z, b + 1, pq, (n, l), rfl, by rw [Int.natCast_add]; rfl, rfl, hp, gp.2, hz, by omega, ?_⟩
      revert h
      generalize filled z (b + 1) (n, l) = r
      cases r with
      | error k => exact fun h => Rz.mono h s1
      | ok se => exact fun h p q H2 s2 => h p q H2 (s1.trans s2)
    · rw [if_neg (fun z => e2 (by rw [Option.some.inj z]))] at h
      walk_at "go"
      exact i_new (by show 2 ≤ 100000; omega) (plain h)
end
end K05
namespace K05
open PySem PySem.Spec PyProof.Rows L2 Fg
local macro_rules | `(tactic| walk_at "sq") => `(tactic| first
  | assumption
  | exact .inl (.inl (by assumption))
  | exact .inl (.inl upd_same))
local macro_rules | `(tactic| walk_at "st") => `(tactic| first
  | assumption
  | exact .inl (.inl (by assumption))
  | exact .inl (.inl upd_same))
local macro_rules | `(tactic| walk_at "o") => `(tactic| first
  | omega
  | assumption
  | (simp only [List.length_append, List.length_take, List.length_drop, List.length_cons, List.length_nil, List.length_singleton, List.length_map, List.length_range, Int.toNat_natCast] ; omega))
local macro_rules | `(tactic| walk_at "s") => `(tactic| first
  | (with_reducible refine i_seq ?_)
  | (with_reducible refine i_asg ?_)
  | ((with_reducible refine' i_var ?h1 ?_); (case h1 => rfl))
  | (with_reducible refine i_c ?_)
  | ((with_reducible refine' i_gname' ?h1 ?_); (case h1 => (simp only [List.set_cons_zero, List.set_cons_succ]; rfl)))
  | (with_reducible refine i_op ?_)
  | (with_reducible refine i_ifS ?_)
  | (with_reducible refine i_for ?_)
  | (with_reducible refine i_test ?_)
  | (with_reducible refine i_B ?_)
  | (with_reducible refine i_exbl ?_)
  | (with_reducible refine i_exint ?_)
  | (with_reducible refine i_cb ?_)
  | (with_reducible refine i_nil ?_)
  | (with_reducible refine i_cons ?_)
  | (with_reducible refine i_ret ?_)
  | (with_reducible refine i_sl ?_)
  | (with_reducible refine i_nopart ?_)
  | (with_reducible refine i_part ?_)
  | (with_reducible refine i_add_int ?_)
  | (with_reducible refine i_sub ?_)
  | (with_reducible refine i_lt ?_)
  | ((with_reducible refine' i_mod ?h1 ?_); (case h1 => walk_at "o"))
  | ((with_reducible refine' i_fdiv ?h1 ?_); (case h1 => (refine cdiv_small ?_ ?_ <;> walk_at "o")))
  | ((with_reducible refine' i_sl_to ?h1 ?h2 ?_); (case h1 => walk_at "o"); (case h2 => walk_at "o"))
  | ((with_reducible refine' i_sl_from ?h1 ?h2 ?_); (case h1 => walk_at "o"); (case h2 => walk_at "o"))
  | ((with_reducible refine' i_add_str ?h1 ?_); (case h1 => walk_at "o"))
  | ((with_reducible refine' i_mul_int ?h1 ?_); (case h1 => first | (refine mul_small ?_ ?_ <;> walk_at "o") | (refine mul_smallR ?_ ?_ <;> walk_at "o")))
  | (with_reducible refine i_le ?_)
  | (with_reducible refine i_gt ?_)
  | (with_reducible refine i_ge ?_)
  | (with_reducible refine i_eq_int ?_)
  | (with_reducible refine i_eq_str ?_)
  | (with_reducible refine i_ne_int ?_)
  | (with_reducible refine i_ne_str ?_)
  | (with_reducible refine i_eq_bl ?_)
  | (with_reducible refine i_ne_bl ?_)
  | (with_reducible refine i_in_sg ?_)
  | (with_reducible refine i_notIn_sg ?_)
  | (with_reducible refine i_call ?_)
  | (with_reducible refine i_callS ?_)
  | (with_reducible refine i_sp1 ?_)
  | (with_reducible refine i_sp2 ?_)
  | (with_reducible refine i_sp3 ?_)
  | (with_reducible refine i_sp4 ?_)
  | (with_reducible refine i_sp1' ?_)
  | (with_reducible refine i_sp2' ?_)
  | (with_reducible refine i_sp3' ?_)
  | ((with_reducible refine' i_ix_lst ?h1 ?h2 ?_); (case h1 => walk_at "sq"); (case h2 => first | exact atI_nat rfl | rfl))
  | ((with_reducible refine' i_ix_tup ?h1 ?h2 ?_); (case h1 => walk_at "st"); (case h2 => first | exact atI_nat rfl | rfl))
  | (with_reducible refine i_gsub ?_)
  | (with_reducible refine i_par ?_)
  | (with_reducible refine i_lstRg1 ?_)
  | (with_reducible refine i_app ?_)
  | (with_reducible refine i_par2 ?_)
  | ((with_reducible refine' i_aug ?h1 ?_); (case h1 => rfl))
  | (with_reducible refine i_ipI ?_)
  | ((with_reducible refine' i_gtup2 ?h1 ?_); (case h1 => walk_at "st"))
  | (with_reducible refine i_int_bl ?_)
  | (with_reducible refine i_raise ?_)
  | (with_reducible refine i_mkE ?_)
  | (with_reducible refine i_ex1 ?_)
  | (with_reducible refine i_and ?_)
  | (with_reducible refine i_or ?_)
  | (with_reducible refine i_not ?_)
  | (with_reducible refine i_tt ?_)
  | (with_reducible refine i_ff ?_)
  | (with_reducible refine i_nott ?_)
  | (with_reducible refine i_notf ?_)
  | (with_reducible refine i_andV ?_)
  | (with_reducible refine i_orV ?_)
  | (with_reducible refine i_notV ?_)
  | (with_reducible refine i_ifE ?_)
  | (with_reducible refine i_tup ?_)
  | (with_reducible refine i_lst ?_)
  | (with_reducible refine i_un ?_)
  | (with_reducible refine i_neg ?_)
  | (with_reducible refine i_chain ?_)
  | (with_reducible refine i_next ?_)
  | (with_reducible refine i_retN ?_)
  | (with_reducible refine i_drop ?_)
  | (with_reducible refine i_int_int ?_)
  | (with_reducible refine i_abs ?_)
  | (with_reducible refine i_m1c ?_)
  | (with_reducible refine i_is_non ?_)
  | (with_reducible refine i_is_int ?_)
  | (with_reducible refine i_is_bl ?_)
  | (with_reducible refine i_isn_bl ?_)
  | (with_reducible refine i_is_str ?_)
  | (with_reducible refine i_is_ref ?_)
  | (with_reducible refine i_isn_non ?_)
  | (with_reducible refine i_isn_int ?_)
  | (with_reducible refine i_isn_str ?_)
  | (with_reducible refine i_isn_ref ?_)
  | (with_reducible refine i_len_str ?h1 ?_; (case h1 => walk_at "o"))
  | (with_reducible refine i_isi_int_int ?_) | (with_reducible refine i_isi_int_bool ?_) | (with_reducible refine i_isi_int_str ?_) | (with_reducible refine i_isi_int_tuple ?_) | (with_reducible refine i_isi_int_list ?_)
  | (with_reducible refine i_isi_bl_int ?_) | (with_reducible refine i_isi_bl_bool ?_) | (with_reducible refine i_isi_bl_str ?_) | (with_reducible refine i_isi_bl_tuple ?_) | (with_reducible refine i_isi_bl_list ?_)
  | (with_reducible refine i_isi_str_int ?_) | (with_reducible refine i_isi_str_bool ?_) | (with_reducible refine i_isi_str_str ?_) | (with_reducible refine i_isi_str_tuple ?_) | (with_reducible refine i_isi_str_list ?_)
  | (with_reducible refine i_isi_non_int ?_) | (with_reducible refine i_isi_non_bool ?_) | (with_reducible refine i_isi_non_str ?_) | (with_reducible refine i_isi_non_tuple ?_) | (with_reducible refine i_isi_non_list ?_))
local macro_rules | `(tactic| walk_at "go") => `(tactic| (repeat' (walk_at "s")))
local macro_rules | `(tactic| walk_at "n") => `(tactic| simp only [wipe, List.map_cons, List.map_nil, List.set_cons_zero, List.set_cons_succ])
theorem Out.mono {C : Addr} {H H' : Hp} {Q : VK} {E : XK} {r : Res} (h : Out C H Q E r) (s : Same H H') : Out C H' Q E r := by
  cases r with
  | error k => exact Rz.mono h s
  | ok se => exact fun p q H2 s2 => h p q H2 (s.trans s2)
section
variable {P : Program} {w : World} {K : PySem.W.Frag} {mg : Str → Option Value} {base : Heap} {C_GlimError C_BadText C_TooLong : Addr}
theorem ok_read_parts (T : Txt K mg C_GlimError C_BadText C_TooLong) (d : Nat) (R : OK P w K mg base (L2.CX P w) (3 * d + 5) "read_part" ["text", "at", "opened"] (sp3 (p_rdp C_BadText (fun z => Fg.part (rdItem z d) z) d))) :
    OK P w K mg base (L2.CX P w) (3 * d + 6) "read_parts" ["text", "at", "opened"] (sp3 (PD C_BadText (d + 1))) := by
  refine OK.mkX (k := 3 * d + 5) T.d_read_parts sc_read_parts len3 fun f cdv A outer s H vs Q E hr h => ?_
  obtain ⟨x, y, z, rfl, h⟩ := h
  refine ⟨_, (pss_cons (ps_asg (pe_f R (hr.mono (by omega)) (passes_call (takes_of rfl rfl rfl rfl) (fun _ _ _ _ h => h)) (pa_cons (pv 0) (pa_cons (pv 1) (pa_cons (pv 2) pa_nil)))) (pgTup (n := 2) K rfl (pgs_cons (pg_name (i := 3) sc_read_parts.nd rfl (Or.inl rfl)) (pgs_cons (pg_name (i := 1) sc_read_parts.nd rfl (Or.inl rfl)) pgs_nil)))) (pss_cons (ps_set (i := 4) sc_read_parts.nd rfl (Or.inl rfl) (pe_lst (pa_cons (pv 3) pa_nil))) (Evl.pss_cut (ps_while (passes_of rfl) (pw_and (pt_cmpR op_ltP (pv 1) (pe_callB (cLen K) (by rfl) T.b_len (by decide +kernel) (pa_cons (pv 0) pa_nil)) (nomark _)) (pw_and1 (pt_cmpR (opEq K hr.units) (pe_ix (ixK K) (pv 0) (pv 1) (fun _ _ => rfl)) (pe_S [38]) (nomark _)))).pt (pss_cons (ps_asg (pe_f R (hr.mono (by omega)) (passes_call (takes_of rfl rfl rfl rfl) (fun _ _ _ _ h => h)) (pa_cons (pv 0) (pa_cons (pe_op (opAdd K) (pv 1) pe_int) (pa_cons (pv 2) pa_nil)))) (pgTup (n := 2) K rfl (pgs_cons (pg_name (i := 3) sc_read_parts.nd rfl (Or.inl rfl)) (pgs_cons (pg_name (i := 1) sc_read_parts.nd rfl (Or.inl rfl)) pgs_nil)))) (pss_one (ps_expr (peApp K (pv 4) (pa_cons (pv 3) pa_nil)))))) (pss_one (ps_ret (pe_tup (pa_cons (pe_f (ok_shown_together (K := K) T) (hr.mono (by omega)) pass0 (pa_cons (pv 4) pa_nil)) (pa_cons (pv 1) pa_nil)))))))), ?_⟩
  show (_ : TS) { nx := fun _ H' => Q .non H', rt := Q } [some x, some y, some z, none, none] H
  obtain ⟨z, a, o, rfl, rfl, rfl, ho, hz, ha, h⟩ := h
  replace h : Out C_BadText H Q E (rd z d a) := h
  rw [rd_eq] at h
  unfold Fg.parts at h
  have gd := part_gd (rdItem_gd z d)
  walk_at "go"
  refine ⟨z, a, o, rfl, rfl, rfl, ho, hz, ha, ?_⟩
  show Out _ _ _ _ (Fg.part (rdItem z d) z a)
  cases hr1 : Fg.part (rdItem z d) z a with
  | error k =>
    rw [hr1] at h
    exact h
  | ok se =>
  obtain ⟨s1, e1⟩ := se
  obtain ⟨g1, g2, g3, g4⟩ := gd a s1 e1 ha hr1
  rw [hr1] at h
  intro p1 q1 H1 sm1 hq1 hp1
  walk_at "go"
  refine i_new (by show 1 ≤ 100000; omega) fun Dl nD => ?_
  walk_at "go"
  have nD0 := sm1.free nD
  refine i_cut (fun σ H' => ∃ (b : Nat) (ps : List Stv) (qs : List Addr) (v : Option V), σ = [some (S z), some (.int (b : Int)), some (.int o), v, some (.ref Dl)] ∧ a ≤ b ∧ b ≤ z.length ∧ Same H H' ∧ H' Dl = some (.lst (qs.map V.ref)) ∧ PartsAt H' qs ps ∧ ps.length ≤ b ∧ Gps ps (b - a) ∧
    Out C_BadText H Q E (.ok (shown ps, b))) ?_ ?_
  · refine i_while (fun m σ H' => ∃ (f b : Nat) (ps : List Stv) (qs : List Addr) (v : Option V), m = z.length - b ∧ σ = [some (S z), some (.int (b : Int)), some (.int o), v, some (.ref Dl)] ∧ a ≤ b ∧ b ≤ z.length ∧ z.length + 1 ≤ f + b ∧ Same H H' ∧ H' Dl = some (.lst (qs.map V.ref)) ∧ PartsAt H' qs ps ∧ ps.length ≤ b ∧ Gps ps (b - a) ∧
      Out C_BadText H Q E (more (Fg.part (rdItem z d) z) z f b ps)) (z.length - e1) ⟨z.length + 1 - e1, e1, [s1], [q1], _, rfl, rfl, by omega, g2, by omega, Same.upd sm1 nD0, upd_same, ⟨rfl, ?_⟩, by show 1 ≤ e1; omega, Gps.one g3 g4, h⟩ ?_
    · intro i q p h1 h2
      match i, h1, h2 with
      | 0, h1, h2 => cases h1; cases h2; exact (upd_ne (ne_of_none hq1 nD)).trans hq1
    rintro m σ H' ⟨f, b, ps, qs, v, rfl, rfl, hab, hb, hf, sm, hD, hP, hL, gp, h⟩
    obtain ⟨f', rfl⟩ : ∃ f', f = f' + 1 := ⟨f - 1, by omega⟩
    unfold more at h
    walk_at "go"
    by_cases hl : b < z.length
    case neg =>
      rw [List.getElem?_eq_none (by omega), if_neg (by simp)] at h
      refine i_dec (fun e => absurd (by omega) hl) (fun _ => ?_)
      walk_at "go"
      exact ⟨b, ps, qs, v, rfl, hab, hb, sm, hD, hP, hL, gp, h⟩
    have hc : z[b]? = some z[b] := List.getElem?_eq_getElem hl
    rw [hc] at h
    generalize z[b] = c at *
    refine i_dec (fun _ => ?_) (fun e => absurd (by omega) e)
    walk_at "go"
    refine i_ix_str (c := c) (by omega) (by omega) (by rw [Int.toNat_natCast]; exact hc) ?_
    walk_at "go"
    refine i_dec (fun e2 => i_turn ?_) (fun e2 => ?_)
    · rw [if_pos (by rw [(List.cons.inj e2).1])] at h
      walk_at "go"
      refine ⟨z, b + 1, o, rfl, by rw [Int.natCast_add]; rfl, rfl, ho, hz, by omega, ?_⟩
      show Out _ _ _ _ (Fg.part (rdItem z d) z (b + 1))
      cases hr2 : Fg.part (rdItem z d) z (b + 1) with
      | error k =>
        rw [hr2] at h
        exact Rz.mono h sm
      | ok se =>
        obtain ⟨s2, e2⟩ := se
        obtain ⟨g5, g6, g7, g8⟩ := gd (b + 1) s2 e2 (by omega) hr2
        rw [hr2] at h
        intro p2 q2 H2 sm2 hq2 hp2
        walk_at "go"
        have hD2 := sm2 _ _ hD
        refine i_appAt hD2 ?_
        walk_at "go"
        have hlen := hP.1
        refine i_appEnd hD2 (by rw [List.length_map]; omega) ?_
        refine ⟨z.length - e2, by omega, f', e2, ps ++ [s2], qs ++ [q2], _, rfl, rfl, by omega, g6, by omega, Same.upd (sm.trans sm2) nD0, ?_, ⟨by rw [List.length_append, List.length_append, hlen]; rfl, ?_⟩, by rw [List.length_append]; show ps.length + 1 ≤ e2; omega, ?_, h⟩
        · rw [upd_same, List.map_append]; rfl
        · intro i q p h1 h2
          have key : H2 q = some (Sv p.1 p.2) := by
            by_cases hi : i < qs.length
            · rw [List.getElem?_append_left hi] at h1
              rw [List.getElem?_append_left (by omega)] at h2
              exact sm2 _ _ (hP.2 i q p h1 h2)
            · rw [List.getElem?_append_right (by omega)] at h1
              rw [List.getElem?_append_right (by omega)] at h2
              have e0 : i - qs.length = 0 := by
                have := (List.getElem?_eq_some_iff.mp h1).1
                rw [List.length_singleton] at this
                omega
              rw [e0] at h1
              rw [show i - ps.length = 0 by omega] at h2
              cases h1; cases h2
              exact hq2
          rw [upd_ne (fun e => by rw [e, hD2] at key; cases key)]
          exact key
        · exact (gp.snoc g7 g8).mono (by omega)
    · rw [if_neg (fun z => e2 (by rw [Option.some.inj z]))] at h
      exact ⟨b, ps, qs, v, rfl, hab, hb, sm, hD, hP, hL, gp, h⟩
  · rintro σ H' ⟨b, ps, qs, v, rfl, hab, hb, sm, hD, hP, hL, gp, h⟩
    walk_at "go"
    refine ⟨Dl, qs, ps, rfl, .inl (.inl hD), hP, by omega, gp.2, gp.big (by omega), fun p H3 s3 h3 => ?_⟩
    walk_at "go"
    refine i_new (by show 2 ≤ 100000; omega) fun p4 n4 => ?_
    exact h p4 p _ ((sm.trans s3).trans (same_upd n4)) ((upd_ne (ne_of_none h3 n4)).trans h3) upd_same
theorem parts_all (T : Txt K mg C_GlimError C_BadText C_TooLong) : ∀ d, OK P w K mg base (L2.CX P w) (3 * d + 3) "read_parts" ["text", "at", "opened"] (sp3 (PD C_BadText d))
  | 0 => by
    refine OK.mkX (k := 2) T.d_read_parts sc_read_parts len3 fun f cdv A outer s H vs Q E hr h => ?_
    obtain ⟨x, y, u, rfl, h⟩ := h
    exact h.elim
  | d + 1 => ok_read_parts T d (ok_read_part T d (ok_read_item T d (parts_all T d)))
/-- the whole text -/
def OutR (C CT : Addr) (H : Hp) (Q : VK) (E : XK) (z : List Nat) : Prop :=
  match rd z 6 0 with
  | .error k => Rz E H C "at" (.int (k : Int))
  | .ok (s, e) => if e < z.length then Rz E H C "at" (.int (e : Int)) else if 24 < s.1 then Rz E H CT "number" (.int (s.1 : Int)) else ∀ H', Same H H' → Q (S s.2) H'
def p_round (C CT : Addr) : P1 := fun x H Q E => (∃ z : List Nat, x = S z ∧ z.length ≤ 1700 ∧ OutR C CT H Q E z) ∨ (NoStr H x ∧ Rz E H C "at" (.int (-1)))
theorem ok_read_round (T : Txt K mg C_GlimError C_BadText C_TooLong) : OK P w K mg base (L2.CX P w) 25 "read_round" ["text"] (sp1  (p_round C_BadText C_TooLong)) := by
  refine OK.mkX (k := 24) T.d_read_round sc_read_round len1 fun f cdv A outer s H vs Q E hr h => ?_
  obtain ⟨x, rfl, h⟩ := h
  refine ⟨_, (pss_cons (ps_if (pt_not (pt_val (pe_callB (cIsi K) (by rfl) T.b_isinstance (by decide +kernel) (pa_cons (pv 0) (pa_cons (pe_bltn (v := .ty "str") (by rfl) T.b_str (by decide +kernel) rfl) pa_nil))))) (pss_one (ps_raiseP rfl (takes_of rfl rfl rfl rfl) (pmk_E (k := 0) (okx_BadText T) (hr.mono (by decide)) (pa_cons (pe_un un_neg pe_int) pa_nil)))) pss_nil) (pss_cons (ps_asg (pe_f (parts_all (K := K) T 7) (hr.mono (by decide)) (passes_call (takes_of rfl rfl rfl rfl) (fun _ _ _ _ h => h)) (pa_cons (pv 0) (pa_cons pe_int (pa_cons pe_int pa_nil)))) (pgTup (n := 2) K rfl (pgs_cons (pg_name (i := 1) sc_read_round.nd rfl (Or.inl rfl)) (pgs_cons (pg_name (i := 2) sc_read_round.nd rfl (Or.inl rfl)) pgs_nil)))) (pss_cons (ps_if (pt_cmpR op_ltP (pv 2) (pe_callB (cLen K) (by rfl) T.b_len (by decide +kernel) (pa_cons (pv 0) pa_nil)) (nomark _)) (pss_one (ps_raiseP rfl (takes_of rfl rfl rfl rfl) (pmk_E (k := 0) (okx_BadText T) (hr.mono (by decide)) (pa_cons (pv 2) pa_nil)))) pss_nil) (pss_cons (ps_if (pt_cmpR op_gtP (pe_ix (ixK K) (pv 1) pe_int (fun _ _ => rfl)) (pe_gI 24 T.g_MOST_ROUND) (nomark _)) (pss_one (ps_raiseP rfl (takes_of rfl rfl rfl rfl) (pmk_E (k := 0) (okx_TooLong T) (hr.mono (by decide)) (pa_cons (pe_ix (ixK K) (pv 1) pe_int (fun _ _ => rfl)) pa_nil)))) pss_nil) (pss_one (ps_ret (pe_ix (ixK K) (pv 1) pe_int (fun _ _ => rfl)))))))), ?_⟩
  show (_ : TS) { nx := fun _ H' => Q .non H', rt := Q } [some x, none, none] H
  rcases h with ⟨z, rfl, hz, h⟩ | ⟨h, hr⟩
  · unfold OutR at h
    walk_at "go"
    refine ⟨z, 0, 0, rfl, rfl, rfl, by decide, hz, by omega, ?_⟩
    show Out _ _ _ _ (rd z 6 0)
    cases hr1 : rd z 6 0 with
    | error k =>
      rw [hr1] at h
      exact h
    | ok se =>
    obtain ⟨⟨n, l⟩, e⟩ := se
    obtain ⟨g1, g2, g3, g4⟩ := rd_gd z 6 0 (n, l) e (by omega) hr1
    rw [hr1] at h
    dsimp only at h g3
    intro p q H1 sm hq hp
    have ps : H1 q = some (.tup [.int (n : Int), if n ≤ 24 then S l else .non]) := hq
    walk_at "go"
    refine i_dec (fun e1 => ?_) (fun e1 => ?_)
    · rw [if_pos (by omega)] at h
      walk_at "go"
      intro dd nd
      exact Rz.at (Rz.mono h sm) nd
    rw [if_neg (by omega)] at h
    walk_at "go"
    refine i_dec (fun e2 => ?_) (fun e2 => ?_)
    · rw [if_pos (by omega)] at h
      walk_at "go"
      intro dd nd
      exact Rz.at (Rz.mono h sm) nd
    · rw [if_neg (by omega)] at h
      walk_at "go"
      rw [if_pos (by omega)]
      exact h H1 sm
  · rcases h with rfl | ⟨b, rfl⟩ | ⟨i, rfl⟩ | ⟨a, xs, rfl, h | h⟩
    · walk_at "go"
      intro dd nd
      exact Rz.at hr nd
    · walk_at "go"
      intro dd nd
      exact Rz.at hr nd
    · walk_at "go"
      intro dd nd
      exact Rz.at hr nd
    · walk_at "go"
      refine i_isi_tup_str h ?_
      walk_at "go"
      intro dd nd
      exact Rz.at hr nd
    · walk_at "go"
      refine i_isi_lst_str h ?_
      walk_at "go"
      intro dd nd
      exact Rz.at hr nd
end
end K05
namespace K05
open PySem PySem.Spec PyProof.Rows L2 Fg
local macro_rules | `(tactic| walk_at "sq") => `(tactic| first
  | assumption
  | exact .inl (.inl (by assumption))
  | exact .inl (.inl upd_same))
local macro_rules | `(tactic| walk_at "st") => `(tactic| first
  | assumption
  | exact .inl (.inl (by assumption))
  | exact .inl (.inl upd_same))
local macro_rules | `(tactic| walk_at "o") => `(tactic| first
  | omega
  | assumption
  | (simp only [List.length_append, List.length_take, List.length_drop, List.length_cons, List.length_nil, List.length_singleton, List.length_map, List.length_range, Int.toNat_natCast] ; omega))
local macro_rules | `(tactic| walk_at "s") => `(tactic| first
  | (with_reducible refine i_seq ?_)
  | (with_reducible refine i_asg ?_)
  | ((with_reducible refine' i_var ?h1 ?_); (case h1 => rfl))
  | (with_reducible refine i_c ?_)
  | ((with_reducible refine' i_gname' ?h1 ?_); (case h1 => (simp only [List.set_cons_zero, List.set_cons_succ]; rfl)))
  | (with_reducible refine i_op ?_)
  | (with_reducible refine i_ifS ?_)
  | (with_reducible refine i_for ?_)
  | (with_reducible refine i_test ?_)
  | (with_reducible refine i_B ?_)
  | (with_reducible refine i_exbl ?_)
  | (with_reducible refine i_exint ?_)
  | (with_reducible refine i_cb ?_)
  | (with_reducible refine i_nil ?_)
  | (with_reducible refine i_cons ?_)
  | (with_reducible refine i_ret ?_)
  | (with_reducible refine i_sl ?_)
  | (with_reducible refine i_nopart ?_)
  | (with_reducible refine i_part ?_)
  | (with_reducible refine i_add_int ?_)
  | (with_reducible refine i_sub ?_)
  | (with_reducible refine i_lt ?_)
  | ((with_reducible refine' i_mod ?h1 ?_); (case h1 => walk_at "o"))
  | ((with_reducible refine' i_fdiv ?h1 ?_); (case h1 => (refine cdiv_small ?_ ?_ <;> walk_at "o")))
  | ((with_reducible refine' i_sl_to ?h1 ?h2 ?_); (case h1 => walk_at "o"); (case h2 => walk_at "o"))
  | ((with_reducible refine' i_sl_from ?h1 ?h2 ?_); (case h1 => walk_at "o"); (case h2 => walk_at "o"))
  | ((with_reducible refine' i_add_str ?h1 ?_); (case h1 => walk_at "o"))
  | ((with_reducible refine' i_mul_int ?h1 ?_); (case h1 => first | (refine mul_small ?_ ?_ <;> walk_at "o") | (refine mul_smallR ?_ ?_ <;> walk_at "o")))
  | (with_reducible refine i_le ?_)
  | (with_reducible refine i_gt ?_)
  | (with_reducible refine i_ge ?_)
  | (with_reducible refine i_eq_int ?_)
  | (with_reducible refine i_eq_str ?_)
  | (with_reducible refine i_ne_int ?_)
  | (with_reducible refine i_ne_str ?_)
  | (with_reducible refine i_eq_bl ?_)
  | (with_reducible refine i_ne_bl ?_)
  | (with_reducible refine i_in_sg ?_)
  | (with_reducible refine i_notIn_sg ?_)
  | (with_reducible refine i_call ?_)
  | (with_reducible refine i_callS ?_)
  | (with_reducible refine i_sp1 ?_)
  | (with_reducible refine i_sp2 ?_)
  | (with_reducible refine i_sp3 ?_)
  | (with_reducible refine i_sp4 ?_)
  | (with_reducible refine i_sp1' ?_)
  | (with_reducible refine i_sp2' ?_)
  | (with_reducible refine i_sp3' ?_)
  | ((with_reducible refine' i_ix_lst ?h1 ?h2 ?_); (case h1 => walk_at "sq"); (case h2 => first | exact atI_nat rfl | rfl))
  | ((with_reducible refine' i_ix_tup ?h1 ?h2 ?_); (case h1 => walk_at "st"); (case h2 => first | exact atI_nat rfl | rfl))
  | (with_reducible refine i_gsub ?_)
  | (with_reducible refine i_par ?_)
  | (with_reducible refine i_lstRg1 ?_)
  | (with_reducible refine i_app ?_)
  | (with_reducible refine i_par2 ?_)
  | ((with_reducible refine' i_aug ?h1 ?_); (case h1 => rfl))
  | (with_reducible refine i_ipI ?_)
  | ((with_reducible refine' i_gtup2 ?h1 ?_); (case h1 => walk_at "st"))
  | (with_reducible refine i_int_bl ?_)
  | (with_reducible refine i_raise ?_)
  | (with_reducible refine i_mkE ?_)
  | (with_reducible refine i_ex1 ?_)
  | (with_reducible refine i_and ?_)
  | (with_reducible refine i_or ?_)
  | (with_reducible refine i_not ?_)
  | (with_reducible refine i_tt ?_)
  | (with_reducible refine i_ff ?_)
  | (with_reducible refine i_nott ?_)
  | (with_reducible refine i_notf ?_)
  | (with_reducible refine i_andV ?_)
  | (with_reducible refine i_orV ?_)
  | (with_reducible refine i_notV ?_)
  | (with_reducible refine i_ifE ?_)
  | (with_reducible refine i_tup ?_)
  | (with_reducible refine i_lst ?_)
  | (with_reducible refine i_un ?_)
  | (with_reducible refine i_neg ?_)
  | (with_reducible refine i_chain ?_)
  | (with_reducible refine i_next ?_)
  | (with_reducible refine i_retN ?_)
  | (with_reducible refine i_drop ?_)
  | (with_reducible refine i_int_int ?_)
  | (with_reducible refine i_abs ?_)
  | (with_reducible refine i_m1c ?_)
  | (with_reducible refine i_is_non ?_)
  | (with_reducible refine i_is_int ?_)
  | (with_reducible refine i_is_bl ?_)
  | (with_reducible refine i_isn_bl ?_)
  | (with_reducible refine i_is_str ?_)
  | (with_reducible refine i_is_ref ?_)
  | (with_reducible refine i_isn_non ?_)
  | (with_reducible refine i_isn_int ?_)
  | (with_reducible refine i_isn_str ?_)
  | (with_reducible refine i_isn_ref ?_)
  | (with_reducible refine i_len_str ?h1 ?_; (case h1 => walk_at "o"))
  | (with_reducible refine i_isi_int_int ?_) | (with_reducible refine i_isi_int_bool ?_) | (with_reducible refine i_isi_int_str ?_) | (with_reducible refine i_isi_int_tuple ?_) | (with_reducible refine i_isi_int_list ?_)
  | (with_reducible refine i_isi_bl_int ?_) | (with_reducible refine i_isi_bl_bool ?_) | (with_reducible refine i_isi_bl_str ?_) | (with_reducible refine i_isi_bl_tuple ?_) | (with_reducible refine i_isi_bl_list ?_)
  | (with_reducible refine i_isi_str_int ?_) | (with_reducible refine i_isi_str_bool ?_) | (with_reducible refine i_isi_str_str ?_) | (with_reducible refine i_isi_str_tuple ?_) | (with_reducible refine i_isi_str_list ?_)
  | (with_reducible refine i_isi_non_int ?_) | (with_reducible refine i_isi_non_bool ?_) | (with_reducible refine i_isi_non_str ?_) | (with_reducible refine i_isi_non_tuple ?_) | (with_reducible refine i_isi_non_list ?_))
local macro_rules | `(tactic| walk_at "go") => `(tactic| (repeat' (walk_at "s")))
local macro_rules | `(tactic| walk_at "n") => `(tactic| simp only [wipe, List.map_cons, List.map_nil, List.set_cons_zero, List.set_cons_succ])
theorem filter_getD {α β : Type} (xs : List α) (d : α) (g : α → Bool) (h : α → β) : ((List.range xs.length).filter fun j => g (xs.getD j d)).map (fun j => h (xs.getD j d)) = (xs.filter g).map h := by
  have e : (List.range xs.length).map (fun j => xs.getD j d) = xs := by
    have := range_getD_map xs d id
    simpa using this
  have e2 : (xs.filter g).map h = (((List.range xs.length).map (fun j => xs.getD j d)).filter g).map h := by rw [e]
  rw [e2, List.filter_map, List.map_map]
  rfl
theorem head_lit (cs : List Nat) : ((cs.filter fun c => decide (c ≠ 46)) ++ [46])[0]? = some (firstLit cs) := by
  induction cs with
  | nil => rfl
  | cons c r ih =>
    by_cases h : c = 46
    · rw [List.filter_cons_of_neg (by simpa using h), ih]
      unfold firstLit
      conv => rhs; unfold firstLit
      rw [if_pos h]
    · rw [List.filter_cons_of_pos (by simpa using h)]
      unfold firstLit
      rw [if_neg h]
      rfl
section
variable {P : Program} {w : World} {K : PySem.W.Frag} {mg : Str → Option Value} {base : Heap} {C_GlimError C_BadText C_TooLong : Addr}
theorem ok_L_common (T : Txt K mg C_GlimError C_BadText C_TooLong) : OK P w K mg base CX0 1 "_law_common" ["_law_one", "_law_two"] (sp2  p_common) := by
  refine OK.mk (k := 0) T.d_L_common sc_L_common len2 fun f cdv A outer s H vs Q E hr h => ?_
  obtain ⟨x, y, rfl, h⟩ := h
  refine ⟨_, (pss_cons (ps_set (i := 2) sc_L_common.nd rfl (Or.inl rfl) (pv 0)) (pss_cons (ps_set (i := 3) sc_L_common.nd rfl (Or.inl rfl) (pv 1)) (pss_cons (ps_while PassesOwn.never (pt_cmpR op_gtP (pv 3) pe_int (nomark _)) (pss_cons (ps_set (i := 4) sc_L_common.nd rfl (Or.inl rfl) (pe_op op_modP (pe_callTy call_intP (by rfl) T.b_int (by decide +kernel) (pa_cons (pv 2) pa_nil)) (pv 3))) (pss_cons (ps_set (i := 2) sc_L_common.nd rfl (Or.inl rfl) (pv 3)) (pss_one (ps_set (i := 3) sc_L_common.nd rfl (Or.inl rfl) (pv 4)))))) (pss_one (ps_ret (pe_op op_mulP (pe_op op_fdivP (pv 0) (pv 2)) (pv 1))))))), ?_⟩
  show (_ : TS) { nx := fun _ H' => Q .non H', rt := Q } [some x, some y, none, none, none] H
  obtain ⟨a, b, rfl, rfl, a1, b1, a2, b2, q⟩ := h
  walk_at "go"
  refine i_while (fun m σ H' => ∃ (n : Nat) (v : Option V), σ = [some (.int (a : Int)), some (.int (b : Int)), some (.int (n : Int)), some (.int (m : Int)), v] ∧ H' = H ∧ 1 ≤ n ∧ Nat.gcd n m = Nat.gcd a b) b ⟨a, _, rfl, rfl, a1, rfl⟩ ?_
  rintro m σ H' ⟨n, v, rfl, rfl, n1, hg⟩
  walk_at "go"
  refine i_dec (fun e => i_turn ?_) (fun e => ?_)
  · walk_at "go"
    refine ⟨n % m, Nat.mod_lt _ (by omega), m, some (.int ((n : Int) % (m : Int))), ?_, rfl, by omega, ?_⟩
    · show [_, _, _, some (V.int ((n : Int) % (m : Int))), _] = _
      rw [← Int.natCast_emod]
    · rw [← hg, Nat.gcd_comm m, ← Nat.gcd_rec, Nat.gcd_comm]
  · have e0 : m = 0 := by omega
    subst e0
    rw [Nat.gcd_zero_right] at hg
    subst hg
    have g1 : Nat.gcd a b ≤ a := Nat.gcd_le_left _ (by omega)
    have g2 : 1 ≤ Nat.gcd a b := Nat.gcd_pos_of_pos_left _ a1
    have g3 : Big (Nat.gcd a b) := a2.le g1
    walk_at "go"
    refine i_fdiv (g3.div (by omega)) ?_
    walk_at "go"
    rw [← Int.natCast_ediv]
    refine i_mul_int ((a2.le (Nat.div_le_self _ _)).mul b2) ?_
    have e : ((a / Nat.gcd a b : Nat) : Int) * (b : Int) = ((Nat.lcm a b : Nat) : Int) := by
      rw [← Int.natCast_mul]
      congr 1
      unfold Nat.lcm
      rw [Nat.mul_comm (a / _), ← Nat.mul_div_assoc _ (Nat.gcd_dvd_left a b), Nat.mul_comm]
    rw [e]
    exact q
theorem ok_L_behind (T : Txt K mg C_GlimError C_BadText C_TooLong) : OK P w K mg base CX0 1 "_law_behind" ["_law_one", "_law_two"] (sp2  p_behind) := by
  refine OK.mk (k := 0) T.d_L_behind sc_L_behind len2 fun f cdv A outer s H vs Q E hr h => ?_
  obtain ⟨x, y, rfl, h⟩ := h
  refine ⟨_, (pss_cons (ps_set (i := 2) sc_L_behind.nd rfl (Or.inl rfl) (pe_op (opAdd K) (pe_ix (ixK K) (pv 0) pe_int (fun _ _ => rfl)) (pe_ix (ixK K) (pv 1) pe_int (fun _ _ => rfl)))) (pss_cons (ps_if (pt_cmpR op_gtP (pv 2) pe_int (nomark _)) (pss_one (ps_ret (pe_tup (pa_cons (pv 2) (pa_cons pe_non pa_nil))))) pss_nil) (pss_one (ps_ret (pe_tup (pa_cons (pv 2) (pa_cons (pe_op (opAdd K) (pe_ix (ixK K) (pv 0) pe_int (fun _ _ => rfl)) (pe_ix (ixK K) (pv 1) pe_int (fun _ _ => rfl))) pa_nil))))))), ?_⟩
  show (_ : TS) { nx := fun _ H' => Q .non H', rt := Q } [some x, some y, none] H
  obtain ⟨a, b, n, m, r, s', rfl, rfl, ha, hb, hr, hs, q⟩ := h
  walk_at "go"
  have e : (n : Int) + (m : Int) = ((n + m : Nat) : Int) := (Int.natCast_add _ _).symm
  rw [e]
  unfold Sv at q
  walk_at "go"
  refine i_dec (fun e => ?_) (fun e => ?_)
  · walk_at "go"
    refine i_new (by show 2 ≤ 100000; omega) fun p np => ?_
    rw [if_neg (by omega)] at q
    exact q p np
  · walk_at "go"
    have hn : n ≤ 24 := by omega
    have hm : m ≤ 24 := by omega
    rw [if_pos hn, if_pos hm]
    refine i_add_str (by rw [hr hn, hs hm]; omega) ?_
    walk_at "go"
    refine i_new (by show 2 ≤ 100000; omega) fun p np => ?_
    rw [if_pos (by omega)] at q
    exact q p np
theorem ok_L_often (T : Txt K mg C_GlimError C_BadText C_TooLong) : OK P w K mg base CX0 1 "_law_often" ["_law_one", "_law_times_here"] (sp2  p_repeated) := by
  refine OK.mk (k := 0) T.d_L_often sc_L_often len2 fun f cdv A outer s H vs Q E hr h => ?_
  obtain ⟨x, y, rfl, h⟩ := h
  refine ⟨_, (pss_cons (ps_set (i := 2) sc_L_often.nd rfl (Or.inl rfl) (pe_op op_mulP (pe_ix (ixK K) (pv 0) pe_int (fun _ _ => rfl)) (pv 1))) (pss_cons (ps_if (pt_cmpR op_gtP (pv 2) pe_int (nomark _)) (pss_one (ps_ret (pe_tup (pa_cons (pv 2) (pa_cons pe_non pa_nil))))) pss_nil) (pss_one (ps_ret (pe_tup (pa_cons (pv 2) (pa_cons (pe_op op_mulP (pe_ix (ixK K) (pv 0) pe_int (fun _ _ => rfl)) (pv 1)) pa_nil))))))), ?_⟩
  show (_ : TS) { nx := fun _ H' => Q .non H', rt := Q } [some x, some y, none] H
  obtain ⟨a, n, r, t, rfl, rfl, ha, n1, hr, t1, t2, q⟩ := h
  walk_at "go"
  have e : (n : Int) * (t : Int) = ((n * t : Nat) : Int) := (Int.natCast_mul _ _).symm
  rw [e]
  have nt : n ≤ n * t := Nat.le_mul_of_pos_right _ t1
  have tt : t ≤ n * t := Nat.le_mul_of_pos_left _ n1
  unfold Sv at q
  generalize hm : n * t = m at *
  walk_at "go"
  refine i_dec (fun e => ?_) (fun e => ?_)
  · walk_at "go"
    refine i_new (by show 2 ≤ 100000; omega) fun p np => ?_
    rw [if_neg (by omega)] at q
    exact q p np
  · walk_at "go"
    have hn : n ≤ 24 := by omega
    rw [if_pos hn]
    refine i_mul_str ⟨by rw [hr hn]; omega, by omega⟩ ?_
    walk_at "go"
    refine i_new (by show 2 ≤ 100000; omega) fun p np => ?_
    rw [if_pos (by omega)] at q
    exact q p np
theorem ok_L_together (T : Txt K mg C_GlimError C_BadText C_TooLong) : OK P w K mg base CX0 2 "_law_together" ["_law_parts"] (sp1  (p_shown K)) := by
  refine OK.mk (k := 1) T.d_L_together sc_L_together len1 fun f cdv A outer s H vs Q E hr h => ?_
  obtain ⟨x, rfl, h⟩ := h
  refine ⟨_, (pss_cons (ps_set (i := 1) sc_L_together.nd rfl (Or.inl rfl) pe_int) (pss_cons (ps_for PassesOwn.never rfl (piAny K (pv 0)) (pg_name (i := 2) sc_L_together.nd rfl (Or.inl rfl)) (pss_one (ps_set (i := 1) sc_L_together.nd rfl (Or.inl rfl) (pe_f (ok_L_common (K := K) T) (hr.mono (by decide)) pass0 (pa_cons (pv 1) (pa_cons (pe_ix (ixK K) (pv 2) pe_int (fun _ _ => rfl)) pa_nil)))))) (pss_cons (ps_if (pt_cmpR op_gtP (pv 1) pe_int (nomark _)) (pss_one (ps_ret (pe_tup (pa_cons (pv 1) (pa_cons pe_non pa_nil))))) pss_nil) (pss_cons (ps_set (i := 3) sc_L_together.nd rfl (Or.inl rfl) (pe_S [])) (pss_cons (ps_for PassesOwn.never rfl (pi_range1 rfl T.b_range (pa_cons (pv 1) pa_nil)) (pg_name (i := 4) sc_L_together.nd rfl (Or.inr rfl)) (pss_cons (ps_setLc (i := 5) (own := [("_law_part", 2)]) (g := gName 2) (by rfl) sc_L_together.nd rfl rfl (sw_true rfl rfl rfl (by decide +kernel)) (piAny K (pv 0)) (blkOk_by (own := [("_law_part", 2)]) (N := ["_law_parts", "_law_many", "_law_part", "_law_row", "_law_spot", "_law_lit"]) (sc := (defScope s_L_together)) (by decide +kernel)) (fun _ _ _ _ _ => (pg_name (i := 2) sc_L_together.nd rfl (Or.inl rfl))) (fun _ _ _ _ _ => (pts_one (pt_cmpR (opNe K hr.units) (pe_ix (ixK K) (pe_ix (ixK K) (pv 2) pe_int (fun _ _ => rfl)) (pe_op op_modP (pe_callTy call_intP (by rfl) T.b_int (by decide +kernel) (pa_cons (pv 4) pa_nil)) (pe_ix (ixK K) (pv 2) pe_int (fun _ _ => rfl))) (fun _ _ => rfl)) (pe_S [46]) (nomark _)))) (fun _ _ _ _ _ => (pe_ix (ixK K) (pe_ix (ixK K) (pv 2) pe_int (fun _ _ => rfl)) (pe_op op_modP (pe_callTy call_intP (by rfl) T.b_int (by decide +kernel) (pa_cons (pv 4) pa_nil)) (pe_ix (ixK K) (pv 2) pe_int (fun _ _ => rfl))) (fun _ _ => rfl)))) (pss_one (ps_set (i := 3) sc_L_together.nd rfl (Or.inl rfl) (pe_op (opAdd K) (pv 3) (pe_ix (ixK K) (pe_op (opAdd K) (pv 5) (pe_lst (pa_cons (pe_S [46]) pa_nil))) pe_int (fun _ _ => rfl))))))) (pss_one (ps_ret (pe_tup (pa_cons (pv 1) (pa_cons (pv 3) pa_nil)))))))))), ?_⟩
  show (_ : TS) { nx := fun _ H' => Q .non H', rt := Q } [some x, none, none, none, none, none] H
  obtain ⟨a, qs, ps, rfl, ha, ⟨hlen, hat⟩, h100, hok, hsm, q⟩ := h
  walk_at "go"
  refine i_forL ha (fun i σ H' => ∃ v, σ = [some (.ref a), some (.int ((lcmL (ps.take i) : Nat) : Int)), v, none, none, none] ∧ H' = H) ⟨_, rfl, rfl⟩ ?_ ?_ ?_
  · rintro i σ H' _ ⟨v, rfl, rfl⟩
    exact ha
  · rintro i x σ H' hi ⟨v, rfl, rfl⟩
    rw [List.getElem?_map] at hi
    obtain ⟨qa, hqa, rfl⟩ := Option.map_eq_some_iff.mp hi
    obtain ⟨hl, e⟩ := List.getElem?_eq_some_iff.mp hqa
    have hp : ps[i]? = some ps[i] := List.getElem?_eq_getElem (by omega)
    have hq := hat i qa _ hqa hp
    have ok := hok _ (List.mem_of_getElem? hp)
    have e2 : ps.take (i + 1) = ps.take i ++ [ps[i]] := by rw [List.take_succ, hp]; rfl
    walk_at "go"
    refine ⟨lcmL (ps.take i), ps[i].1, rfl, rfl, lcmL_pos fun p hp => (hok p (List.mem_of_mem_take hp)).1, ok.1, hsm.le (lcmL_take (fun p hp => (hok p hp).1) i), hsm.le (Nat.le_of_dvd (lcmL_pos fun p hp => (hok p hp).1) (dvd_lcmL (List.mem_of_getElem? hp))), ?_⟩
    rw [← lcmL_snoc, ← e2]
    walk_at "go"
    exact ⟨_, rfl, rfl⟩
  · rintro σ H' ⟨v, rfl, rfl⟩
    rw [List.length_map, hlen, List.take_length]
    clear hsm
    have hL1 : 1 ≤ lcmL ps := lcmL_pos fun p hp => (hok p hp).1
    have hdv : ∀ p ∈ ps, p.1 ∣ lcmL ps := fun p hp => dvd_lcmL hp
    unfold Sv at q
    generalize lcmL ps = L at *
    walk_at "go"
    refine i_dec (fun e => ?_) (fun e => ?_)
    · walk_at "go"
      refine i_new (by show 2 ≤ 100000; omega) fun p np => ?_
      rw [if_neg (by omega)] at q
      exact q p _ (same_upd np) upd_same
    have hL : L ≤ 24 := by omega
    rw [if_pos hL] at q
    walk_at "go"
    refine f_rng1 L (fun R k => by walk_at "go"; exact k) (by omega) (fun i σ H2 => ∃ v4 v5, σ = [some (.ref a), some (.int (L : Int)), v, some (S ((showN ps L).take i)), v4, v5] ∧ Same H' H2) ⟨_, _, rfl, Same.refl H'⟩ ?_ ?_
    · rintro i σ H2 hi ⟨v4, v5, rfl, s2⟩
      walk_at "go"
      -- the signs shown at this beat
      have sign : ∀ j < ps.length, (ps.getD j (1, [])).1 ≤ L ∧ 1 ≤ (ps.getD j (1, [])).1 ∧ (ps.getD j (1, [])).2.length = (ps.getD j (1, [])).1 ∧ ∀ qa, qs[j]? = some qa → H' qa = some (.tup [.int ((ps.getD j (1, [])).1 : Int), S (ps.getD j (1, [])).2]) := fun j hj => by
        have hp : ps[j]? = some ps[j] := List.getElem?_eq_getElem hj
        have e3 : ps.getD j (1, []) = ps[j] := by rw [List.getD_eq_getElem?_getD, hp]; rfl
        have hm := List.mem_of_getElem? hp
        have ok := hok _ hm
        have hn : ps[j].1 ≤ L := Nat.le_of_dvd hL1 (hdv _ hm)
        rw [e3]
        refine ⟨hn, ok.1, ok.2 (by omega), fun qa hqa => ?_⟩
        have := hat j qa _ hqa hp
        unfold Sv at this
        rw [if_pos (by omega)] at this
        exact this
      have gs : ∀ j < ps.length, (ps.getD j (1, [])).2[i % (ps.getD j (1, [])).1]? = some ((ps.getD j (1, [])).2.getD (i % (ps.getD j (1, [])).1) 0) := fun j hj => by
        obtain ⟨g1, g2, g3, g4⟩ := sign j hj
        clear g4
        generalize ps.getD j (1, []) = pp at *
        have : i % pp.1 < pp.2.length := by rw [g3]; exact Nat.mod_lt _ (by omega)
        rw [List.getD_eq_getElem?_getD, List.getElem?_eq_getElem this]
        rfl
      refine c_lst (K := K) (a := a) (xs := qs.map V.ref) (fun R k => by walk_at "go"; exact k) (s2.seq ha) (by rw [List.length_map]; omega) (fun j => decide ((ps.getD j (1, [])).2.getD (i % (ps.getD j (1, [])).1) 0 ≠ 46)) (fun j => S [(ps.getD j (1, [])).2.getD (i % (ps.getD j (1, [])).1) 0]) (fun _ => rfl) (fun j x H3 hj s3 QB k => ?_) (fun j x H3 hj s3 _ QV k => ?_) (fun Dl H3 n3 s3 d3 => ?_)
      · rw [List.getElem?_map] at hj
        obtain ⟨qa, hqa, rfl⟩ := Option.map_eq_some_iff.mp hj
        have hjl := (List.getElem?_eq_some_iff.mp hqa).1
        obtain ⟨g1, g2, g3, g4⟩ := sign j (by omega)
        have hq := s3 _ _ (s2 _ _ (g4 qa hqa))
        have g5 := gs j (by omega)
        generalize ps.getD j (1, []) = pp at *
        walk_at "n"
        walk_at "go"
        rw [← Int.natCast_emod]
        refine i_ix_str (by omega) (by omega) (by rw [Int.toNat_natCast]; exact g5) ?_
        walk_at "go"
        have e9 : (!decide ([pp.2.getD (i % pp.1) 0] = [46])) = decide (pp.2.getD (i % pp.1) 0 ≠ 46) := by
          by_cases h : pp.2.getD (i % pp.1) 0 = 46 <;> simp [h]
        rw [e9]
        exact k H3 (Same.refl H3)
      · rw [List.getElem?_map] at hj
        obtain ⟨qa, hqa, rfl⟩ := Option.map_eq_some_iff.mp hj
        have hjl := (List.getElem?_eq_some_iff.mp hqa).1
        obtain ⟨g1, g2, g3, g4⟩ := sign j (by omega)
        have hq := s3 _ _ (s2 _ _ (g4 qa hqa))
        have g5 := gs j (by omega)
        generalize ps.getD j (1, []) = pp at *
        walk_at "n"
        walk_at "go"
        rw [← Int.natCast_emod]
        refine i_ix_str (by omega) (by omega) (by rw [Int.toNat_natCast]; exact g5) ?_
        exact k H3 (Same.refl H3)
      · have e10 : kept (fun j => decide ((ps.getD j (1, [])).2.getD (i % (ps.getD j (1, [])).1) 0 ≠ 46)) (fun j => S [(ps.getD j (1, [])).2.getD (i % (ps.getD j (1, [])).1) 0]) (qs.map V.ref).length = ((ps.map fun p => p.2.getD (i % p.1) 0).filter fun c => decide (c ≠ 46)).map fun c => S [c] := by
          unfold kept
          rw [List.length_map, hlen]
          rw [filter_getD ps (1, []) (fun p => decide (p.2.getD (i % p.1) 0 ≠ 46)) (fun p => S [p.2.getD (i % p.1) 0]), List.filter_map, List.map_map]
          rfl
        rw [e10] at d3
        have hcs : (ps.map fun p => p.2.getD (i % p.1) 0) = ps.map fun p => (rpt (L / p.1) p.2).getD i 0 := List.map_congr_left fun p hp => by
          have ok := hok p hp
          have hn : p.1 ≤ L := Nat.le_of_dvd hL1 (hdv p hp)
          have hl := ok.2 (by omega)
          rw [List.getD_eq_getElem?_getD, List.getD_eq_getElem?_getD, rpt_get _ _ _ (by rw [hl, Nat.div_mul_cancel (hdv p hp)]; exact hi), hl]
        rw [hcs] at d3
        have hcl : (ps.map fun p => (rpt (L / p.1) p.2).getD i 0).length = ps.length := by rw [List.length_map]
        have hnx : (showN ps L)[i]? = some (firstLit (ps.map fun p => (rpt (L / p.1) p.2).getD i 0)) := by
          unfold showN
          rw [List.getElem?_map, List.getElem?_range hi]
          rfl
        generalize (ps.map fun p => (rpt (L / p.1) p.2).getD i 0) = cs at *
        have hfl : ((cs.filter fun c => decide (c ≠ 46)).map fun c => S [c]).length ≤ ps.length := by
          rw [List.length_map, ← hcl]
          exact List.length_filter_le _ _
        walk_at "go"
        refine i_new (by show 1 ≤ 100000; omega) fun p1 n1 => ?_
        walk_at "go"
        refine i_catL ((upd_ne (ne_of_none d3 n1)).trans d3) upd_same (by show _ + 1 ≤ 100000; omega) fun p2 n2 => ?_
        walk_at "go"
        refine i_ix_lst (v := S [firstLit cs]) (.inl (.inl upd_same)) (atI_nat (j := 0) ?_) ?_
        · have := congrArg (Option.map fun c => S [c]) (head_lit cs)
          rw [← List.getElem?_map, List.map_append] at this
          exact this
        walk_at "go"
        have hs24 := showN_len ps L
        have ht24 : ((showN ps L).take i).length ≤ 24 := by rw [List.length_take]; omega
        walk_at "go"
        have e11 : (showN ps L).take i ++ [firstLit cs] = (showN ps L).take (i + 1) := by
          rw [List.take_succ, hnx]
          rfl
        rw [e11]
        exact ⟨_, _, rfl, ((s2.trans s3).trans (same_upd n1)).trans (same_upd n2)⟩
    · rintro σ H2 ⟨v4, v5, rfl, s2⟩
      rw [List.take_of_length_le (by rw [showN_len]; omega)]
      walk_at "go"
      refine i_new (by show 2 ≤ 100000; omega) fun p np => ?_
      exact q p _ (s2.trans (same_upd np)) upd_same
end
end K05
namespace K05
open PySem PySem.Spec PyProof.Rows L2 Fg
local macro_rules | `(tactic| walk_at "sq") => `(tactic| first
  | assumption
  | exact .inl (.inl (by assumption))
  | exact .inl (.inl upd_same))
local macro_rules | `(tactic| walk_at "st") => `(tactic| first
  | assumption
  | exact .inl (.inl (by assumption))
  | exact .inl (.inl upd_same))
local macro_rules | `(tactic| walk_at "o") => `(tactic| first
  | omega
  | assumption
  | (simp only [List.length_append, List.length_take, List.length_drop, List.length_cons, List.length_nil, List.length_singleton, List.length_map, List.length_range, Int.toNat_natCast] ; omega))
local macro_rules | `(tactic| walk_at "s") => `(tactic| first
  | (with_reducible refine i_seq ?_)
  | (with_reducible refine i_asg ?_)
  | ((with_reducible refine' i_var ?h1 ?_); (case h1 => rfl))
  | (with_reducible refine i_c ?_)
  | ((with_reducible refine' i_gname' ?h1 ?_); (case h1 => (simp only [List.set_cons_zero, List.set_cons_succ]; rfl)))
  | (with_reducible refine i_op ?_)
  | (with_reducible refine i_ifS ?_)
  | (with_reducible refine i_for ?_)
  | (with_reducible refine i_test ?_)
  | (with_reducible refine i_B ?_)
  | (with_reducible refine i_exbl ?_)
  | (with_reducible refine i_exint ?_)
  | (with_reducible refine i_cb ?_)
  | (with_reducible refine i_nil ?_)
  | (with_reducible refine i_cons ?_)
  | (with_reducible refine i_ret ?_)
  | (with_reducible refine i_sl ?_)
  | (with_reducible refine i_nopart ?_)
  | (with_reducible refine i_part ?_)
  | (with_reducible refine i_add_int ?_)
  | (with_reducible refine i_sub ?_)
  | (with_reducible refine i_lt ?_)
  | ((with_reducible refine' i_mod ?h1 ?_); (case h1 => walk_at "o"))
  | ((with_reducible refine' i_fdiv ?h1 ?_); (case h1 => (refine cdiv_small ?_ ?_ <;> walk_at "o")))
  | ((with_reducible refine' i_sl_to ?h1 ?h2 ?_); (case h1 => walk_at "o"); (case h2 => walk_at "o"))
  | ((with_reducible refine' i_sl_from ?h1 ?h2 ?_); (case h1 => walk_at "o"); (case h2 => walk_at "o"))
  | ((with_reducible refine' i_add_str ?h1 ?_); (case h1 => walk_at "o"))
  | ((with_reducible refine' i_mul_int ?h1 ?_); (case h1 => first | (refine mul_small ?_ ?_ <;> walk_at "o") | (refine mul_smallR ?_ ?_ <;> walk_at "o")))
  | (with_reducible refine i_le ?_)
  | (with_reducible refine i_gt ?_)
  | (with_reducible refine i_ge ?_)
  | (with_reducible refine i_eq_int ?_)
  | (with_reducible refine i_eq_str ?_)
  | (with_reducible refine i_ne_int ?_)
  | (with_reducible refine i_ne_str ?_)
  | (with_reducible refine i_eq_bl ?_)
  | (with_reducible refine i_ne_bl ?_)
  | (with_reducible refine i_in_sg ?_)
  | (with_reducible refine i_notIn_sg ?_)
  | (with_reducible refine i_call ?_)
  | (with_reducible refine i_callS ?_)
  | (with_reducible refine i_sp1 ?_)
  | (with_reducible refine i_sp2 ?_)
  | (with_reducible refine i_sp3 ?_)
  | (with_reducible refine i_sp4 ?_)
  | (with_reducible refine i_sp1' ?_)
  | (with_reducible refine i_sp2' ?_)
  | (with_reducible refine i_sp3' ?_)
  | ((with_reducible refine' i_ix_lst ?h1 ?h2 ?_); (case h1 => walk_at "sq"); (case h2 => first | exact atI_nat rfl | rfl))
  | ((with_reducible refine' i_ix_tup ?h1 ?h2 ?_); (case h1 => walk_at "st"); (case h2 => first | exact atI_nat rfl | rfl))
  | (with_reducible refine i_gsub ?_)
  | (with_reducible refine i_par ?_)
  | (with_reducible refine i_lstRg1 ?_)
  | (with_reducible refine i_app ?_)
  | (with_reducible refine i_par2 ?_)
  | ((with_reducible refine' i_aug ?h1 ?_); (case h1 => rfl))
  | (with_reducible refine i_ipI ?_)
  | ((with_reducible refine' i_gtup2 ?h1 ?_); (case h1 => walk_at "st"))
  | (with_reducible refine i_int_bl ?_)
  | (with_reducible refine i_raise ?_)
  | (with_reducible refine i_mkE ?_)
  | (with_reducible refine i_ex1 ?_)
  | (with_reducible refine i_and ?_)
  | (with_reducible refine i_or ?_)
  | (with_reducible refine i_not ?_)
  | (with_reducible refine i_tt ?_)
  | (with_reducible refine i_ff ?_)
  | (with_reducible refine i_nott ?_)
  | (with_reducible refine i_notf ?_)
  | (with_reducible refine i_andV ?_)
  | (with_reducible refine i_orV ?_)
  | (with_reducible refine i_notV ?_)
  | (with_reducible refine i_ifE ?_)
  | (with_reducible refine i_tup ?_)
  | (with_reducible refine i_lst ?_)
  | (with_reducible refine i_un ?_)
  | (with_reducible refine i_neg ?_)
  | (with_reducible refine i_chain ?_)
  | (with_reducible refine i_next ?_)
  | (with_reducible refine i_retN ?_)
  | (with_reducible refine i_drop ?_)
  | (with_reducible refine i_int_int ?_)
  | (with_reducible refine i_abs ?_)
  | (with_reducible refine i_m1c ?_)
  | (with_reducible refine i_is_non ?_)
  | (with_reducible refine i_is_int ?_)
  | (with_reducible refine i_is_bl ?_)
  | (with_reducible refine i_isn_bl ?_)
  | (with_reducible refine i_is_str ?_)
  | (with_reducible refine i_is_ref ?_)
  | (with_reducible refine i_isn_non ?_)
  | (with_reducible refine i_isn_int ?_)
  | (with_reducible refine i_isn_str ?_)
  | (with_reducible refine i_isn_ref ?_)
  | (with_reducible refine i_len_str ?h1 ?_; (case h1 => walk_at "o"))
  | (with_reducible refine i_isi_int_int ?_) | (with_reducible refine i_isi_int_bool ?_) | (with_reducible refine i_isi_int_str ?_) | (with_reducible refine i_isi_int_tuple ?_) | (with_reducible refine i_isi_int_list ?_)
  | (with_reducible refine i_isi_bl_int ?_) | (with_reducible refine i_isi_bl_bool ?_) | (with_reducible refine i_isi_bl_str ?_) | (with_reducible refine i_isi_bl_tuple ?_) | (with_reducible refine i_isi_bl_list ?_)
  | (with_reducible refine i_isi_str_int ?_) | (with_reducible refine i_isi_str_bool ?_) | (with_reducible refine i_isi_str_str ?_) | (with_reducible refine i_isi_str_tuple ?_) | (with_reducible refine i_isi_str_list ?_)
  | (with_reducible refine i_isi_non_int ?_) | (with_reducible refine i_isi_non_bool ?_) | (with_reducible refine i_isi_non_str ?_) | (with_reducible refine i_isi_non_tuple ?_) | (with_reducible refine i_isi_non_list ?_))
local macro_rules | `(tactic| walk_at "go") => `(tactic| (repeat' (walk_at "s")))
local macro_rules | `(tactic| walk_at "n") => `(tactic| simp only [wipe, List.map_cons, List.map_nil, List.set_cons_zero, List.set_cons_succ])
theorem i_tru {K : PySem.W.Frag} {H : Hp} {a : Addr} {xs : List V} {QB : Bool → Hp → Prop} (h : SqL K H a xs) (q : QB (!xs.isEmpty) H) : ∃ k, TruV K (.ref a) H k ∧ QB k H := ⟨_, .inl ⟨xs, h, rfl⟩, q⟩
theorem at_head {c : Nat} {r : List Nat} : (decide ([c] = [48])) = decide ((c :: r).take 1 = [48]) := rfl
def oS : Option (Option Nat) → V
  | none => .non
  | some none => .int (-1)
  | some (some t) => .int (t : Int)
section
variable {P : Program} {w : World} {K : PySem.W.Frag} {mg : Str → Option Value} {base : Heap} {C_GlimError C_BadText C_TooLong : Addr}
def p_run : P2 := fun x y H Q _ => ∃ (z : List Nat) (a : Nat), x = S z ∧ y = .int (a : Int) ∧ z.length ≤ 100000 ∧ a ≤ z.length ∧ Q (S (run z a)) H
theorem ok_L_run (T : Txt K mg C_GlimError C_BadText C_TooLong) : OK P w K mg base CX0 1 "_law_run" ["_law_text", "_law_spot"] (sp2  p_run) := by
  refine OK.mk (k := 0) T.d_L_run sc_L_run len2 fun f cdv A outer s H vs Q E hr h => ?_
  obtain ⟨x, y, rfl, h⟩ := h
  refine ⟨_, (pss_cons (ps_set (i := 2) sc_L_run.nd rfl (Or.inl rfl) (pv 1)) (Evl.pss_cut (ps_while PassesOwn.never (pw_and (pt_cmpR op_ltP (pv 2) (pe_callB (cLen K) (by rfl) T.b_len (by decide +kernel) (pa_cons (pv 0) pa_nil)) (nomark _)) (pw_and1 (pt_cmpR (opIn K) (pe_ix (ixK K) (pv 0) (pv 2) (fun _ _ => rfl)) (pe_S [48, 49, 50, 51, 52, 53, 54, 55, 56, 57]) (by with_unfolding_all rfl)))).pt (pss_one (ps_set (i := 2) sc_L_run.nd rfl (Or.inl rfl) (pe_op (opAdd K) (pv 2) pe_int)))) (pss_one (ps_ret (pe_slice (slK K) (pv 0) (po_some (pv 1)) (po_some (pv 2))))))), ?_⟩
  show (_ : TS) { nx := fun _ H' => Q .non H', rt := Q } [some x, some y, none] H
  obtain ⟨z, a, rfl, rfl, hz, ha, q⟩ := h
  walk_at "go"
  refine i_cut (fun σ H' => σ = [some (S z), some (.int (a : Int)), some (.int (bd z a : Nat))] ∧ H' = H) ?_ ?_
  · refine i_while (fun m σ H' => ∃ n : Nat, σ = [some (S z), some (.int (a : Int)), some (.int (n : Int))] ∧ H' = H ∧ n + m = z.length ∧ bd z n = bd z a) (z.length - a) ⟨a, rfl, rfl, by omega, rfl⟩ ?_
    rintro m σ H' ⟨n, rfl, rfl, hn, hb⟩
    walk_at "go"
    refine i_dec (fun e => ?_) (fun e => ?_)
    · walk_at "go"
      have hl : n < z.length := by omega
      refine i_ix_str (c := z[n]) hz (by omega) (by rw [Int.toNat_natCast]; exact List.getElem?_eq_getElem hl) ?_
      walk_at "go"
      refine i_dec (fun e => i_turn ?_) (fun e => ?_)
      · walk_at "go"
        exact ⟨m - 1, by omega, n + 1, rfl, rfl, by omega, by rw [bd_step (List.getElem?_eq_getElem hl) e, hb]⟩
      · rw [← hb, bd_stop (fun c hc => by rw [List.getElem?_eq_getElem hl] at hc; cases hc; exact e)]
        exact ⟨rfl, rfl⟩
    · walk_at "go"
      rw [← hb, bd_stop (fun c hc => by rw [List.getElem?_eq_none (by omega)] at hc; cases hc)]
      exact ⟨rfl, rfl⟩
  rintro σ H' ⟨rfl, rfl⟩
  walk_at "go"
  refine i_sl_str hz ?_
  rw [cutN_run ha]
  exact q
def p_fill : P2 := fun x y H Q _ => ∃ (q : Addr) (p : Stv) (r : List Nat), x = .ref q ∧ y = S r ∧ H q = some (Sv p.1 p.2) ∧ 1 ≤ p.1 ∧ (p.1 ≤ 24 → p.2.length = p.1) ∧ r ≠ [] ∧ (∀ c ∈ r, c ∈ DG) ∧ r.length ≤ 90000 ∧
  (lfill p r = none → Q .non H) ∧ ∀ p', lfill p r = some p' → ∀ H' q', Same H H' → H' q' = some (Sv p'.1 p'.2) → Q (.ref q') H'
theorem ok_L_fill (T : Txt K mg C_GlimError C_BadText C_TooLong) : OK P w K mg base CX0 1 "_law_fill" ["_law_part", "_law_run_here"] (sp2  p_fill) := by
  refine OK.mk (k := 0) T.d_L_fill sc_L_fill len2 fun f cdv A outer s H vs Q E hr h => ?_
  obtain ⟨x, y, rfl, h⟩ := h
  refine ⟨_, (pss_cons (ps_if (pw_or (pt_cmpR (opEq K hr.units) (pe_ix (ixK K) (pv 1) pe_int (fun _ _ => rfl)) (pe_S [48]) (nomark _)) (pw_or (pt_cmpR op_gtP (pe_callB (cLen K) (by rfl) T.b_len (by decide +kernel) (pa_cons (pv 1) pa_nil)) pe_int (nomark _)) (pw_or (pt_cmpR op_gtP (pe_callTy call_intTx (by rfl) T.b_int (by decide +kernel) (pa_cons (pv 1) pa_nil)) pe_int (nomark _)) (pw_or1 (pt_cmpR op_ltP (pe_callTy call_intTx (by rfl) T.b_int (by decide +kernel) (pa_cons (pv 1) pa_nil)) (pe_ix (ixK K) (pv 0) pe_int (fun _ _ => rfl)) (nomark _)))))).pt (pss_one (ps_ret pe_non)) pss_nil) (pss_one (ps_ret (pe_tup (pa_cons (pe_callTy call_intTx (by rfl) T.b_int (by decide +kernel) (pa_cons (pv 1) pa_nil)) (pa_cons (pe_op (opAdd K) (pe_ix (ixK K) (pv 0) pe_int (fun _ _ => rfl)) (pe_op op_mulP (pe_S [46]) (pe_op op_subP (pe_callTy call_intTx (by rfl) T.b_int (by decide +kernel) (pa_cons (pv 1) pa_nil)) (pe_ix (ixK K) (pv 0) pe_int (fun _ _ => rfl))))) pa_nil)))))), ?_⟩
  show (_ : TS) { nx := fun _ H' => Q .non H', rt := Q } [some x, some y] H
  obtain ⟨pq, ⟨n, l⟩, r, rfl, rfl, hq, h1, hl, rne, dg, hr, q0, q1⟩ := h
  dsimp only at hq h1 hl
  obtain ⟨c, r', rfl⟩ : ∃ c r', r = c :: r' := by
    cases r with
    | nil => exact absurd rfl rne
    | cons c r' => exact ⟨c, r', rfl⟩
  unfold lfill at q0 q1
  have bad : (c :: r').take 1 = [48] ∨ within (c :: r') (max 1 n) 24 = false → Q .non H := fun e => q0 (if_pos e)
  unfold Sv at hq
  walk_at "go"
  refine i_ix_str (c := c) (by omega) (by decide) rfl ?_
  walk_at "go"
  refine i_dec (fun e1 => ?_) (fun e1 => ?_)
  · walk_at "go"
    exact bad (.inl e1)
  walk_at "go"
  refine i_dec (fun e2 => ?_) (fun e2 => ?_)
  · walk_at "go"
    refine bad (.inr ?_)
    cases hw : within (c :: r') (max 1 n) 24 with
    | false => rfl
    | true => have := within_iff.mp hw; omega
  have l2 : (c :: r').length ≤ 2 := by omega
  have l1 : 1 ≤ (c :: r').length := by rw [List.length_cons]; omega
  walk_at "go"
  refine i_intTx l1 l2 dg ?_
  walk_at "go"
  refine i_dec (fun e3 => ?_) (fun e3 => ?_)
  · walk_at "go"
    refine bad (.inr ?_)
    cases hw : within (c :: r') (max 1 n) 24 with
    | false => rfl
    | true => have := within_iff.mp hw; omega
  walk_at "go"
  refine i_intTx l1 l2 dg ?_
  walk_at "go"
  refine i_dec (fun e4 => ?_) (fun e4 => ?_)
  · walk_at "go"
    refine bad (.inr ?_)
    cases hw : within (c :: r') (max 1 n) 24 with
    | false => rfl
    | true => have := within_iff.mp hw; omega
  walk_at "go"
  refine i_intTx l1 l2 dg ?_
  have hw : within (c :: r') (max 1 n) 24 = true := within_iff.mpr ⟨l1, l2, by omega, by omega⟩
  have good := q1 (fillTo (n, l) (num (c :: r'))) (if_neg (fun z => z.elim e1 (fun z => by rw [hw] at z; cases z)))
  have hn : n ≤ 24 := by omega
  have hn2 : n ≤ num (c :: r') := by omega
  have hn3 : num (c :: r') ≤ 24 := by omega
  rw [if_pos hn] at hq
  walk_at "go"
  refine i_intTx l1 l2 dg ?_
  generalize num (c :: r') = m at *
  walk_at "go"
  refine i_mul_strI (by omega) ⟨by show 1 * _ ≤ _; omega, by omega⟩ ?_
  rw [flat_one', show ((m : Int) - (n : Int)).toNat = m - n by omega]
  walk_at "go"
  refine i_add_str (by rw [hl hn, List.length_replicate]; omega) ?_
  walk_at "go"
  refine i_new (by show 2 ≤ 100000; omega) fun p1 n1 => ?_
  refine good _ p1 (same_upd n1) ?_
  rw [upd_same]
  show _ = some (HO.tup [.int (m : Int), if m ≤ 24 then _ else _])
  rw [if_pos hn3]
  rfl
def p_times : P2 := fun x y H Q _ => ∃ (r : List Nat) (h : Option Nat), x = S r ∧ y = S h.toList ∧ (∀ c ∈ r, c ∈ DG) ∧ r.length ≤ 90000 ∧ Q (oS (ltimes r h)) H
theorem ok_L_times (T : Txt K mg C_GlimError C_BadText C_TooLong) : OK P w K mg base CX0 1 "_law_times" ["_law_run_here", "_law_follow"] (sp2  p_times) := by
  refine OK.mk (k := 0) T.d_L_times sc_L_times len2 fun f cdv A outer s H vs Q E hr h => ?_
  obtain ⟨x, y, rfl, h⟩ := h
  refine ⟨_, (pss_cons (ps_if (pt_cmpR (opEq K hr.units) (pv 0) (pe_S []) (nomark _)) (pss_one (ps_ret pe_int)) pss_nil) (pss_cons (ps_if (pt_cmpR (opEq K hr.units) (pe_ix (ixK K) (pv 0) pe_int (fun _ _ => rfl)) (pe_S [48]) (nomark _)) (pss_one (ps_ret pe_non)) pss_nil) (pss_cons (ps_if (pw_or (pt_cmpR (opEq K hr.units) (pv 1) (pe_S []) (nomark _)) (pw_or1 (pt_cmpR (opNotIn K) (pv 1) (pe_S [46, 103, 114, 119, 40]) (by with_unfolding_all rfl)))).pt (pss_one (ps_ret (pe_un un_neg pe_int))) pss_nil) (pss_cons (ps_if (pw_or (pt_cmpR op_gtP (pe_callB (cLen K) (by rfl) T.b_len (by decide +kernel) (pa_cons (pv 0) pa_nil)) pe_int (nomark _)) (pw_or (pt_cmpR op_ltP (pe_callTy call_intTx (by rfl) T.b_int (by decide +kernel) (pa_cons (pv 0) pa_nil)) pe_int (nomark _)) (pw_or1 (pt_cmpR op_gtP (pe_callTy call_intTx (by rfl) T.b_int (by decide +kernel) (pa_cons (pv 0) pa_nil)) pe_int (nomark _))))).pt (pss_one (ps_ret pe_non)) pss_nil) (pss_one (ps_ret (pe_callTy call_intTx (by rfl) T.b_int (by decide +kernel) (pa_cons (pv 0) pa_nil)))))))), ?_⟩
  show (_ : TS) { nx := fun _ H' => Q .non H', rt := Q } [some x, some y] H
  obtain ⟨r, ho, rfl, rfl, dg, hr, q⟩ := h
  unfold ltimes at q
  walk_at "go"
  refine i_dec (fun e1 => ?_) (fun e1 => ?_)
  · rw [if_pos e1] at q
    walk_at "go"
    exact q
  rw [if_neg e1] at q
  obtain ⟨c, r', rfl⟩ : ∃ c r', r = c :: r' := by
    cases r with
    | nil => exact absurd rfl e1
    | cons c r' => exact ⟨c, r', rfl⟩
  walk_at "go"
  refine i_ix_str (c := c) (by omega) (by decide) rfl ?_
  walk_at "go"
  refine i_dec (fun e2 => ?_) (fun e2 => ?_)
  · rw [if_pos (show (c :: r').take 1 = [48] from e2)] at q
    walk_at "go"
    exact q
  rw [if_neg (show ¬ (c :: r').take 1 = [48] from e2)] at q
  walk_at "go"
  cases ho with
  | none =>
    rw [if_pos rfl] at q
    refine i_dec (fun _ => ?_) (fun e => absurd rfl e)
    walk_at "go"
    exact q
  | some h =>
    refine i_dec (fun e => by cases e) (fun _ => ?_)
    walk_at "go"
    show notInP K (S [h]) (S [46, 103, 114, 119, 40]) H _
    refine i_notIn_sg ?_
    walk_at "go"
    refine i_decN (fun e => ?_) (fun e => ?_)
    · rw [if_pos (show (!decide (h ∈ OPS)) = true by rw [decide_eq_false e]; rfl)] at q
      walk_at "go"
      exact q
    · rw [if_neg (show ¬ (!decide (h ∈ OPS)) = true by rw [decide_eq_true e]; decide)] at q
      have l1 : 1 ≤ (c :: r').length := by rw [List.length_cons]; omega
      have bad : within (c :: r') 2 24 = false → Q .non H := fun e => by rw [if_pos e] at q; exact q
      walk_at "go"
      refine i_dec (fun e3 => ?_) (fun e3 => ?_)
      · walk_at "go"
        refine bad ?_
        cases hw : within (c :: r') 2 24 with
        | false => rfl
        | true => have := within_iff.mp hw; omega
      have l2 : (c :: r').length ≤ 2 := by omega
      walk_at "go"
      refine i_intTx l1 l2 dg ?_
      walk_at "go"
      refine i_dec (fun e4 => ?_) (fun e4 => ?_)
      · walk_at "go"
        refine bad ?_
        cases hw : within (c :: r') 2 24 with
        | false => rfl
        | true => have := within_iff.mp hw; omega
      walk_at "go"
      refine i_intTx l1 l2 dg ?_
      walk_at "go"
      refine i_dec (fun e5 => ?_) (fun e5 => ?_)
      · walk_at "go"
        refine bad ?_
        cases hw : within (c :: r') 2 24 with
        | false => rfl
        | true => have := within_iff.mp hw; omega
      walk_at "go"
      refine i_intTx l1 l2 dg ?_
      have hw : within (c :: r') 2 24 = true := within_iff.mpr ⟨l1, l2, by omega, by omega⟩
      rw [if_neg (by rw [hw]; decide)] at q
      exact q
end
end K05
namespace K05
open PySem PySem.Spec PyProof.Rows L2 Fg
local macro_rules | `(tactic| walk_at "sq") => `(tactic| first
  | assumption
  | exact .inl (.inl (by assumption))
  | exact .inl (.inl upd_same))
local macro_rules | `(tactic| walk_at "st") => `(tactic| first
  | assumption
  | exact .inl (.inl (by assumption))
  | exact .inl (.inl upd_same))
local macro_rules | `(tactic| walk_at "o") => `(tactic| first
  | omega
  | assumption
  | (simp only [List.length_append, List.length_take, List.length_drop, List.length_cons, List.length_nil, List.length_singleton, List.length_map, List.length_range, Int.toNat_natCast] ; omega))
local macro_rules | `(tactic| walk_at "s") => `(tactic| first
  | (with_reducible refine i_seq ?_)
  | (with_reducible refine i_asg ?_)
  | ((with_reducible refine' i_var ?h1 ?_); (case h1 => rfl))
  | (with_reducible refine i_c ?_)
  | ((with_reducible refine' i_gname' ?h1 ?_); (case h1 => (simp only [List.set_cons_zero, List.set_cons_succ]; rfl)))
  | (with_reducible refine i_op ?_)
  | (with_reducible refine i_ifS ?_)
  | (with_reducible refine i_for ?_)
  | (with_reducible refine i_test ?_)
  | (with_reducible refine i_B ?_)
  | (with_reducible refine i_exbl ?_)
  | (with_reducible refine i_exint ?_)
  | (with_reducible refine i_cb ?_)
  | (with_reducible refine i_nil ?_)
  | (with_reducible refine i_cons ?_)
  | (with_reducible refine i_ret ?_)
  | (with_reducible refine i_sl ?_)
  | (with_reducible refine i_nopart ?_)
  | (with_reducible refine i_part ?_)
  | (with_reducible refine i_add_int ?_)
  | (with_reducible refine i_sub ?_)
  | (with_reducible refine i_lt ?_)
  | ((with_reducible refine' i_mod ?h1 ?_); (case h1 => walk_at "o"))
  | ((with_reducible refine' i_fdiv ?h1 ?_); (case h1 => (refine cdiv_small ?_ ?_ <;> walk_at "o")))
  | ((with_reducible refine' i_sl_to ?h1 ?h2 ?_); (case h1 => walk_at "o"); (case h2 => walk_at "o"))
  | ((with_reducible refine' i_sl_from ?h1 ?h2 ?_); (case h1 => walk_at "o"); (case h2 => walk_at "o"))
  | ((with_reducible refine' i_add_str ?h1 ?_); (case h1 => walk_at "o"))
  | ((with_reducible refine' i_mul_int ?h1 ?_); (case h1 => first | (refine mul_small ?_ ?_ <;> walk_at "o") | (refine mul_smallR ?_ ?_ <;> walk_at "o")))
  | (with_reducible refine i_le ?_)
  | (with_reducible refine i_gt ?_)
  | (with_reducible refine i_ge ?_)
  | (with_reducible refine i_eq_int ?_)
  | (with_reducible refine i_eq_str ?_)
  | (with_reducible refine i_ne_int ?_)
  | (with_reducible refine i_ne_str ?_)
  | (with_reducible refine i_eq_bl ?_)
  | (with_reducible refine i_ne_bl ?_)
  | (with_reducible refine i_in_sg ?_)
  | (with_reducible refine i_notIn_sg ?_)
  | (with_reducible refine i_call ?_)
  | (with_reducible refine i_callS ?_)
  | (with_reducible refine i_sp1 ?_)
  | (with_reducible refine i_sp2 ?_)
  | (with_reducible refine i_sp3 ?_)
  | (with_reducible refine i_sp4 ?_)
  | (with_reducible refine i_sp1' ?_)
  | (with_reducible refine i_sp2' ?_)
  | (with_reducible refine i_sp3' ?_)
  | ((with_reducible refine' i_ix_lst ?h1 ?h2 ?_); (case h1 => walk_at "sq"); (case h2 => first | exact atI_nat rfl | rfl))
  | ((with_reducible refine' i_ix_tup ?h1 ?h2 ?_); (case h1 => walk_at "st"); (case h2 => first | exact atI_nat rfl | rfl))
  | (with_reducible refine i_gsub ?_)
  | (with_reducible refine i_par ?_)
  | (with_reducible refine i_lstRg1 ?_)
  | (with_reducible refine i_app ?_)
  | (with_reducible refine i_par2 ?_)
  | ((with_reducible refine' i_aug ?h1 ?_); (case h1 => rfl))
  | (with_reducible refine i_ipI ?_)
  | ((with_reducible refine' i_gtup2 ?h1 ?_); (case h1 => walk_at "st"))
  | (with_reducible refine i_int_bl ?_)
  | (with_reducible refine i_raise ?_)
  | (with_reducible refine i_mkE ?_)
  | (with_reducible refine i_ex1 ?_)
  | (with_reducible refine i_and ?_)
  | (with_reducible refine i_or ?_)
  | (with_reducible refine i_not ?_)
  | (with_reducible refine i_tt ?_)
  | (with_reducible refine i_ff ?_)
  | (with_reducible refine i_nott ?_)
  | (with_reducible refine i_notf ?_)
  | (with_reducible refine i_andV ?_)
  | (with_reducible refine i_orV ?_)
  | (with_reducible refine i_notV ?_)
  | (with_reducible refine i_ifE ?_)
  | (with_reducible refine i_tup ?_)
  | (with_reducible refine i_lst ?_)
  | (with_reducible refine i_un ?_)
  | (with_reducible refine i_neg ?_)
  | (with_reducible refine i_chain ?_)
  | (with_reducible refine i_next ?_)
  | (with_reducible refine i_retN ?_)
  | (with_reducible refine i_drop ?_)
  | (with_reducible refine i_int_int ?_)
  | (with_reducible refine i_abs ?_)
  | (with_reducible refine i_m1c ?_)
  | (with_reducible refine i_is_non ?_)
  | (with_reducible refine i_is_int ?_)
  | (with_reducible refine i_is_bl ?_)
  | (with_reducible refine i_isn_bl ?_)
  | (with_reducible refine i_is_str ?_)
  | (with_reducible refine i_is_ref ?_)
  | (with_reducible refine i_isn_non ?_)
  | (with_reducible refine i_isn_int ?_)
  | (with_reducible refine i_isn_str ?_)
  | (with_reducible refine i_isn_ref ?_)
  | (with_reducible refine i_len_str ?h1 ?_; (case h1 => walk_at "o"))
  | (with_reducible refine i_isi_int_int ?_) | (with_reducible refine i_isi_int_bool ?_) | (with_reducible refine i_isi_int_str ?_) | (with_reducible refine i_isi_int_tuple ?_) | (with_reducible refine i_isi_int_list ?_)
  | (with_reducible refine i_isi_bl_int ?_) | (with_reducible refine i_isi_bl_bool ?_) | (with_reducible refine i_isi_bl_str ?_) | (with_reducible refine i_isi_bl_tuple ?_) | (with_reducible refine i_isi_bl_list ?_)
  | (with_reducible refine i_isi_str_int ?_) | (with_reducible refine i_isi_str_bool ?_) | (with_reducible refine i_isi_str_str ?_) | (with_reducible refine i_isi_str_tuple ?_) | (with_reducible refine i_isi_str_list ?_)
  | (with_reducible refine i_isi_non_int ?_) | (with_reducible refine i_isi_non_bool ?_) | (with_reducible refine i_isi_non_str ?_) | (with_reducible refine i_isi_non_tuple ?_) | (with_reducible refine i_isi_non_list ?_))
local macro_rules | `(tactic| walk_at "go") => `(tactic| (repeat' (walk_at "s")))
local macro_rules | `(tactic| walk_at "n") => `(tactic| simp only [wipe, List.map_cons, List.map_nil, List.set_cons_zero, List.set_cons_succ])
abbrev BAD : List Nat := [98, 97, 100]
abbrev LONG : List Nat := [108, 111, 110, 103]
abbrev ROWW : List Nat := [114, 111, 119]
def dueF : Fg.Fin → HO
  | .bad k => .tup [S BAD, .int (k : Int)]
  | .done s => if 24 < s.1 then .tup [S LONG, .int (s.1 : Int)] else .tup [S ROWW, S s.2]
structure LB (st : List Fr) (ps : List Stv) (a : Nat) : Prop where
  lps : ps.length ≤ a
  lst : st.length ≤ a
  lfr : ∀ f ∈ st, f.2.1.length ≤ a
theorem SL.split {H : Hp} {D : Addr} {f : Fr} {st : List Fr} (h : SL H D (f :: st)) : ∃ (as : List Addr) (a : Addr), H D = some (.lst (as.map V.ref ++ [.ref a])) ∧ FS H as st ∧ FA H a f := by
  obtain ⟨as, h1, h2⟩ := h
  cases h2 with
  | cons h3 h4 => exact ⟨_, _, by rw [h1, List.map_append]; rfl, h3, h4⟩
section
variable {P : Program} {w : World} {K : PySem.W.Frag} {mg : Str → Option Value} {base : Heap} {C_GlimError C_BadText C_TooLong : Addr}
def p_close : P4 := fun x y v u H Q _ => ∃ (Ds Dp q : Addr) (st : List Fr) (ps : List Stv) (p : Stv) (c a : Nat), x = .ref Ds ∧ y = .ref Dp ∧ v = .ref q ∧ u = S [c] ∧ SL H Ds st ∧ PL H Dp ps ∧ H q = some (Sv p.1 p.2) ∧ (c = 38 ∨ c = 41) ∧ WB st ps p a ∧ LB st ps a ∧ a ≤ 1700 ∧
  (lclose st ps p c = none → Q .non H) ∧ ∀ st' ps' p', lclose st ps p c = some (st', ps', p') → ∀ H' P Ds' Dp' q', Same H H' → H' P = some (.tup [.ref Ds', .ref Dp', .ref q']) → SL H' Ds' st' → PL H' Dp' ps' → H' q' = some (Sv p'.1 p'.2) → Q (.ref P) H'
theorem ok_L_close (T : Txt K mg C_GlimError C_BadText C_TooLong) : OK P w K mg base CX0 3 "_law_close" ["_law_stack", "_law_parts", "_law_part", "_law_here"] (sp4  p_close) := by
  refine OK.mk (k := 2) T.d_L_close sc_L_close len4 fun f cdv A outer s H vs Q E hr h => ?_
  obtain ⟨x, y, z, u, rfl, h⟩ := h
  refine ⟨_, (Evl.pss_cut (ps_if (pw_or (pt_cmpR (opEq K hr.units) (pe_ix (ixK K) (pv 2) pe_int (fun _ _ => rfl)) pe_int (nomark _)) (pw_or1 (pw_and (pt_cmpR (opEq K hr.units) (pv 3) (pe_S [41]) (nomark _)) (pw_and1 (pt_not (pt_truth (pv 0) (fun _ => rfl))))).pt)).pt (pss_one (ps_ret pe_non)) pss_nil) (pss_cons (ps_set (i := 4) sc_L_close.nd rfl (Or.inl rfl) (pe_op (opAdd K) (pv 1) (pe_lst (pa_cons (pv 2) pa_nil)))) (pss_cons (ps_if (pt_cmpR (opEq K hr.units) (pv 3) (pe_S [38]) (nomark _)) (pss_one (ps_ret (pe_tup (pa_cons (pv 0) (pa_cons (pv 4) (pa_cons (pe_tup (pa_cons pe_int (pa_cons (pe_S []) pa_nil))) pa_nil)))))) pss_nil) (pss_cons (ps_set (i := 5) sc_L_close.nd rfl (Or.inl rfl) (pe_ix (ixK K) (pv 0) (pe_un un_neg pe_int) (fun _ _ => rfl))) (pss_one (ps_ret (pe_tup (pa_cons (pe_slice (slK K) (pv 0) po_none (po_some (pe_un un_neg pe_int))) (pa_cons (pe_ix (ixK K) (pv 5) pe_int (fun _ _ => rfl)) (pa_cons (pe_f (ok_L_behind (K := K) T) (hr.mono (by decide)) pass0 (pa_cons (pe_ix (ixK K) (pv 5) pe_int (fun _ _ => rfl)) (pa_cons (pe_f (ok_L_often (K := K) T) (hr.mono (by decide)) pass0 (pa_cons (pe_f (ok_L_together (K := K) T) (hr.mono (by decide)) pass0 (pa_cons (pv 4) pa_nil)) (pa_cons (pe_ix (ixK K) (pv 5) pe_int (fun _ _ => rfl)) pa_nil))) pa_nil))) pa_nil)))))))))), ?_⟩
  show (_ : TS) { nx := fun _ H' => Q .non H', rt := Q } [some x, some y, some z, some u, none, none] H
  obtain ⟨Ds, Dp, q, st, ps, p, c, a, rfl, rfl, rfl, rfl, hS, hP, hq, hc, wb, lb, ha, q0, q1⟩ := h
  unfold lclose at q0 q1
  have ps24 : H q = some (.tup [.int (p.1 : Int), if p.1 ≤ 24 then S p.2 else .non]) := hq
  have nonempty : ∀ as : List Addr, (!(as.map V.ref).isEmpty) = !as.isEmpty := fun as => by cases as <;> rfl
  -- what is common behind the first test
  refine i_cut (fun σ H' => σ = [some (.ref Ds), some (.ref Dp), some (.ref q), some (S [c]), none, none] ∧ H' = H ∧ ¬ (p.1 = 0 ∨ (c = 41 ∧ st = []))) ?_ ?_
  · walk_at "go"
    refine i_dec (fun e1 => ?_) (fun e1 => ?_)
    · walk_at "go"
      exact q0 (if_pos (.inl (by omega)))
    walk_at "go"
    refine i_dec (fun e2 => ?_) (fun e2 => ?_)
    · have e41 : c = 41 := (List.cons.inj e2).1
      obtain ⟨as, hD, hF⟩ := hS
      walk_at "go"
      refine ⟨_, .inl ⟨_, .inl (.inl hD), rfl⟩, ?_⟩
      dsimp only
      rw [nonempty, Bool.not_not]
      have hlen := hF.len
      cases as with
      | nil =>
        walk_at "go"
        have : st = [] := List.length_eq_zero_iff.mp hlen.symm
        refine i_tt ?_
        walk_at "go"
        exact q0 (if_pos (.inr ⟨e41, this⟩))
      | cons x r =>
        refine i_ff ?_
        walk_at "go"
        refine ⟨rfl, rfl, fun z => z.elim (fun z => e1 (by omega)) (fun z => ?_)⟩
        rw [z.2] at hlen
        cases hlen
    · walk_at "go"
      exact ⟨rfl, rfl, fun z => z.elim (fun z => e1 (by omega)) (fun z => e2 (by rw [z.1]))⟩
  rintro σ H' ⟨rfl, rfl, hn⟩
  rw [if_neg hn] at q1
  clear q0
  have hp : p.1 ≠ 0 := fun e => hn (.inl e)
  obtain ⟨qs, hD, hA⟩ := hP
  have hl := lb.lps
  have hql := hA.1
  walk_at "go"
  refine i_new (by show 1 ≤ 100000; omega) fun p1 n1 => ?_
  walk_at "go"
  refine i_catL ((upd_ne (ne_of_none hD n1)).trans hD) upd_same (by rw [List.length_map]; show _ + 1 ≤ 100000; omega) fun p2 n2 => ?_
  have s2 : Same H' (upd (upd H' p1 (.lst [.ref q])) p2 (.lst (qs.map V.ref ++ [.ref q]))) := (same_upd n1).trans (same_upd n2)
  have eW : (upd (upd H' p1 (.lst [.ref q])) p2 (.lst (qs.map V.ref ++ [.ref q]))) p2 = some (.lst ((qs ++ [q]).map V.ref)) := by rw [upd_same, List.map_append]; rfl
  generalize upd (upd H' p1 (.lst [.ref q])) p2 (.lst (qs.map V.ref ++ [.ref q])) = H2 at *
  have hA2 : PartsAt H2 (qs ++ [q]) (ps ++ [p]) := (hA.mono s2).snoc (s2 _ _ hq)
  walk_at "go"
  refine i_dec (fun e => ?_) (fun e => ?_)
  · have e38 : c = 38 := (List.cons.inj e).1
    rw [if_pos e38] at q1
    walk_at "go"
    refine i_new (by show 2 ≤ 100000; omega) fun p3 n3 => ?_
    walk_at "go"
    refine i_new (by show 3 ≤ 100000; omega) fun p4 n4 => ?_
    have s3 := (same_upd (o := .tup [.int 0, S []]) n3)
    have s4 := same_upd (o := .tup [.ref Ds, .ref p2, .ref p3]) n4
    refine q1 _ _ _ rfl _ p4 Ds p2 p3 ((s2.trans s3).trans s4) upd_same (hS.mono ((s2.trans s3).trans s4)) ⟨_, s4 _ _ (s3 _ _ eW), (hA2.mono s3).mono s4⟩ (s4 _ _ upd_same)
  have e41 : c = 41 := hc.elim (fun z => absurd (by rw [z]) e) id
  rw [if_neg (fun z => e (by rw [z]))] at q1
  cases st with
  | nil => exact absurd (.inr ⟨e41, rfl⟩) hn
  | cons fr rest =>
    obtain ⟨t, ps', p'⟩ := fr
    obtain ⟨as, a', hDs, hF, Do, qo, ho1, ho2, ho3⟩ := SL.split hS
    dsimp only at ho1 ho2 ho3
    obtain ⟨w1, w2, w3⟩ := wb.fr _ List.mem_cons_self
    dsimp only at w1 w2 w3 q1
    have hDs2 := s2 _ _ hDs
    have ho12 := s2 _ _ ho1
    have hsl := lb.lst
    rw [List.length_cons] at hsl
    have hfl := hF.len
    walk_at "go"
    refine i_ix_lst (v := .ref a') (.inl (.inl hDs2)) atI_last ?_
    walk_at "go"
    refine i_slL (.inl (.inl hDs2)) fun p3 n3 => ?_
    have ec : cutV (as.map V.ref ++ [V.ref a']) none (some (-1)) = as.map V.ref := by rw [cutV_init, List.dropLast_concat]
    rw [ec]
    have s3 := same_upd (o := .lst (as.map V.ref)) n3
    have ho13 := s3 _ _ ho12
    walk_at "go"
    refine ⟨p2, qs ++ [q], ps ++ [p], rfl, .inl (.inl (s3 _ _ eW)), hA2.mono s3, by rw [List.length_append]; show _ + 1 ≤ 90000; omega, wf_snoc wb.wf hp, wb.big hp ha, fun p4 H4 s4 h4 => ?_⟩
    have ho14 := s4 _ _ ho13
    have hsp : 1 ≤ lcmL (ps ++ [p]) := lcmL_pos fun x hx => (wf_snoc wb.wf hp x hx).1
    walk_at "go"
    refine ⟨p4, lcmL (ps ++ [p]), showN (ps ++ [p]) (lcmL (ps ++ [p])), t, rfl, rfl, h4, hsp, fun _ => showN_len _ _, w2, by omega, fun p5 n5 => ?_⟩
    have s5 := same_upd (o := Sv (lcmL (ps ++ [p]) * t) (rpt t (showN (ps ++ [p]) (lcmL (ps ++ [p]))))) n5
    have hqo5 := s5 _ _ (s4 _ _ (s3 _ _ (s2 _ _ ho3)))
    walk_at "go"
    refine ⟨qo, p5, p'.1, _, p'.2, _, rfl, rfl, hqo5, upd_same, w1.2, rep_lenS (s := shown (ps ++ [p])) (fun _ => showN_len _ _) w2, fun p6 n6 => ?_⟩
    have s6 := same_upd (o := Sv (p'.1 + lcmL (ps ++ [p]) * t) (p'.2 ++ rpt t (showN (ps ++ [p]) (lcmL (ps ++ [p]))))) n6
    walk_at "go"
    refine i_new (by show 3 ≤ 100000; omega) fun p7 n7 => ?_
    have s7 := same_upd (o := .tup [.ref p3, .ref Do, .ref p6]) n7
    have s37 := ((s4.trans s5).trans s6).trans s7
    exact q1 rest ps' _ rfl _ p7 p3 Do p6 ((s2.trans s3).trans s37) upd_same ⟨as, s37 _ _ upd_same, ((hF.mono s2).mono s3).mono s37⟩ (((ho2.mono s2).mono s3).mono s37) (s7 _ _ upd_same)
end
end K05
namespace K05
open PySem PySem.Spec PyProof.Rows L2 Fg
local macro_rules | `(tactic| walk_at "sq") => `(tactic| first
  | assumption
  | exact .inl (.inl (by assumption))
  | exact .inl (.inl upd_same))
local macro_rules | `(tactic| walk_at "st") => `(tactic| first
  | assumption
  | exact .inl (.inl (by assumption))
  | exact .inl (.inl upd_same))
local macro_rules | `(tactic| walk_at "o") => `(tactic| first
  | omega
  | assumption
  | (simp only [List.length_append, List.length_take, List.length_drop, List.length_cons, List.length_nil, List.length_singleton, List.length_map, List.length_range, Int.toNat_natCast] ; omega))
local macro_rules | `(tactic| walk_at "s") => `(tactic| first
  | (with_reducible refine i_seq ?_)
  | (with_reducible refine i_asg ?_)
  | ((with_reducible refine' i_var ?h1 ?_); (case h1 => rfl))
  | (with_reducible refine i_c ?_)
  | ((with_reducible refine' i_gname' ?h1 ?_); (case h1 => (simp only [List.set_cons_zero, List.set_cons_succ]; rfl)))
  | (with_reducible refine i_op ?_)
  | (with_reducible refine i_ifS ?_)
  | (with_reducible refine i_for ?_)
  | (with_reducible refine i_test ?_)
  | (with_reducible refine i_B ?_)
  | (with_reducible refine i_exbl ?_)
  | (with_reducible refine i_exint ?_)
  | (with_reducible refine i_cb ?_)
  | (with_reducible refine i_nil ?_)
  | (with_reducible refine i_cons ?_)
  | (with_reducible refine i_ret ?_)
  | (with_reducible refine i_sl ?_)
  | (with_reducible refine i_nopart ?_)
  | (with_reducible refine i_part ?_)
  | (with_reducible refine i_add_int ?_)
  | (with_reducible refine i_sub ?_)
  | (with_reducible refine i_lt ?_)
  | ((with_reducible refine' i_mod ?h1 ?_); (case h1 => walk_at "o"))
  | ((with_reducible refine' i_fdiv ?h1 ?_); (case h1 => (refine cdiv_small ?_ ?_ <;> walk_at "o")))
  | ((with_reducible refine' i_sl_to ?h1 ?h2 ?_); (case h1 => walk_at "o"); (case h2 => walk_at "o"))
  | ((with_reducible refine' i_sl_from ?h1 ?h2 ?_); (case h1 => walk_at "o"); (case h2 => walk_at "o"))
  | ((with_reducible refine' i_add_str ?h1 ?_); (case h1 => walk_at "o"))
  | ((with_reducible refine' i_mul_int ?h1 ?_); (case h1 => first | (refine mul_small ?_ ?_ <;> walk_at "o") | (refine mul_smallR ?_ ?_ <;> walk_at "o")))
  | (with_reducible refine i_le ?_)
  | (with_reducible refine i_gt ?_)
  | (with_reducible refine i_ge ?_)
  | (with_reducible refine i_eq_int ?_)
  | (with_reducible refine i_eq_str ?_)
  | (with_reducible refine i_ne_int ?_)
  | (with_reducible refine i_ne_str ?_)
  | (with_reducible refine i_eq_bl ?_)
  | (with_reducible refine i_ne_bl ?_)
  | (with_reducible refine i_in_sg ?_)
  | (with_reducible refine i_notIn_sg ?_)
  | (with_reducible refine i_call ?_)
  | (with_reducible refine i_callS ?_)
  | (with_reducible refine i_sp1 ?_)
  | (with_reducible refine i_sp2 ?_)
  | (with_reducible refine i_sp3 ?_)
  | (with_reducible refine i_sp4 ?_)
  | (with_reducible refine i_sp1' ?_)
  | (with_reducible refine i_sp2' ?_)
  | (with_reducible refine i_sp3' ?_)
  | ((with_reducible refine' i_ix_lst ?h1 ?h2 ?_); (case h1 => walk_at "sq"); (case h2 => first | exact atI_nat rfl | rfl))
  | ((with_reducible refine' i_ix_tup ?h1 ?h2 ?_); (case h1 => walk_at "st"); (case h2 => first | exact atI_nat rfl | rfl))
  | (with_reducible refine i_gsub ?_)
  | (with_reducible refine i_par ?_)
  | (with_reducible refine i_lstRg1 ?_)
  | (with_reducible refine i_app ?_)
  | (with_reducible refine i_par2 ?_)
  | ((with_reducible refine' i_aug ?h1 ?_); (case h1 => rfl))
  | (with_reducible refine i_ipI ?_)
  | ((with_reducible refine' i_gtup2 ?h1 ?_); (case h1 => walk_at "st"))
  | (with_reducible refine i_int_bl ?_)
  | (with_reducible refine i_raise ?_)
  | (with_reducible refine i_mkE ?_)
  | (with_reducible refine i_ex1 ?_)
  | (with_reducible refine i_and ?_)
  | (with_reducible refine i_or ?_)
  | (with_reducible refine i_not ?_)
  | (with_reducible refine i_tt ?_)
  | (with_reducible refine i_ff ?_)
  | (with_reducible refine i_nott ?_)
  | (with_reducible refine i_notf ?_)
  | (with_reducible refine i_andV ?_)
  | (with_reducible refine i_orV ?_)
  | (with_reducible refine i_notV ?_)
  | (with_reducible refine i_ifE ?_)
  | (with_reducible refine i_tup ?_)
  | (with_reducible refine i_lst ?_)
  | (with_reducible refine i_un ?_)
  | (with_reducible refine i_neg ?_)
  | (with_reducible refine i_chain ?_)
  | (with_reducible refine i_next ?_)
  | (with_reducible refine i_retN ?_)
  | (with_reducible refine i_drop ?_)
  | (with_reducible refine i_int_int ?_)
  | (with_reducible refine i_abs ?_)
  | (with_reducible refine i_m1c ?_)
  | (with_reducible refine i_is_non ?_)
  | (with_reducible refine i_is_int ?_)
  | (with_reducible refine i_is_bl ?_)
  | (with_reducible refine i_isn_bl ?_)
  | (with_reducible refine i_is_str ?_)
  | (with_reducible refine i_is_ref ?_)
  | (with_reducible refine i_isn_non ?_)
  | (with_reducible refine i_isn_int ?_)
  | (with_reducible refine i_isn_str ?_)
  | (with_reducible refine i_isn_ref ?_)
  | (with_reducible refine i_len_str ?h1 ?_; (case h1 => walk_at "o"))
  | (with_reducible refine i_isi_int_int ?_) | (with_reducible refine i_isi_int_bool ?_) | (with_reducible refine i_isi_int_str ?_) | (with_reducible refine i_isi_int_tuple ?_) | (with_reducible refine i_isi_int_list ?_)
  | (with_reducible refine i_isi_bl_int ?_) | (with_reducible refine i_isi_bl_bool ?_) | (with_reducible refine i_isi_bl_str ?_) | (with_reducible refine i_isi_bl_tuple ?_) | (with_reducible refine i_isi_bl_list ?_)
  | (with_reducible refine i_isi_str_int ?_) | (with_reducible refine i_isi_str_bool ?_) | (with_reducible refine i_isi_str_str ?_) | (with_reducible refine i_isi_str_tuple ?_) | (with_reducible refine i_isi_str_list ?_)
  | (with_reducible refine i_isi_non_int ?_) | (with_reducible refine i_isi_non_bool ?_) | (with_reducible refine i_isi_non_str ?_) | (with_reducible refine i_isi_non_tuple ?_) | (with_reducible refine i_isi_non_list ?_))
local macro_rules | `(tactic| walk_at "go") => `(tactic| (repeat' (walk_at "s")))
local macro_rules | `(tactic| walk_at "n") => `(tactic| simp only [wipe, List.map_cons, List.map_nil, List.set_cons_zero, List.set_cons_succ])
/-- the reader stands at a place of the text -/
def At (z : List Nat) (H : Hp) (m : Nat) (σ : L2.St) (H' : Hp) : Prop :=
  ∃ (st : List Fr) (ps : List Stv) (p : Stv) (fl : Bool) (a f : Nat) (Ds Dp q : Addr) (v6 v7 v8 v9 v10 v11 : Option V), m = z.length - a ∧
    σ = [some (S z), some (.ref Ds), some (.ref Dp), some (.ref q), some (.bl fl), some (.int (a : Int)), v6, v7, v8, v9, v10, v11] ∧ a ≤ z.length ∧ Same H H' ∧
    SL H' Ds st ∧ PL H' Dp ps ∧ H' q = some (Sv p.1 p.2) ∧ WB st ps p a ∧ LB st ps a ∧ z.length + 1 ≤ f + a ∧ lread z f st ps p fl a = told z
theorem cutN_one {z : List Nat} {b : Nat} (hb : b ≤ z.length) : cutN z (some (b : Int)) (some ((b : Int) + 1)) = (z[b]?).toList := by
  unfold cutN
  have e : ((b : Int) + 1) = ((b + 1 : Nat) : Int) := rfl
  rw [e, HT.sIx_nat, HT.sIx_nat]
  by_cases h : b < z.length
  · rw [Nat.min_eq_left hb, Nat.min_eq_left (by omega), List.drop_eq_getElem_cons h, List.getElem?_eq_getElem h]
    rw [show b + 1 - b = 1 by omega]
    rfl
  · rw [Nat.min_eq_left hb, Nat.min_eq_right (by omega), List.getElem?_eq_none (by omega)]
    rw [show z.length - b = 0 by omega]
    rfl
theorem ltimes_some {r : List Nat} {h : Option Nat} {t : Nat} (e : ltimes r h = some (some t)) : 1 ≤ t ∧ t ≤ 24 := by
  unfold ltimes at e
  by_cases h1 : r = []
  · rw [if_pos h1] at e; cases e; decide
  rw [if_neg h1] at e
  by_cases h2 : r.take 1 = [48]
  · rw [if_pos h2] at e; cases e
  rw [if_neg h2] at e
  have key : (if within r 2 24 = false then none else some (some (num r)) : Option (Option Nat)) = some (some t) := by
    cases h with
    | none => rw [if_pos rfl] at e; cases e
    | some c =>
      dsimp only at e
      by_cases hc : (!decide (c ∈ OPS)) = true
      · rw [if_pos hc] at e; cases e
      · rw [if_neg hc] at e; exact e
  cases hw : within r 2 24 with
  | false => rw [hw, if_pos rfl] at key; cases key
  | true =>
    rw [hw, if_neg (by decide)] at key
    cases key
    have := within_iff.mp hw
    omega
theorem ltimes_none {r : List Nat} {t : Nat} (h1 : r ≠ []) : ltimes r none ≠ some (some t) := fun e => by
  unfold ltimes at e
  rw [if_neg h1] at e
  by_cases h2 : r.take 1 = [48]
  · rw [if_pos h2] at e; cases e
  rw [if_neg h2, if_pos rfl] at e
  cases e
theorem LB.grow {st st' : List Fr} {ps ps' : List Stv} {a b : Nat} (h : LB st ps a) (hab : a < b) (h1 : ps'.length ≤ a + 1) (h2 : st'.length ≤ a + 1) (h3 : ∀ f ∈ st', f ∈ st ∨ f.2.1.length ≤ a) : LB st' ps' b :=
  ⟨by omega, by omega, fun f hf => (h3 f hf).elim (fun z => by have := h.lfr f z; omega) (fun z => by omega)⟩
section
variable {P : Program} {w : World} {K : PySem.W.Frag} {mg : Str → Option Value} {base : Heap} {C_GlimError C_BadText C_TooLong : Addr}
def p_lread : P1 := fun x H Q _ => ∃ z : List Nat, x = S z ∧ z.length ≤ 1700 ∧ ∀ p H', Same H H' → H' p = some (dueF (told z)) → Q (.ref p) H'
theorem ok_L_read (T : Txt K mg C_GlimError C_BadText C_TooLong) : OK P w K mg base CX0 4 "_law_read" ["_law_text"] (sp1  p_lread) := by
  refine OK.mk (k := 3) T.d_L_read sc_L_read len1 fun f cdv A outer s H vs Q E hr h => ?_
  obtain ⟨x, rfl, h⟩ := h
  refine ⟨_, (pss_cons (ps_set (i := 1) sc_L_read.nd rfl (Or.inl rfl) (pe_lst pa_nil)) (pss_cons (ps_set (i := 2) sc_L_read.nd rfl (Or.inl rfl) (pe_lst pa_nil)) (pss_cons (ps_set (i := 3) sc_L_read.nd rfl (Or.inl rfl) (pe_tup (pa_cons pe_int (pa_cons (pe_S []) pa_nil)))) (pss_cons (ps_set (i := 4) sc_L_read.nd rfl (Or.inl rfl) pe_bl) (pss_cons (ps_set (i := 5) sc_L_read.nd rfl (Or.inl rfl) pe_int) (pss_cons (ps_while PassesOwn.never (pt_cmpR op_ltP (pv 5) (pe_callB (cLen K) (by rfl) T.b_len (by decide +kernel) (pa_cons (pv 0) pa_nil)) (nomark _)) (pss_cons (ps_set (i := 6) sc_L_read.nd rfl (Or.inl rfl) (pe_ix (ixK K) (pv 0) (pv 5) (fun _ _ => rfl))) (pss_one (ps_if (pt_cmpR (opIn K) (pv 6) (pe_S [38, 41]) (by with_unfolding_all rfl)) (pss_cons (ps_set (i := 7) sc_L_read.nd rfl (Or.inl rfl) (pe_f (ok_L_close (K := K) T) (hr.mono (by decide)) pass0 (pa_cons (pv 1) (pa_cons (pv 2) (pa_cons (pv 3) (pa_cons (pv 6) pa_nil)))))) (pss_cons (ps_if (pt_cmpR op_isP (pv 7) pe_non (nomark _)) (pss_one (ps_ret (pe_tup (pa_cons (pe_S [98, 97, 100]) (pa_cons (pv 5) pa_nil))))) pss_nil) (pss_cons (ps_set (i := 1) sc_L_read.nd rfl (Or.inl rfl) (pe_ix (ixK K) (pv 7) pe_int (fun _ _ => rfl))) (pss_cons (ps_set (i := 2) sc_L_read.nd rfl (Or.inl rfl) (pe_ix (ixK K) (pv 7) pe_int (fun _ _ => rfl))) (pss_cons (ps_set (i := 3) sc_L_read.nd rfl (Or.inl rfl) (pe_ix (ixK K) (pv 7) pe_int (fun _ _ => rfl))) (pss_cons (ps_set (i := 4) sc_L_read.nd rfl (Or.inl rfl) pe_bl) (pss_one (ps_set (i := 5) sc_L_read.nd rfl (Or.inl rfl) (pe_op (opAdd K) (pv 5) pe_int))))))))) (pss_one (ps_if (pt_cmpR (opEq K hr.units) (pv 6) (pe_S [64]) (nomark _)) (pss_cons (ps_set (i := 8) sc_L_read.nd rfl (Or.inl rfl) (pe_f (ok_L_run (K := K) T) (hr.mono (by decide)) pass0 (pa_cons (pv 0) (pa_cons (pe_op (opAdd K) (pv 5) pe_int) pa_nil)))) (Evl.pss_cut (ps_if (pw_or (pt_val (pv 4)) (pw_or1 (pt_cmpR (opEq K hr.units) (pe_ix (ixK K) (pv 3) pe_int (fun _ _ => rfl)) pe_int (nomark _)))).pt (pss_one (ps_ret (pe_tup (pa_cons (pe_S [98, 97, 100]) (pa_cons (pv 5) pa_nil))))) pss_nil) (Evl.pss_cut (ps_if (pw_or (pt_cmpR (opEq K hr.units) (pv 8) (pe_S []) (nomark _)) (pw_or1 (pt_cmpR op_isP (pe_f (ok_L_fill (K := K) T) (hr.mono (by decide)) pass0 (pa_cons (pv 3) (pa_cons (pv 8) pa_nil))) pe_non (nomark _)))).pt (pss_one (ps_ret (pe_tup (pa_cons (pe_S [98, 97, 100]) (pa_cons (pe_op (opAdd K) (pv 5) pe_int) pa_nil))))) pss_nil) (pss_cons (ps_set (i := 3) sc_L_read.nd rfl (Or.inl rfl) (pe_f (ok_L_fill (K := K) T) (hr.mono (by decide)) pass0 (pa_cons (pv 3) (pa_cons (pv 8) pa_nil)))) (pss_cons (ps_set (i := 4) sc_L_read.nd rfl (Or.inl rfl) pe_bl) (pss_one (ps_set (i := 5) sc_L_read.nd rfl (Or.inl rfl) (pe_op (opAdd K) (pe_op (opAdd K) (pv 5) pe_int) (pe_callB (cLen K) (by rfl) T.b_len (by decide +kernel) (pa_cons (pv 8) pa_nil)))))))))) (pss_cons (ps_set (i := 8) sc_L_read.nd rfl (Or.inl rfl) (pe_f (ok_L_run (K := K) T) (hr.mono (by decide)) pass0 (pa_cons (pv 0) (pa_cons (pv 5) pa_nil)))) (pss_cons (ps_set (i := 9) sc_L_read.nd rfl (Or.inl rfl) (pv 5)) (pss_cons (ps_set (i := 5) sc_L_read.nd rfl (Or.inl rfl) (pe_op (opAdd K) (pv 5) (pe_callB (cLen K) (by rfl) T.b_len (by decide +kernel) (pa_cons (pv 8) pa_nil)))) (pss_cons (ps_set (i := 6) sc_L_read.nd rfl (Or.inl rfl) (pe_slice (slK K) (pv 0) (po_some (pv 5)) (po_some (pe_op (opAdd K) (pv 5) pe_int)))) (pss_cons (ps_set (i := 10) sc_L_read.nd rfl (Or.inl rfl) (pe_f (ok_L_times (K := K) T) (hr.mono (by decide)) pass0 (pa_cons (pv 8) (pa_cons (pv 6) pa_nil)))) (Evl.pss_cut (ps_if (pw_or (pt_val (pv 4)) (pw_or1 (pt_cmpR op_isP (pv 10) pe_non (nomark _)))).pt (pss_one (ps_ret (pe_tup (pa_cons (pe_S [98, 97, 100]) (pa_cons (pv 9) pa_nil))))) pss_nil) (Evl.pss_cut (ps_if (pw_or (pt_cmpR (opEq K hr.units) (pv 10) (pe_un un_neg pe_int) (nomark _)) (pw_or (pt_cmpR (opNotIn K) (pv 6) (pe_S [46, 103, 114, 119, 40]) (by with_unfolding_all rfl)) (pw_or1 (pw_and (pt_cmpR (opEq K hr.units) (pv 6) (pe_S [40]) (nomark _)) (pw_and1 (pw_or (pt_cmpR (opEq K hr.units) (pv 8) (pe_S []) (nomark _)) (pw_or1 (pt_cmpR (opEq K hr.units) (pe_callB (cLen K) (by rfl) T.b_len (by decide +kernel) (pa_cons (pv 1) pa_nil)) pe_int (nomark _)))).pt)).pt))).pt (pss_one (ps_ret (pe_tup (pa_cons (pe_S [98, 97, 100]) (pa_cons (pv 5) pa_nil))))) pss_nil) (pss_cons (ps_set (i := 5) sc_L_read.nd rfl (Or.inl rfl) (pe_op (opAdd K) (pv 5) pe_int)) (pss_one (ps_if (pt_cmpR (opEq K hr.units) (pv 6) (pe_S [40]) (nomark _)) (pss_cons (ps_set (i := 1) sc_L_read.nd rfl (Or.inl rfl) (pe_op (opAdd K) (pv 1) (pe_lst (pa_cons (pe_tup (pa_cons (pv 10) (pa_cons (pv 2) (pa_cons (pv 3) pa_nil)))) pa_nil)))) (pss_cons (ps_set (i := 2) sc_L_read.nd rfl (Or.inl rfl) (pe_lst pa_nil)) (pss_one (ps_set (i := 3) sc_L_read.nd rfl (Or.inl rfl) (pe_tup (pa_cons pe_int (pa_cons (pe_S []) pa_nil))))))) (pss_one (ps_set (i := 3) sc_L_read.nd rfl (Or.inl rfl) (pe_f (ok_L_behind (K := K) T) (hr.mono (by decide)) pass0 (pa_cons (pv 3) (pa_cons (pe_f (ok_L_often (K := K) T) (hr.mono (by decide)) pass0 (pa_cons (pe_tup (pa_cons pe_int (pa_cons (pv 6) pa_nil))) (pa_cons (pv 10) pa_nil))) pa_nil))))))))))))))))))))) (Evl.pss_cut (ps_if (pw_or (pt_cmpR (opEq K hr.units) (pe_ix (ixK K) (pv 3) pe_int (fun _ _ => rfl)) pe_int (nomark _)) (pw_or1 (pt_truth (pv 1) (fun _ => rfl)))).pt (pss_one (ps_ret (pe_tup (pa_cons (pe_S [98, 97, 100]) (pa_cons (pe_callB (cLen K) (by rfl) T.b_len (by decide +kernel) (pa_cons (pv 0) pa_nil)) pa_nil))))) pss_nil) (pss_cons (ps_set (i := 11) sc_L_read.nd rfl (Or.inl rfl) (pe_f (ok_L_together (K := K) T) (hr.mono (by decide)) pass0 (pa_cons (pe_op (opAdd K) (pv 2) (pe_lst (pa_cons (pv 3) pa_nil))) pa_nil))) (pss_cons (ps_if (pt_cmpR op_gtP (pe_ix (ixK K) (pv 11) pe_int (fun _ _ => rfl)) pe_int (nomark _)) (pss_one (ps_ret (pe_tup (pa_cons (pe_S [108, 111, 110, 103]) (pa_cons (pe_ix (ixK K) (pv 11) pe_int (fun _ _ => rfl)) pa_nil))))) pss_nil) (pss_one (ps_ret (pe_tup (pa_cons (pe_S [114, 111, 119]) (pa_cons (pe_ix (ixK K) (pv 11) pe_int (fun _ _ => rfl)) pa_nil)))))))))))))), ?_⟩
  show (_ : TS) { nx := fun _ H' => Q .non H', rt := Q } [some x, none, none, none, none, none, none, none, none, none, none, none] H
  obtain ⟨z, rfl, hz, q⟩ := h
  walk_at "go"
  refine i_new (by show 0 ≤ 100000; omega) fun p1 n1 => ?_
  walk_at "go"
  refine i_new (by show 0 ≤ 100000; omega) fun p2 n2 => ?_
  walk_at "go"
  refine i_new (by show 2 ≤ 100000; omega) fun p3 n3 => ?_
  walk_at "go"
  have s1 := same_upd (o := .lst []) n1
  have s2 := same_upd (o := .lst []) n2
  have s3 := same_upd (o := .tup [.int 0, S []]) n3
  have ends : ∀ {H' : Hp} {d : HO}, Same H H' → dueF (told z) = d → ∀ p, H' p = none → Q (.ref p) (upd H' p d) := fun s e p n => q p _ (s.trans (same_upd n)) (by rw [upd_same, e])
  refine i_while (At z H) z.length ⟨[], [], (0, []), false, 0, z.length + 1, p1, p2, p3, _, _, _, _, _, _, rfl, rfl, by omega, (s1.trans s2).trans s3, ⟨[], s3 _ _ (s2 _ _ upd_same), .nil⟩, ⟨[], s3 _ _ upd_same, rfl, fun i q p h => by simp at h⟩, upd_same, WB.start, ⟨Nat.le_refl _, Nat.le_refl _, by simp⟩, by omega, lread_told z _ (Nat.le_refl _)⟩ ?_
  clear s1 s2 s3 n1 n2 n3
  rintro m σ H' ⟨st, ps, p, fl, a, f, Ds, Dp, pq, v6, v7, v8, v9, v10, v11, rfl, rfl, ha, sm, hS, hP, hq, wb, lb, hf, hL⟩
  obtain ⟨f', rfl⟩ : ∃ f', f = f' + 1 := ⟨f - 1, by omega⟩
  have ps24 : H' pq = some (.tup [.int (p.1 : Int), if p.1 ≤ 24 then S p.2 else .non]) := hq
  unfold lread at hL
  walk_at "go"
  by_cases hl : a < z.length
  case neg =>
    -- the end of the text
    have ea : a = z.length := by omega
    rw [List.getElem?_eq_none (by omega)] at hL
    dsimp only at hL
    refine i_dec (fun e => absurd (by omega) hl) (fun _ => ?_)
    refine i_cut (fun σ H2 => σ = [some (S z), some (.ref Ds), some (.ref Dp), some (.ref pq), some (.bl fl), some (.int (a : Int)), v6, v7, v8, v9, v10, v11] ∧ H2 = H' ∧ ¬ (p.1 = 0 ∨ st ≠ [])) ?_ ?_
    · have bad : (p.1 = 0 ∨ st ≠ []) → ∀ p, H' p = none → Q (.ref p) (upd H' p (.tup [S BAD, .int (z.length : Int)])) := fun e => ends sm (by rw [← hL, if_pos e]; rfl)
      walk_at "go"
      refine i_dec (fun e1 => ?_) (fun e1 => ?_)
      · walk_at "go"
        exact i_new (by show 2 ≤ 100000; omega) (bad (.inl (by omega)))
      walk_at "go"
      obtain ⟨as, hD, hF⟩ := hS
      have hlen := hF.len
      refine ⟨_, .inl ⟨_, .inl (.inl hD), rfl⟩, ?_⟩
      cases as with
      | nil =>
        have : st = [] := List.length_eq_zero_iff.mp hlen.symm
        refine i_ff ?_
        walk_at "go"
        exact ⟨rfl, rfl, fun z => z.elim (fun z => e1 (by omega)) (fun z => z this)⟩
      | cons x r =>
        refine i_tt ?_
        walk_at "go"
        exact i_new (by show 2 ≤ 100000; omega) (bad (.inr (fun z => by rw [z] at hlen; cases hlen)))
    rintro σ H2 ⟨rfl, rfl, hn⟩
    rw [if_neg hn] at hL
    have hp : p.1 ≠ 0 := fun e => hn (.inl e)
    obtain ⟨qs, hD, hA⟩ := hP
    have hlp := lb.lps
    have hql := hA.1
    walk_at "go"
    refine i_new (by show 1 ≤ 100000; omega) fun p1 n1 => ?_
    walk_at "go"
    refine i_catL ((upd_ne (ne_of_none hD n1)).trans hD) upd_same (by rw [List.length_map]; show _ + 1 ≤ 100000; omega) fun p2 n2 => ?_
    have s2 : Same H2 (upd (upd H2 p1 (.lst [.ref pq])) p2 (.lst (qs.map V.ref ++ [.ref pq]))) := (same_upd n1).trans (same_upd n2)
    have eW : (upd (upd H2 p1 (.lst [.ref pq])) p2 (.lst (qs.map V.ref ++ [.ref pq]))) p2 = some (.lst ((qs ++ [pq]).map V.ref)) := by rw [upd_same, List.map_append]; rfl
    generalize upd (upd H2 p1 (.lst [.ref pq])) p2 (.lst (qs.map V.ref ++ [.ref pq])) = H3 at *
    have hA2 : PartsAt H3 (qs ++ [pq]) (ps ++ [p]) := (hA.mono s2).snoc (s2 _ _ hq)
    walk_at "go"
    refine ⟨p2, qs ++ [pq], ps ++ [p], rfl, .inl (.inl eW), hA2, by rw [List.length_append]; show _ + 1 ≤ 90000; omega, wf_snoc wb.wf hp, wb.big hp (by omega), fun p4 H4 s4 h4 => ?_⟩
    have hd : dueF (told z) = if 24 < lcmL (ps ++ [p]) then .tup [S LONG, .int (lcmL (ps ++ [p]) : Int)] else .tup [S ROWW, S (showN (ps ++ [p]) (lcmL (ps ++ [p])))] := by rw [← hL]; rfl
    generalize showN (ps ++ [p]) (lcmL (ps ++ [p])) = row at *
    generalize lcmL (ps ++ [p]) = n at *
    have p24 : H4 p4 = some (.tup [.int (n : Int), if n ≤ 24 then S row else .non]) := h4
    walk_at "go"
    refine i_dec (fun e => ?_) (fun e => ?_)
    · rw [if_pos (by omega)] at hd
      walk_at "go"
      exact i_new (by show 2 ≤ 100000; omega) (ends ((sm.trans s2).trans s4) hd)
    · rw [if_neg (by omega)] at hd
      walk_at "go"
      rw [if_pos (by omega)]
      exact i_new (by show 2 ≤ 100000; omega) (ends ((sm.trans s2).trans s4) hd)
  have hc : z[a]? = some z[a] := List.getElem?_eq_getElem hl
  rw [hc] at hL
  generalize z[a] = c at *
  dsimp only at hL
  have hlp := lb.lps
  have hls := lb.lst
  refine i_dec (fun _ => ?_) (fun e => absurd (by omega) e)
  refine i_turn ?_
  walk_at "go"
  refine i_ix_str (c := c) (by omega) (by omega) (by rw [Int.toNat_natCast]; exact hc) ?_
  walk_at "go"
  refine i_dec (fun e1 => ?_) (fun e1 => ?_)
  · -- & and )
    have hcc : c = 38 ∨ c = 41 := by simpa using e1
    rw [if_pos hcc] at hL
    walk_at "go"
    refine ⟨Ds, Dp, pq, st, ps, p, c, a, rfl, rfl, rfl, rfl, hS, hP, hq, hcc, wb, lb, by omega, fun e => ?_, fun st' ps' p' e H2 P2 Ds' Dp' q' s2 h2 hS' hP' hq' => ?_⟩
    · rw [e] at hL
      dsimp only at hL
      walk_at "go"
      exact i_new (by show 2 ≤ 100000; omega) (ends sm (by rw [← hL]; rfl))
    · rw [e] at hL
      dsimp only at hL
      walk_at "go"
      have wl : WB st' ps' p' (a + 1) ∧ LB st' ps' (a + 1) := by
        unfold lclose at e
        by_cases hn : p.1 = 0 ∨ (c = 41 ∧ st = [])
        · rw [if_pos hn] at e; cases e
        rw [if_neg hn] at e
        have hp : p.1 ≠ 0 := fun e => hn (.inl e)
        by_cases h38 : c = 38
        · rw [if_pos h38] at e
          cases e
          exact ⟨wb.amp hp, lb.grow (Nat.lt_succ_self _) (by rw [List.length_append]; show _ + 1 ≤ _; omega) (by omega) (fun f hf => .inl hf)⟩
        · rw [if_neg h38] at e
          match st, e, wb, lb with
          | (t, ps1, p1) :: rest, e, wb, lb =>
            cases e
            have h1 := lb.lfr _ List.mem_cons_self
            have h2 := lb.lst
            rw [List.length_cons] at h2
            exact ⟨wb.close hp, lb.grow (Nat.lt_succ_self _) (by dsimp only at h1; omega) (by omega) (fun f hf => .inl (List.mem_cons_of_mem _ hf))⟩
      exact ⟨z.length - (a + 1), by omega, st', ps', p', false, a + 1, f', Ds', Dp', q', _, _, _, _, _, _, rfl, rfl, by omega, sm.trans s2, hS', hP', hq', wl.1, wl.2, by omega, hL⟩
  have hcc : ¬ (c = 38 ∨ c = 41) := fun z => e1 (by simpa using z)
  rw [if_neg hcc] at hL
  walk_at "go"
  refine i_dec (fun e2 => ?_) (fun e2 => ?_)
  · -- @
    have h64 : c = 64 := (List.cons.inj e2).1
    rw [if_pos h64] at hL
    have ha1 : a + 1 ≤ z.length := by omega
    have bb := bd_le ha1
    have gb := bd_ge z (a + 1)
    have dg := run_digits z (a + 1)
    have rl : (run z (a + 1)).length ≤ z.length := by unfold bd at bb; omega
    have eb : bd z (a + 1) = a + 1 + (run z (a + 1)).length := rfl
    walk_at "go"
    refine ⟨z, a + 1, rfl, by rw [Int.natCast_add]; rfl, by omega, ha1, ?_⟩
    rw [eb] at hL bb gb
    generalize run z (a + 1) = r at *
    clear eb
    walk_at "go"
    refine i_cut (fun σ H2 => σ = [some (S z), some (.ref Ds), some (.ref Dp), some (.ref pq), some (.bl fl), some (.int (a : Int)), some (S [c]), v7, some (S r), v9, v10, v11] ∧ H2 = H' ∧ ¬ (fl = true ∨ p.1 = 0)) ?_ ?_
    · have bad : (fl = true ∨ p.1 = 0) → ∀ p, H' p = none → Q (.ref p) (upd H' p (.tup [S BAD, .int (a : Int)])) := fun e => ends sm (by rw [← hL, if_pos e]; rfl)
      walk_at "go"
      cases fl with
      | true =>
        refine i_tt ?_
        walk_at "go"
        exact i_new (by show 2 ≤ 100000; omega) (bad (.inl rfl))
      | false =>
        refine i_ff ?_
        walk_at "go"
        refine i_dec (fun e3 => ?_) (fun e3 => ?_)
        · walk_at "go"
          exact i_new (by show 2 ≤ 100000; omega) (bad (.inr (by omega)))
        · walk_at "go"
          exact ⟨rfl, rfl, fun z => z.elim (fun z => by cases z) (fun z => e3 (by omega))⟩
    rintro σ H2 ⟨rfl, rfl, hn⟩
    rw [if_neg hn] at hL
    have hp : p.1 ≠ 0 := fun e => hn (.inr e)
    refine i_cut (fun σ H3 => σ = [some (S z), some (.ref Ds), some (.ref Dp), some (.ref pq), some (.bl fl), some (.int (a : Int)), some (S [c]), v7, some (S r), v9, v10, v11] ∧ Same H2 H3 ∧ r ≠ [] ∧ ∃ p', lfill p r = some p' ∧ lread z f' st ps p' true (a + 1 + r.length) = told z) ?_ ?_
    · walk_at "go"
      refine i_dec (fun e3 => ?_) (fun e3 => ?_)
      · rw [if_pos e3] at hL
        walk_at "go"
        exact i_new (by show 2 ≤ 100000; omega) (ends sm (by rw [← hL]; rfl))
      rw [if_neg e3] at hL
      walk_at "go"
      refine ⟨pq, p, r, rfl, rfl, hq, by omega, wb.wf.2, e3, dg, by omega, fun e => ?_, fun p' e H3 q' s3 h3 => ?_⟩
      · rw [e] at hL
        walk_at "go"
        exact i_new (by show 2 ≤ 100000; omega) (ends sm (by rw [← hL]; rfl))
      · rw [e] at hL
        walk_at "go"
        exact ⟨rfl, s3, e3, p', e, hL⟩
    rintro σ H3 ⟨rfl, s3, e3, p', e, hL⟩
    walk_at "go"
    refine ⟨pq, p, r, rfl, rfl, s3 _ _ hq, by omega, wb.wf.2, e3, dg, by omega, fun e' => by rw [e] at e'; (cases e'), fun p'' e' H4 q' s4 h4 => ?_⟩
    rw [e] at e'
    cases e'
    walk_at "go"
    have hfill : p' = fillTo p (num r) ∧ p.1 ≤ num r ∧ num r ≤ 24 := by
      unfold lfill at e
      by_cases hw : r.take 1 = [48] ∨ within r (max 1 p.1) 24 = false
      · rw [if_pos hw] at e; cases e
      · rw [if_neg hw] at e
        have hx : within r (max 1 p.1) 24 = true := by
          cases hx : within r (max 1 p.1) 24 with
          | true => rfl
          | false => exact absurd (.inr hx) hw
        obtain ⟨w1, w2, w3, w4⟩ := within_iff.mp hx
        cases e
        exact ⟨rfl, by omega, w4⟩
    obtain ⟨e5, e6, e7⟩ := hfill
    subst e5
    have s34 := s3.trans s4
    refine ⟨z.length - (a + 1 + r.length), by omega, st, ps, _, true, a + 1 + r.length, f', Ds, Dp, q', some (S [c]), v7, some (S r), v9, v10, v11, rfl, by (simp only [Int.natCast_add]; rfl), by omega, sm.trans s34, hS.mono s34, hP.mono s34, h4, wb.fill (by omega) e6 e7, lb.grow (by omega) (by omega) (by omega) (fun f hf => .inl hf), by omega, hL⟩
  -- an item
  have h64 : c ≠ 64 := fun z => e2 (by rw [z])
  rw [if_neg h64] at hL
  have bb := bd_le ha
  have gb := bd_ge z a
  have dg := run_digits z a
  have rl : (run z a).length ≤ z.length := by unfold bd at bb; omega
  have eb : (a : Int) + ((run z a).length : Int) = ((bd z a : Nat) : Int) := by unfold bd; omega
  have r0 := bd_eq (z := z) (a := a)
  walk_at "go"
  refine ⟨z, a, rfl, rfl, by omega, ha, ?_⟩
  walk_at "go"
  rw [eb]
  refine i_sl_str (by omega) ?_
  rw [cutN_one bb]
  have rlen : (run z a).length = bd z a - a := by unfold bd; omega
  clear eb
  generalize run z a = r at *
  generalize hbd : bd z a = b at *
  clear hbd
  walk_at "go"
  refine ⟨r, z[b]?, rfl, rfl, dg, by omega, ?_⟩
  refine i_cut (fun σ H2 => ∃ to, σ = [some (S z), some (.ref Ds), some (.ref Dp), some (.ref pq), some (.bl fl), some (.int (b : Int)), some (S (z[b]?).toList), v7, some (S r), some (.int (a : Int)), some (oS (some to)), v11] ∧ H2 = H' ∧ fl = false ∧ ltimes r z[b]? = some to) ?_ ?_
  · walk_at "go"
    cases fl with
    | true =>
      refine i_tt ?_
      walk_at "go"
      exact i_new (by show 2 ≤ 100000; omega) (ends sm (by rw [← hL]; rfl))
    | false =>
      refine i_ff ?_
      rw [if_neg (by decide)] at hL
      walk_at "go"
      cases hlt : ltimes r z[b]? with
      | none =>
        rw [hlt] at hL
        show isP V.non V.non H' _
        walk_at "go"
        exact i_new (by show 2 ≤ 100000; omega) (ends sm (by rw [← hL]; rfl))
      | some to =>
        cases to with
        | none =>
          show isP (V.int (-1)) V.non H' _
          walk_at "go"
          exact ⟨none, rfl, rfl, rfl, rfl⟩
        | some t =>
          show isP (V.int (t : Int)) V.non H' _
          walk_at "go"
          exact ⟨some t, rfl, rfl, rfl, rfl⟩
  rintro σ H2 ⟨to, rfl, rfl, rfl, hlt⟩
  rw [if_neg (by decide), hlt] at hL
  refine i_cut (fun σ H3 => ∃ t h : Nat, σ = [some (S z), some (.ref Ds), some (.ref Dp), some (.ref pq), some (.bl false), some (.int (b : Int)), some (S [h]), v7, some (S r), some (.int (a : Int)), some (.int (t : Int)), v11] ∧ H3 = H2 ∧ to = some t ∧ z[b]? = some h ∧ ¬ (h ∉ OPS ∨ (h = 40 ∧ (r = [] ∨ st.length = 6)))) ?_ ?_
  · cases to with
    | none =>
      dsimp only at hL
      show (_ : TS) _ [some (S z), some (.ref Ds), some (.ref Dp), some (.ref pq), some (.bl false), some (.int (b : Int)), some (S (z[b]?).toList), v7, some (S r), some (.int (a : Int)), some (.int (-1)), v11] H2
      walk_at "go"
      refine i_dec (fun _ => ?_) (fun e => absurd rfl e)
      walk_at "go"
      exact i_new (by show 2 ≤ 100000; omega) (ends sm (by rw [← hL]; rfl))
    | some t =>
      dsimp only at hL
      show (_ : TS) _ [some (S z), some (.ref Ds), some (.ref Dp), some (.ref pq), some (.bl false), some (.int (b : Int)), some (S (z[b]?).toList), v7, some (S r), some (.int (a : Int)), some (.int (t : Int)), v11] H2
      walk_at "go"
      refine i_dec (fun e => absurd e (by omega)) (fun _ => ?_)
      cases hb : z[b]? with
      | none =>
        rw [hb] at hlt
        by_cases er : r = []
        · have := r0.mpr er
          rw [this, hc] at hb
          cases hb
        · exact absurd hlt (ltimes_none er)
      | some h =>
        rw [hb] at hL
        dsimp only at hL
        have bad : (h ∉ OPS ∨ (h = 40 ∧ (r = [] ∨ st.length = 6))) → ∀ p, H2 p = none → Q (.ref p) (upd H2 p (.tup [S BAD, .int (b : Int)])) := fun e => ends sm (by rw [← hL, if_pos e]; rfl)
        have good : ¬ (h ∉ OPS ∨ (h = 40 ∧ (r = [] ∨ st.length = 6))) → ∃ t' h' : Nat, ([some (S z), some (.ref Ds), some (.ref Dp), some (.ref pq), some (.bl false), some (.int (b : Int)), some (S [h]), v7, some (S r), some (.int (a : Int)), some (.int (t : Int)), v11] : L2.St) = [some (S z), some (.ref Ds), some (.ref Dp), some (.ref pq), some (.bl false), some (.int (b : Int)), some (S [h']), v7, some (S r), some (.int (a : Int)), some (.int (t' : Int)), v11] ∧ H2 = H2 ∧ some t = some t' ∧ some h = some h' ∧ ¬ (h' ∉ OPS ∨ (h' = 40 ∧ (r = [] ∨ st.length = 6))) := fun e => ⟨t, h, rfl, rfl, rfl, rfl, e⟩
        walk_at "go"
        show notInP K (S [h]) (S [46, 103, 114, 119, 40]) H2 _
        refine i_notIn_sg ?_
        walk_at "go"
        refine i_decN (fun e3 => ?_) (fun e3 => ?_)
        · walk_at "go"
          exact i_new (by show 2 ≤ 100000; omega) (bad (.inl e3))
        walk_at "go"
        refine i_dec (fun e4 => ?_) (fun e4 => ?_)
        · have e40 : h = 40 := (List.cons.inj (show [h] = [40] from e4)).1
          walk_at "go"
          refine i_dec (fun e5 => ?_) (fun e5 => ?_)
          · walk_at "go"
            exact i_new (by show 2 ≤ 100000; omega) (bad (.inr ⟨e40, .inl e5⟩))
          walk_at "go"
          obtain ⟨as, hD, hF⟩ := hS
          have hlen := hF.len
          refine i_len_lst (.inl (.inl hD)) ?_
          walk_at "go"
          rw [List.length_map]
          refine i_dec (fun e6 => ?_) (fun e6 => ?_)
          · walk_at "go"
            exact i_new (by show 2 ≤ 100000; omega) (bad (.inr ⟨e40, .inr (by omega)⟩))
          · walk_at "go"
            exact good (fun z => z.elim (fun z => z e3) (fun z => z.2.elim e5 (fun z => e6 (by omega))))
        · walk_at "go"
          exact good (fun z => z.elim (fun z => z e3) (fun z => e4 (show [h] = [40] by rw [z.1])))
  rintro σ H3 ⟨t, h, rfl, rfl, rfl, hb, hn⟩
  rw [hb] at hL
  dsimp only at hL
  rw [if_neg hn] at hL
  obtain ⟨t1, t2⟩ := ltimes_some hlt
  have hbl := (List.getElem?_eq_some_iff.mp hb).1
  walk_at "go"
  refine i_dec (fun e3 => ?_) (fun e3 => ?_)
  · have e40 : h = 40 := (List.cons.inj e3).1
    rw [if_pos e40] at hL
    have rne : r ≠ [] := fun z => hn (.inr ⟨e40, .inl z⟩)
    have r1 : 1 ≤ r.length := by cases r with | nil => exact absurd rfl rne | cons x y => rw [List.length_cons]; omega
    walk_at "go"
    refine i_new (by show 3 ≤ 100000; omega) fun p1 n1 => ?_
    have s1 := same_upd (o := .tup [.int (t : Int), .ref Dp, .ref pq]) n1
    have e1' : (upd H3 p1 (.tup [.int (t : Int), .ref Dp, .ref pq])) p1 = some (.tup [.int (t : Int), .ref Dp, .ref pq]) := upd_same
    generalize upd H3 p1 (.tup [.int (t : Int), .ref Dp, .ref pq]) = H4 at *
    obtain ⟨as, hD, hF⟩ := hS
    have hlen := hF.len
    walk_at "go"
    refine i_new (by show 1 ≤ 100000; omega) fun p2 n2 => ?_
    have s2 := same_upd (o := .lst [.ref p1]) n2
    have e2' : (upd H4 p2 (.lst [.ref p1])) p2 = some (.lst [.ref p1]) := upd_same
    generalize upd H4 p2 (.lst [.ref p1]) = H5 at *
    walk_at "go"
    refine i_catL (s2 _ _ (s1 _ _ hD)) e2' (by rw [List.length_map]; show _ + 1 ≤ 100000; omega) fun p3 n3 => ?_
    have s3 := same_upd (o := .lst (as.map V.ref ++ [.ref p1])) n3
    have e3' : (upd H5 p3 (.lst (as.map V.ref ++ [.ref p1]))) p3 = some (.lst ((as ++ [p1]).map V.ref)) := by rw [upd_same, List.map_append]; rfl
    generalize upd H5 p3 (.lst (as.map V.ref ++ [.ref p1])) = H6 at *
    walk_at "go"
    refine i_new (by show 0 ≤ 100000; omega) fun p4 n4 => ?_
    have s4 := same_upd (o := .lst []) n4
    have e4' : (upd H6 p4 (.lst [])) p4 = some (.lst []) := upd_same
    generalize upd H6 p4 (.lst []) = H7 at *
    walk_at "go"
    refine i_new (by show 2 ≤ 100000; omega) fun p5 n5 => ?_
    have s5 := same_upd (o := .tup [.int 0, S []]) n5
    have sAll := (((s1.trans s2).trans s3).trans s4).trans s5
    have sR := ((s2.trans s3).trans s4).trans s5
    refine ⟨z.length - (b + 1), by omega, (t, ps, p) :: st, [], (0, []), false, b + 1, f', p3, p4, p5, _, _, _, _, _, _, rfl, rfl, by omega, sm.trans sAll, ⟨as ++ [p1], s5 _ _ (s4 _ _ e3'), .cons (hF.mono sAll) ⟨Dp, pq, sR _ _ e1', hP.mono sAll, sAll _ _ hq⟩⟩, ⟨[], s5 _ _ e4', rfl, fun i q p h => by simp at h⟩, upd_same, wb.opn (by omega) t1 t2, lb.grow (by omega) (by simp) (by rw [List.length_cons]; omega) (fun f hf => ?_), by omega, hL⟩
    rcases List.mem_cons.mp hf with rfl | hf
    · exact .inr hlp
    · exact .inl hf
  · have n40 : h ≠ 40 := fun z => e3 (by rw [z])
    rw [if_neg n40] at hL
    walk_at "go"
    refine i_new (by show 2 ≤ 100000; omega) fun p1 n1 => ?_
    have s1 := same_upd (o := .tup [.int 1, S [h]]) n1
    walk_at "go"
    refine ⟨p1, 1, [h], t, rfl, rfl, upd_same, by omega, fun _ => rfl, t1, by omega, fun p2 n2 => ?_⟩
    have s2 := same_upd (o := Sv (1 * t) (rpt t [h])) n2
    have hq2 := s2 _ _ (s1 _ _ hq)
    walk_at "go"
    refine ⟨pq, p2, p.1, _, p.2, _, rfl, rfl, hq2, upd_same, wb.wf.2, rep_lenS (s := (1, [h])) (fun _ => rfl) t1, fun p3 n3 => ?_⟩
    have sAll := (s1.trans s2).trans (same_upd (o := Sv (p.1 + 1 * t) (p.2 ++ rpt t [h])) n3)
    walk_at "go"
    exact ⟨z.length - (b + 1), by omega, st, ps, beh p (rep (1, [h]) t), false, b + 1, f', Ds, Dp, p3, _, _, _, _, _, _, rfl, rfl, by omega, sm.trans sAll, hS.mono sAll, hP.mono sAll, upd_same, wb.sign (by omega) t1 t2, lb.grow (by omega) (by omega) (by omega) (fun f hf => .inl hf), by omega, hL⟩
end
end K05
namespace K05
open PySem PySem.Spec PyProof.Rows L2 Fg
local macro_rules | `(tactic| walk_at "sq") => `(tactic| first
  | assumption
  | exact .inl (.inl (by assumption))
  | exact .inl (.inl upd_same))
local macro_rules | `(tactic| walk_at "st") => `(tactic| first
  | assumption
  | exact .inl (.inl (by assumption))
  | exact .inl (.inl upd_same))
local macro_rules | `(tactic| walk_at "o") => `(tactic| first
  | omega
  | assumption
  | (simp only [List.length_append, List.length_take, List.length_drop, List.length_cons, List.length_nil, List.length_singleton, List.length_map, List.length_range, Int.toNat_natCast] ; omega))
local macro_rules | `(tactic| walk_at "s") => `(tactic| first
  | (with_reducible refine i_seq ?_)
  | (with_reducible refine i_asg ?_)
  | ((with_reducible refine' i_var ?h1 ?_); (case h1 => rfl))
  | (with_reducible refine i_c ?_)
  | ((with_reducible refine' i_gname' ?h1 ?_); (case h1 => (simp only [List.set_cons_zero, List.set_cons_succ]; rfl)))
  | (with_reducible refine i_op ?_)
  | (with_reducible refine i_ifS ?_)
  | (with_reducible refine i_for ?_)
  | (with_reducible refine i_test ?_)
  | (with_reducible refine i_B ?_)
  | (with_reducible refine i_exbl ?_)
  | (with_reducible refine i_exint ?_)
  | (with_reducible refine i_cb ?_)
  | (with_reducible refine i_nil ?_)
  | (with_reducible refine i_cons ?_)
  | (with_reducible refine i_ret ?_)
  | (with_reducible refine i_sl ?_)
  | (with_reducible refine i_nopart ?_)
  | (with_reducible refine i_part ?_)
  | (with_reducible refine i_add_int ?_)
  | (with_reducible refine i_sub ?_)
  | (with_reducible refine i_lt ?_)
  | ((with_reducible refine' i_mod ?h1 ?_); (case h1 => walk_at "o"))
  | ((with_reducible refine' i_fdiv ?h1 ?_); (case h1 => (refine cdiv_small ?_ ?_ <;> walk_at "o")))
  | ((with_reducible refine' i_sl_to ?h1 ?h2 ?_); (case h1 => walk_at "o"); (case h2 => walk_at "o"))
  | ((with_reducible refine' i_sl_from ?h1 ?h2 ?_); (case h1 => walk_at "o"); (case h2 => walk_at "o"))
  | ((with_reducible refine' i_add_str ?h1 ?_); (case h1 => walk_at "o"))
  | ((with_reducible refine' i_mul_int ?h1 ?_); (case h1 => first | (refine mul_small ?_ ?_ <;> walk_at "o") | (refine mul_smallR ?_ ?_ <;> walk_at "o")))
  | (with_reducible refine i_le ?_)
  | (with_reducible refine i_gt ?_)
  | (with_reducible refine i_ge ?_)
  | (with_reducible refine i_eq_int ?_)
  | (with_reducible refine i_eq_str ?_)
  | (with_reducible refine i_ne_int ?_)
  | (with_reducible refine i_ne_str ?_)
  | (with_reducible refine i_eq_bl ?_)
  | (with_reducible refine i_ne_bl ?_)
  | (with_reducible refine i_in_sg ?_)
  | (with_reducible refine i_notIn_sg ?_)
  | (with_reducible refine i_call ?_)
  | (with_reducible refine i_callS ?_)
  | (with_reducible refine i_sp1 ?_)
  | (with_reducible refine i_sp2 ?_)
  | (with_reducible refine i_sp3 ?_)
  | (with_reducible refine i_sp4 ?_)
  | (with_reducible refine i_sp1' ?_)
  | (with_reducible refine i_sp2' ?_)
  | (with_reducible refine i_sp3' ?_)
  | ((with_reducible refine' i_ix_lst ?h1 ?h2 ?_); (case h1 => walk_at "sq"); (case h2 => first | exact atI_nat rfl | rfl))
  | ((with_reducible refine' i_ix_tup ?h1 ?h2 ?_); (case h1 => walk_at "st"); (case h2 => first | exact atI_nat rfl | rfl))
  | (with_reducible refine i_gsub ?_)
  | (with_reducible refine i_par ?_)
  | (with_reducible refine i_lstRg1 ?_)
  | (with_reducible refine i_app ?_)
  | (with_reducible refine i_par2 ?_)
  | ((with_reducible refine' i_aug ?h1 ?_); (case h1 => rfl))
  | (with_reducible refine i_ipI ?_)
  | ((with_reducible refine' i_gtup2 ?h1 ?_); (case h1 => walk_at "st"))
  | (with_reducible refine i_int_bl ?_)
  | (with_reducible refine i_raise ?_)
  | (with_reducible refine i_mkE ?_)
  | (with_reducible refine i_ex1 ?_)
  | (with_reducible refine i_and ?_)
  | (with_reducible refine i_or ?_)
  | (with_reducible refine i_not ?_)
  | (with_reducible refine i_tt ?_)
  | (with_reducible refine i_ff ?_)
  | (with_reducible refine i_nott ?_)
  | (with_reducible refine i_notf ?_)
  | (with_reducible refine i_andV ?_)
  | (with_reducible refine i_orV ?_)
  | (with_reducible refine i_notV ?_)
  | (with_reducible refine i_ifE ?_)
  | (with_reducible refine i_tup ?_)
  | (with_reducible refine i_lst ?_)
  | (with_reducible refine i_un ?_)
  | (with_reducible refine i_neg ?_)
  | (with_reducible refine i_chain ?_)
  | (with_reducible refine i_next ?_)
  | (with_reducible refine i_retN ?_)
  | (with_reducible refine i_drop ?_)
  | (with_reducible refine i_int_int ?_)
  | (with_reducible refine i_abs ?_)
  | (with_reducible refine i_m1c ?_)
  | (with_reducible refine i_is_non ?_)
  | (with_reducible refine i_is_int ?_)
  | (with_reducible refine i_is_bl ?_)
  | (with_reducible refine i_isn_bl ?_)
  | (with_reducible refine i_is_str ?_)
  | (with_reducible refine i_is_ref ?_)
  | (with_reducible refine i_isn_non ?_)
  | (with_reducible refine i_isn_int ?_)
  | (with_reducible refine i_isn_str ?_)
  | (with_reducible refine i_isn_ref ?_)
  | (with_reducible refine i_len_str ?h1 ?_; (case h1 => walk_at "o"))
  | (with_reducible refine i_isi_int_int ?_) | (with_reducible refine i_isi_int_bool ?_) | (with_reducible refine i_isi_int_str ?_) | (with_reducible refine i_isi_int_tuple ?_) | (with_reducible refine i_isi_int_list ?_)
  | (with_reducible refine i_isi_bl_int ?_) | (with_reducible refine i_isi_bl_bool ?_) | (with_reducible refine i_isi_bl_str ?_) | (with_reducible refine i_isi_bl_tuple ?_) | (with_reducible refine i_isi_bl_list ?_)
  | (with_reducible refine i_isi_str_int ?_) | (with_reducible refine i_isi_str_bool ?_) | (with_reducible refine i_isi_str_str ?_) | (with_reducible refine i_isi_str_tuple ?_) | (with_reducible refine i_isi_str_list ?_)
  | (with_reducible refine i_isi_non_int ?_) | (with_reducible refine i_isi_non_bool ?_) | (with_reducible refine i_isi_non_str ?_) | (with_reducible refine i_isi_non_tuple ?_) | (with_reducible refine i_isi_non_list ?_))
local macro_rules | `(tactic| walk_at "go") => `(tactic| (repeat' (walk_at "s")))
local macro_rules | `(tactic| walk_at "n") => `(tactic| simp only [wipe, List.map_cons, List.map_nil, List.set_cons_zero, List.set_cons_succ])
/-! ### texts put together -/
theorem joinL_len (ls : List (List Nat)) : (TL.joinL [38] ls).length ≤ (ls.map fun l => l.length + 1).sum := by
  induction ls with
  | nil => exact Nat.le_refl _
  | cons p r ih =>
    cases r with
    | nil => show p.length ≤ _; rw [List.map_cons, List.sum_cons]; omega
    | cons q r =>
      show (p ++ ([38] ++ TL.joinL [38] (q :: r))).length ≤ _
      rw [List.map_cons, List.sum_cons, List.length_append, List.length_append]
      have : ([38] : List Nat).length = 1 := rfl
      omega
theorem joinL_len1 (ls : List (List Nat)) (h : ls ≠ []) : (TL.joinL [38] ls).length + 1 ≤ (ls.map fun l => l.length + 1).sum := by
  induction ls with
  | nil => exact absurd rfl h
  | cons p r ih =>
    cases r with
    | nil => show p.length + 1 ≤ _; rw [List.map_cons, List.sum_cons]; omega
    | cons q r =>
      have := ih (by simp)
      show (p ++ ([38] ++ TL.joinL [38] (q :: r))).length + 1 ≤ _
      rw [List.map_cons, List.sum_cons, List.length_append, List.length_append]
      have : ([38] : List Nat).length = 1 := rfl
      omega
theorem join_sep (sep : List Nat) (ls : List (List Nat)) : Txt.join ⟨sep.toArray⟩ (ls.map fun l => (⟨l.toArray⟩ : Str)) = ⟨(TL.joinL sep ls).toArray⟩ := by
  refine TL.ext_tl ?_
  rw [TL.join_eq, TL.tl_join, List.map_map]
  show TL.joinL sep.toArray.toList (ls.map fun l => l.toArray.toList) = (TL.joinL sep ls).toArray.toList
  simp
theorem i_joinG {K : PySem.W.Frag} {H : Hp} {Q : VK} {p : Addr} {sep : List Nat} {ls : List (List Nat)} (hs : SqL K H p (ls.map S)) (hz : (ls.map List.length).sum + ls.length * sep.length ≤ 100000) (q : Q (S (TL.joinL sep ls)) H) : rJoinP K (S sep) [.ref p] H Q := by
  refine ⟨⟨sep.toArray⟩, p, ls.map fun l => (⟨l.toArray⟩ : Str), rfl, rfl, .inl ?_, ?_, ?_⟩
  · rw [List.map_map]; exact hs
  · rw [List.map_map]
    have e : (ls.map ((·.length) ∘ fun l => (⟨l.toArray⟩ : Str))) = ls.map List.length := List.map_congr_left fun l _ => str_len l
    rw [e, List.length_map]
    have e2 : (⟨sep.toArray⟩ : Str).length = sep.length := str_len sep
    show (ls.map List.length).sum + ls.length * (⟨sep.toArray⟩ : Str).length ≤ _
    rw [e2]
    exact Nat.le_trans hz (by decide)
  · rw [join_sep]; exact q
theorem sum_len1 (ls : List (List Nat)) : (ls.map fun l => l.length + 1).sum = (ls.map List.length).sum + ls.length := by
  induction ls with
  | nil => rfl
  | cons p r ih => rw [List.map_cons, List.map_cons, List.sum_cons, List.sum_cons, ih, List.length_cons]; omega
theorem upd_comm {H : Hp} {a b : Addr} {o o' : HO} (h : a ≠ b) : upd (upd H a o) b o' = upd (upd H b o') a o := by
  funext c
  by_cases h1 : c = b
  · rw [h1, upd_same, upd_ne (Ne.symm h), upd_same]
  · rw [upd_ne h1]
    by_cases h2 : c = a
    · rw [h2, upd_same, upd_same]
    · rw [upd_ne h2, upd_ne h2, upd_ne h1]
def ones (n : Nat) : List V := List.replicate n (.int 1)
theorem ones_succ (n : Nat) : ones n ++ [.int 1] = ones (n + 1) := by
  unfold ones
  rw [List.replicate_succ', ]
theorem dec_len (n : Nat) : (dec n).length ≤ 2 := by
  unfold dec
  split <;> simp
section
variable {P : Program} {w : World} {K : PySem.W.Frag} {mg : Str → Option Value} {base : Heap} {C_GlimError C_BadText C_TooLong : Addr}
def p_number (K : PySem.W.Frag) : P1 := fun x H Q _ => ∃ (H0 : Hp) (d : Dd), x = .ref d.a ∧ Dr K d H0 H ∧ ∀ l H', Dr K d H0 H' → l.length ≤ 3 → Q (S l) H'
theorem ok_L_number (T : Txt K mg C_GlimError C_BadText C_TooLong) : OK P w K mg base CX0 3 "_law_number" ["_law_draw_here"] (sp1  (p_number K)) := by
  refine OK.mk (k := 2) T.d_L_number sc_L_number len1 fun f cdv A outer s H vs Q E hr h => ?_
  obtain ⟨x, rfl, h⟩ := h
  refine ⟨_, (pss_cons (ps_if (pt_cmpR (opEq K hr.units) (pe_f (ok_L_pick (K := K) T) (hr.mono (by decide)) pass0 (pa_cons (pv 0) (pa_cons pe_int pa_nil))) pe_int (nomark _)) (pss_one (ps_ret (pe_ix (ixK K) (pe_lst (pa_cons (pe_S [48]) (pa_cons (pe_S [49]) (pa_cons (pe_S [50, 53]) (pa_cons (pe_S [48, 50]) (pa_cons (pe_S [49, 48, 48]) (pa_cons (pe_S [48, 48]) (pa_cons (pe_S [50, 52]) (pa_cons (pe_S [50]) pa_nil))))))))) (pe_f (ok_L_pick (K := K) T) (hr.mono (by decide)) pass0 (pa_cons (pv 0) (pa_cons pe_int pa_nil))) (fun _ _ => rfl)))) pss_nil) (pss_one (ps_ret (pe_callTy Fg.call_strS (by rfl) T.b_str (by decide +kernel) (pa_cons (pe_op (opAdd K) pe_int (pe_f (ok_L_pick (K := K) T) (hr.mono (by decide)) pass0 (pa_cons (pv 0) (pa_cons (pe_ix (ixK K) (pe_lst (pa_cons pe_int (pa_cons pe_int (pa_cons pe_int (pa_cons pe_int pa_nil))))) (pe_f (ok_L_pick (K := K) T) (hr.mono (by decide)) pass0 (pa_cons (pv 0) (pa_cons pe_int pa_nil))) (fun _ _ => rfl)) pa_nil)))) pa_nil))))), ?_⟩
  show (_ : TS) { nx := fun _ H' => Q .non H', rt := Q } [some x] H
  obtain ⟨H0, d, rfl, dr, q⟩ := h
  walk_at "go"
  refine ⟨H0, d, 10, rfl, rfl, dr, by decide, fun n H1 dr1 _ => ?_⟩
  walk_at "go"
  refine i_dec (fun _ => ?_) (fun _ => ?_)
  · walk_at "go"
    refine i_new (by show 8 ≤ 100000; omega) fun p np => ?_
    walk_at "go"
    refine ⟨_, d, 8, rfl, rfl, dr1.new np, by decide, fun n H2 dr2 b2 => ?_⟩
    have b0 := b2.1
    have b1 := b2.2.1 (by decide)
    have key : ∃ l : List Nat, [S [48], S [49], S [50, 53], S [48, 50], S [49, 48, 48], S [48, 48], S [50, 52], S [50]][n.toNat]? = some (S l) ∧ l.length ≤ 3 := by
      have hn : n.toNat = 0 ∨ n.toNat = 1 ∨ n.toNat = 2 ∨ n.toNat = 3 ∨ n.toNat = 4 ∨ n.toNat = 5 ∨ n.toNat = 6 ∨ n.toNat = 7 := by omega
      rcases hn with h | h | h | h | h | h | h | h <;> rw [h] <;> exact ⟨_, rfl, by decide⟩
    obtain ⟨l, hl, h3⟩ := key
    refine i_ix_lst (v := S l) (.inl (.inl (dr2.old upd_same))) (atI_int b0 hl) ?_
    exact q l H2 (dr2.less dr1.cells (dr1.free np)) h3
  · walk_at "go"
    refine i_new (by show 4 ≤ 100000; omega) fun p np => ?_
    walk_at "go"
    refine ⟨_, d, 4, rfl, rfl, dr1.new np, by decide, fun n H2 dr2 b2 => ?_⟩
    have b0 := b2.1
    have b1 := b2.2.1 (by decide)
    have key : ∃ m : Int, [V.int 2, V.int 3, V.int 8, V.int 23][n.toNat]? = some (.int m) ∧ 2 ≤ m ∧ m ≤ 23 := by
      have hn : n.toNat = 0 ∨ n.toNat = 1 ∨ n.toNat = 2 ∨ n.toNat = 3 := by omega
      rcases hn with h | h | h | h <;> rw [h] <;> exact ⟨_, rfl, by decide, by decide⟩
    obtain ⟨m, hm, m1, m2⟩ := key
    refine i_ix_lst (v := .int m) (.inl (.inl (dr2.old upd_same))) (atI_int b0 hm) ?_
    have dr3 := dr2.less dr1.cells (dr1.free np)
    walk_at "go"
    refine ⟨H0, d, m, rfl, rfl, dr3, by omega, fun n' H3 dr4 b4 => ?_⟩
    have c0 := b4.1
    have c1 := b4.2.1 m1
    walk_at "go"
    refine ⟨(2 + n').toNat, by rw [Int.toNat_of_nonneg (by omega)], by omega, ?_⟩
    exact q _ H3 dr4 (Nat.le_trans (dec_len _) (by decide))
/-- a part's text, a text of parts: both let the tally grow -/
def p_grow (K : PySem.W.Frag) (e : Nat) : P3 := fun x y z H Q _ => ∃ (H0 : Hp) (d : Dd) (D : Int) (t : Addr) (T : Nat), x = .ref d.a ∧ y = .int D ∧ z = .ref t ∧ 0 ≤ D ∧ D + (e : Int) = 6 ∧ SqL K H0 d.c (d.ns.map V.int) ∧ H0 t = none ∧ Dr K d (upd H0 t (.lst (ones T))) H ∧ T ≤ 100 ∧
  ∀ l T' H', T < T' → T' ≤ max T 29 + 3 * (e + 1) → l.length + 1 ≤ 9 * (T' - T) → Dr K d (upd H0 t (.lst (ones T'))) H' → Q (S l) H'
/-- deeper: never, at the deepest -/
def p_deep (K : PySem.W.Frag) : Nat → P3
  | 0 => fun _ _ _ _ _ _ => False
  | e + 1 => p_grow K e
theorem ok_L_part_text (T : Txt K mg C_GlimError C_BadText C_TooLong) (e : Nat) (R : OK P w K mg base CX0 (2 * e + 3) "_law_parts_text" ["_law_draw_here", "_law_depth", "_law_tally"] (sp3 (p_deep K e))) :
    OK P w K mg base CX0 (2 * e + 4) "_law_part_text" ["_law_draw_here", "_law_depth", "_law_tally"] (sp3 (p_grow K e)) := by
  refine OK.mk (k := 2 * e + 3) T.d_L_part_text sc_L_part_text len3 fun f cdv A outer s H vs Q E hr h => ?_
  obtain ⟨x, y, z, rfl, h⟩ := h
  refine ⟨_, (pss_cons (ps_set (i := 3) sc_L_part_text.nd rfl (Or.inl rfl) (pe_S [])) (pss_cons (ps_for PassesOwn.never rfl (pi_range1 rfl T.b_range (pa_cons (pe_op (opAdd K) pe_int (pe_f (ok_L_pick (K := K) T) (hr.mono (by omega)) pass0 (pa_cons (pv 0) (pa_cons pe_int pa_nil)))) pa_nil)) (pg_name (i := 4) sc_L_part_text.nd rfl (Or.inl rfl)) (pss_cons (ps_expr (peApp K (pv 2) (pa_cons pe_int pa_nil))) (pss_cons (ps_set (i := 5) sc_L_part_text.nd rfl (Or.inl rfl) (pe_f (ok_L_pick (K := K) T) (hr.mono (by omega)) pass0 (pa_cons (pv 0) (pa_cons pe_int pa_nil)))) (pss_one (ps_if (pw_and (pt_cmpR (opEq K hr.units) (pv 5) pe_int (nomark _)) (pw_and (pt_cmpR op_ltP (pv 1) pe_int (nomark _)) (pw_and1 (pt_cmpR op_ltP (pe_callB (cLen K) (by rfl) T.b_len (by decide +kernel) (pa_cons (pv 2) pa_nil)) pe_int (nomark _))))).pt (pss_one (ps_set (i := 3) sc_L_part_text.nd rfl (Or.inl rfl) (pe_op (opAdd K) (pe_op (opAdd K) (pe_op (opAdd K) (pe_op (opAdd K) (pv 3) (pe_f (ok_L_number (K := K) T) (hr.mono (by omega)) pass0 (pa_cons (pv 0) pa_nil))) (pe_S [40])) (pe_f R (hr.mono (by omega)) pass0 (pa_cons (pv 0) (pa_cons (pe_op (opAdd K) (pv 1) pe_int) (pa_cons (pv 2) pa_nil))))) (pe_S [41])))) (pss_one (ps_if (pt_cmpR (opEq K hr.units) (pv 5) pe_int (nomark _)) (pss_one (ps_set (i := 3) sc_L_part_text.nd rfl (Or.inl rfl) (pe_op (opAdd K) (pe_op (opAdd K) (pv 3) (pe_f (ok_L_number (K := K) T) (hr.mono (by omega)) pass0 (pa_cons (pv 0) pa_nil))) (pe_f (ok_L_sign (K := K) T) (hr.mono (by omega)) pass0 (pa_cons (pv 0) pa_nil))))) (pss_one (ps_set (i := 3) sc_L_part_text.nd rfl (Or.inl rfl) (pe_op (opAdd K) (pv 3) (pe_f (ok_L_sign (K := K) T) (hr.mono (by omega)) pass0 (pa_cons (pv 0) pa_nil)))))))))))) (pss_cons (ps_set (i := 5) sc_L_part_text.nd rfl (Or.inl rfl) (pe_f (ok_L_pick (K := K) T) (hr.mono (by omega)) pass0 (pa_cons (pv 0) (pa_cons pe_int pa_nil)))) (Evl.pss_cut (ps_if (pt_cmpR (opEq K hr.units) (pv 5) pe_int (nomark _)) (pss_one (ps_set (i := 3) sc_L_part_text.nd rfl (Or.inl rfl) (pe_op (opAdd K) (pe_op (opAdd K) (pv 3) (pe_S [64])) (pe_callTy Fg.call_strS (by rfl) T.b_str (by decide +kernel) (pa_cons (pe_op (opAdd K) pe_int (pe_f (ok_L_pick (K := K) T) (hr.mono (by omega)) pass0 (pa_cons (pv 0) (pa_cons pe_int pa_nil)))) pa_nil))))) pss_nil) (pss_cons (ps_if (pt_cmpR (opEq K hr.units) (pv 5) pe_int (nomark _)) (pss_one (ps_set (i := 3) sc_L_part_text.nd rfl (Or.inl rfl) (pe_op (opAdd K) (pe_op (opAdd K) (pv 3) (pe_S [64])) (pe_callTy Fg.call_strS (by rfl) T.b_str (by decide +kernel) (pa_cons (pe_op (opAdd K) pe_int (pe_f (ok_L_pick (K := K) T) (hr.mono (by omega)) pass0 (pa_cons (pv 0) (pa_cons pe_int pa_nil)))) pa_nil))))) pss_nil) (pss_one (ps_ret (pv 3)))))))), ?_⟩
  show (_ : TS) { nx := fun _ H' => Q .non H', rt := Q } [some x, some y, some z, none, none, none] H
  obtain ⟨H0, d, D, t, T0, rfl, rfl, rfl, hD0, hD, hc, nt, dr, hT, q⟩ := h
  walk_at "go"
  refine i_forR ?_
  walk_at "go"
  refine ⟨_, d, 3, rfl, rfl, dr, by decide, fun n H1 dr1 b1 => ?_⟩
  have n0 := b1.1
  have n1 := b1.2.1 (by decide)
  walk_at "go"
  refine i_rngD (by omega) (by omega) (fun i σ' H' => ∃ (l : List Nat) (Ti : Nat) (v4 v5 : Option V), σ' = [some (.ref d.a), some (.int D), some (.ref t), some (S l), v4, v5] ∧ Dr K d (upd H0 t (.lst (ones Ti))) H' ∧ T0 + i ≤ Ti ∧ Ti ≤ max T0 29 + 3 * e + i ∧ l.length + 5 * i ≤ 9 * (Ti - T0) ∧ i ≤ 3) ⟨[], T0, _, _, rfl, dr1, by omega, by omega, by simp, by omega⟩ ?_ ?_
  · rintro i σ' H' hi ⟨l, Ti, v4, v5, rfl, dr2, t1, t2, t3, t4⟩
    have he6 : e ≤ 6 := by omega
    have hl1000 : l.length ≤ 5000 := by omega
    walk_at "go"
    have et : H' t = some (.lst (ones Ti)) := dr2.old upd_same
    refine i_appAt et ?_
    walk_at "go"
    refine i_appEnd et (by unfold ones; rw [List.length_replicate]; omega) ?_
    rw [ones_succ]
    have dr3 := dr2.put (o' := .lst (ones (Ti + 1))) hc nt
    walk_at "go"
    refine ⟨_, d, 5, rfl, rfl, dr3, by decide, fun k H2 dr4 _ => ?_⟩
    have plain : ∀ H', Dr K d (upd H0 t (.lst (ones (Ti + 1)))) H' → ∀ (l' : List Nat) v4 v5, l'.length ≤ l.length + 4 → ∃ (l : List Nat) (Tj : Nat) (v4' v5' : Option V), ([some (.ref d.a), some (.int D), some (.ref t), some (S l'), v4, v5] : L2.St) = [some (.ref d.a), some (.int D), some (.ref t), some (S l), v4', v5'] ∧ Dr K d (upd H0 t (.lst (ones Tj))) H' ∧ T0 + (i + 1) ≤ Tj ∧ Tj ≤ max T0 29 + 3 * e + (i + 1) ∧ l.length + 5 * (i + 1) ≤ 9 * (Tj - T0) ∧ i + 1 ≤ 3 := fun H' dr' l' v4 v5 hl' => ⟨l', Ti + 1, v4, v5, rfl, dr', by omega, by omega, by omega, by omega⟩
    walk_at "go"
    refine i_dec (fun a1 => ?_) (fun a1 => ?_)
    · walk_at "go"
      refine i_dec (fun a2 => ?_) (fun a2 => ?_)
      · walk_at "go"
        refine i_len_lst (.inl (.inl (dr4.old upd_same))) ?_
        walk_at "go"
        rw [show (ones (Ti + 1)).length = Ti + 1 from List.length_replicate]
        refine i_dec (fun a3 => ?_) (fun a3 => ?_)
        · -- a group
          obtain ⟨e', rfl⟩ : ∃ e', e = e' + 1 := ⟨e - 1, by omega⟩
          walk_at "go"
          refine ⟨_, d, rfl, dr4, fun ln H3 dr5 h3 => ?_⟩
          walk_at "go"
          refine ⟨H0, d, D + 1, t, Ti + 1, rfl, rfl, rfl, by omega, by omega, hc, nt, dr5, by omega, fun l' T2 H4 g1 g2 g3 dr6 => ?_⟩
          walk_at "go"
          refine ⟨_, T2, _, _, rfl, dr6, by omega, by omega, ?_, by omega⟩
          simp only [List.length_append]
          show l.length + ln.length + 1 + l'.length + 1 + 5 * (i + 1) ≤ _
          omega
        all_goals
          walk_at "go"
          refine i_dec (fun a4 => absurd a4 (by omega)) (fun a4 => ?_)
          walk_at "go"
          refine ⟨_, d, rfl, dr4, fun c H3 dr5 _ => ?_⟩
          walk_at "go"
          exact plain H3 dr5 _ _ _ (by rw [List.length_append]; show l.length + 1 ≤ _; omega)
      all_goals
        walk_at "go"
        refine i_dec (fun a4 => absurd a4 (by omega)) (fun a4 => ?_)
        walk_at "go"
        refine ⟨_, d, rfl, dr4, fun c H3 dr5 _ => ?_⟩
        walk_at "go"
        exact plain H3 dr5 _ _ _ (by rw [List.length_append]; show l.length + 1 ≤ _; omega)
    walk_at "go"
    refine i_dec (fun a4 => ?_) (fun a4 => ?_)
    · walk_at "go"
      refine ⟨_, d, rfl, dr4, fun ln H3 dr5 h3 => ?_⟩
      walk_at "go"
      refine ⟨_, d, rfl, dr5, fun c H4 dr6 _ => ?_⟩
      walk_at "go"
      exact plain H4 dr6 _ _ _ (by simp only [List.length_append]; show l.length + ln.length + 1 ≤ _; omega)
    · walk_at "go"
      refine ⟨_, d, rfl, dr4, fun c H3 dr5 _ => ?_⟩
      walk_at "go"
      exact plain H3 dr5 _ _ _ (by rw [List.length_append]; show l.length + 1 ≤ _; omega)
  · rintro σ' H' ⟨l, Ti, v4, v5, rfl, dr2, t1, t2, t3, t4⟩
    have he6 : e ≤ 6 := by omega
    have en : (1 + n).toNat = 1 + n.toNat := by omega
    rw [en] at t1 t2 t3
    have hl1000 : l.length ≤ 5000 := by omega
    walk_at "go"
    refine ⟨_, d, 8, rfl, rfl, dr2, by decide, fun k H2 dr4 _ => ?_⟩
    walk_at "go"
    refine i_cut (fun σ' H' => ∃ l' : List Nat, σ' = [some (.ref d.a), some (.int D), some (.ref t), some (S l'), v4, some (.int k)] ∧ Dr K d (upd H0 t (.lst (ones Ti))) H' ∧ (l' = l ∨ (k = 0 ∧ l'.length ≤ l.length + 3))) ?_ ?_
    · walk_at "go"
      refine i_dec (fun a1 => ?_) (fun a1 => ?_)
      · walk_at "go"
        refine ⟨_, d, 30, rfl, rfl, dr4, by decide, fun x H3 dr5 b5 => ?_⟩
        have x0 := b5.1
        have x1 := b5.2.1 (by decide)
        walk_at "go"
        refine ⟨(1 + x).toNat, by rw [Int.toNat_of_nonneg (by omega)], by omega, ?_⟩
        have dl := dec_len (1 + x).toNat
        generalize dec (1 + x).toNat = w' at *
        walk_at "go"
        exact ⟨_, rfl, dr5, .inr ⟨a1, by simp only [List.length_append]; show l.length + 1 + w'.length ≤ _; omega⟩⟩
      · walk_at "go"
        exact ⟨l, rfl, dr4, .inl rfl⟩
    · rintro σ' H3 ⟨l', rfl, dr5, hl'⟩
      have hl5 : l'.length ≤ 5003 := by rcases hl' with rfl | h <;> omega
      walk_at "go"
      refine i_dec (fun a1 => ?_) (fun a1 => ?_)
      · have e1 : l' = l := hl'.elim id (fun z => by omega)
        subst e1
        walk_at "go"
        refine ⟨_, d, 15, rfl, rfl, dr5, by decide, fun x H4 dr6 b6 => ?_⟩
        have x0 := b6.1
        have x1 := b6.2.1 (by decide)
        walk_at "go"
        refine ⟨(10 + x).toNat, by rw [Int.toNat_of_nonneg (by omega)], by omega, ?_⟩
        have dl := dec_len (10 + x).toNat
        generalize dec (10 + x).toNat = w' at *
        walk_at "go"
        exact q _ Ti H4 (by omega) (by omega) (by simp only [List.length_append]; show l'.length + 1 + w'.length + 1 ≤ _; omega) dr6
      · walk_at "go"
        exact q l' Ti H3 (by omega) (by omega) (by rcases hl' with rfl | h <;> omega) dr5
theorem ok_L_parts_text (T : Txt K mg C_GlimError C_BadText C_TooLong) (e : Nat) (R : OK P w K mg base CX0 (2 * e + 4) "_law_part_text" ["_law_draw_here", "_law_depth", "_law_tally"] (sp3 (p_grow K e))) :
    OK P w K mg base CX0 (2 * e + 5) "_law_parts_text" ["_law_draw_here", "_law_depth", "_law_tally"] (sp3 (p_grow K e)) := by
  refine OK.mk (k := 2 * e + 4) T.d_L_parts_text sc_L_parts_text len3 fun f cdv A outer s H vs Q E hr h => ?_
  obtain ⟨x, y, z, rfl, h⟩ := h
  refine ⟨_, (pss_cons (ps_set (i := 3) sc_L_parts_text.nd rfl (Or.inl rfl) (pe_lst (pa_cons (pe_f R (hr.mono (by omega)) pass0 (pa_cons (pv 0) (pa_cons (pv 1) (pa_cons (pv 2) pa_nil)))) pa_nil))) (pss_cons (ps_for PassesOwn.never rfl (pi_range1 rfl T.b_range (pa_cons (pe_ix (ixK K) (pe_lst (pa_cons pe_int (pa_cons pe_int (pa_cons pe_int (pa_cons pe_int (pa_cons pe_int pa_nil)))))) (pe_f (ok_L_pick (K := K) T) (hr.mono (by omega)) pass0 (pa_cons (pv 0) (pa_cons pe_int pa_nil))) (fun _ _ => rfl)) pa_nil)) (pg_name (i := 4) sc_L_parts_text.nd rfl (Or.inl rfl)) (pss_one (ps_if (pt_cmpR op_ltP (pe_callB (cLen K) (by rfl) T.b_len (by decide +kernel) (pa_cons (pv 2) pa_nil)) pe_int (nomark _)) (pss_one (ps_expr (peApp K (pv 3) (pa_cons (pe_f R (hr.mono (by omega)) pass0 (pa_cons (pv 0) (pa_cons (pv 1) (pa_cons (pv 2) pa_nil)))) pa_nil)))) pss_nil))) (pss_one (ps_ret (peJoin K (pe_S [38]) (pv 3)))))), ?_⟩
  show (_ : TS) { nx := fun _ H' => Q .non H', rt := Q } [some x, some y, some z, none, none] H
  obtain ⟨H0, d, D, t, T0, rfl, rfl, rfl, hD0, hD, hc, nt, dr, hT, q⟩ := h
  walk_at "go"
  refine ⟨H0, d, D, t, T0, rfl, rfl, rfl, hD0, hD, hc, nt, dr, hT, fun l1 T1 H1 g1 g2 g3 dr1 => ?_⟩
  walk_at "go"
  refine i_new (by show 1 ≤ 100000; omega) fun Dl nD => ?_
  have mD : (upd H0 t (.lst (ones T1))) Dl = none := dr1.free nD
  have neD : Dl ≠ t := fun z => by rw [z, upd_same] at mD; cases mD
  have mD0 : H0 Dl = none := by rw [upd_ne neD] at mD; exact mD
  have dr2 : Dr K d (upd (upd H0 Dl (.lst ([l1].map S))) t (.lst (ones T1))) (upd H1 Dl (.lst [S l1])) := by
    rw [upd_comm neD]; exact dr1.new nD
  have hcD : ∀ o, SqL K (upd H0 Dl o) d.c (d.ns.map V.int) := fun o => (same_upd mD0).seq hc
  have ntD : ∀ o, (upd H0 Dl o) t = none := fun o => by rw [upd_ne (Ne.symm neD)]; exact nt
  have he6 : e ≤ 6 := by omega
  walk_at "go"
  refine i_forR ?_
  walk_at "go"
  refine i_new (by show 5 ≤ 100000; omega) fun p np => ?_
  walk_at "go"
  refine ⟨_, d, 5, rfl, rfl, dr2.new np, by decide, fun n H2 dr3 b3 => ?_⟩
  have b0 := b3.1
  have b1 := b3.2.1 (by decide)
  have key : ∃ m : Int, [V.int 0, V.int 0, V.int 0, V.int 1, V.int 2][n.toNat]? = some (.int m) ∧ 0 ≤ m ∧ m ≤ 2 := by
    have hn : n.toNat = 0 ∨ n.toNat = 1 ∨ n.toNat = 2 ∨ n.toNat = 3 ∨ n.toNat = 4 := by omega
    rcases hn with h | h | h | h | h <;> rw [h] <;> exact ⟨_, rfl, by decide, by decide⟩
  obtain ⟨m, hm, m1, m2⟩ := key
  refine i_ix_lst (v := .int m) (.inl (.inl (dr3.old upd_same))) (atI_int b0 hm) ?_
  have dr4 := dr3.less dr2.cells (dr2.free np)
  walk_at "go"
  refine i_rngD m1 (by omega) (fun i σ' H' => ∃ (ls : List (List Nat)) (Ti : Nat) (v4 : Option V), σ' = [some (.ref d.a), some (.int D), some (.ref t), some (.ref Dl), v4] ∧ Dr K d (upd (upd H0 Dl (.lst (ls.map S))) t (.lst (ones Ti))) H' ∧ T0 < Ti ∧ Ti ≤ max T0 29 + 3 * (e + 1) ∧ (ls.map fun l => l.length + 1).sum ≤ 9 * (Ti - T0) ∧ ls ≠ [] ∧ ls.length ≤ 10 + i ∧ i ≤ 100) ⟨[l1], T1, _, rfl, dr4, g1, g2, by simpa using g3, by simp, by simp, by omega⟩ ?_ ?_
  · rintro i σ' H' hi ⟨ls, Ti, v4, rfl, dr5, t1, t2, t3, t4, t5, t6⟩
    walk_at "go"
    refine i_len_lst (.inl (.inl (dr5.old upd_same))) ?_
    walk_at "go"
    rw [show (ones Ti).length = Ti from List.length_replicate]
    refine i_dec (fun a1 => ?_) (fun a1 => ?_)
    · walk_at "go"
      refine i_appAt (dr5.old ((upd_ne neD).trans upd_same)) ?_
      walk_at "go"
      refine ⟨upd H0 Dl (.lst (ls.map S)), d, D, t, Ti, rfl, rfl, rfl, hD0, hD, hcD _, ntD _, dr5, by omega, fun l2 T2 H2 k1 k2 k3 dr6 => ?_⟩
      have eD : H2 Dl = some (.lst (ls.map S)) := dr6.old ((upd_ne neD).trans upd_same)
      walk_at "go"
      refine i_appEnd eD (by rw [List.length_map]; omega) ?_
      refine ⟨ls ++ [l2], T2, _, rfl, ?_, by omega, by omega, ?_, by simp, by rw [List.length_append]; show ls.length + 1 ≤ _; omega, by omega⟩
      · rw [upd_comm neD] at dr6 ⊢
        have := dr6.put (o' := .lst (ls.map S ++ [S l2])) ((same_upd nt).seq hc) (by rw [upd_ne neD]; exact mD0)
        rw [List.map_append]
        exact this
      · rw [List.map_append, List.sum_append]
        show _ + (l2.length + 1 + 0) ≤ _
        omega
    · walk_at "go"
      exact ⟨ls, Ti, _, rfl, dr5, t1, t2, t3, t4, by omega, by omega⟩
  · rintro σ' H' ⟨ls, Ti, v4, rfl, dr5, t1, t2, t3, t4, t5, t6⟩
    have hs := sum_len1 ls
    have hj := joinL_len1 ls t4
    walk_at "go"
    refine i_joinG (.inl (.inl (dr5.old ((upd_ne neD).trans upd_same)))) (by show _ + ls.length * 1 ≤ _; omega) ?_
    refine q _ Ti H' t1 t2 (by omega) ?_
    rw [upd_comm neD] at dr5
    exact dr5.less ((same_upd nt).seq hc) (by rw [upd_ne neD]; exact mD0)
theorem texts_all (T : Txt K mg C_GlimError C_BadText C_TooLong) : ∀ e, OK P w K mg base CX0 (2 * e + 3) "_law_parts_text" ["_law_draw_here", "_law_depth", "_law_tally"] (sp3 (p_deep K e))
  | 0 => by
    refine OK.mk (k := 2) T.d_L_parts_text sc_L_parts_text len3 fun f cdv A outer s H vs Q E hr h => ?_
    obtain ⟨x, y, u, rfl, h⟩ := h
    exact h.elim
  | e + 1 => ok_L_parts_text T e (ok_L_part_text T e (texts_all T e))
end
end K05
namespace K05
open PySem PySem.Spec PyProof.Rows L2 Fg
local macro_rules | `(tactic| walk_at "sq") => `(tactic| first
  | assumption
  | exact .inl (.inl (by assumption))
  | exact .inl (.inl upd_same))
local macro_rules | `(tactic| walk_at "st") => `(tactic| first
  | assumption
  | exact .inl (.inl (by assumption))
  | exact .inl (.inl upd_same))
local macro_rules | `(tactic| walk_at "o") => `(tactic| first
  | omega
  | assumption
  | (simp only [List.length_append, List.length_take, List.length_drop, List.length_cons, List.length_nil, List.length_singleton, List.length_map, List.length_range, Int.toNat_natCast] ; omega))
local macro_rules | `(tactic| walk_at "s") => `(tactic| first
  | (with_reducible refine i_seq ?_)
  | (with_reducible refine i_asg ?_)
  | ((with_reducible refine' i_var ?h1 ?_); (case h1 => rfl))
  | (with_reducible refine i_c ?_)
  | ((with_reducible refine' i_gname' ?h1 ?_); (case h1 => (simp only [List.set_cons_zero, List.set_cons_succ]; rfl)))
  | (with_reducible refine i_op ?_)
  | (with_reducible refine i_ifS ?_)
  | (with_reducible refine i_for ?_)
  | (with_reducible refine i_test ?_)
  | (with_reducible refine i_B ?_)
  | (with_reducible refine i_exbl ?_)
  | (with_reducible refine i_exint ?_)
  | (with_reducible refine i_cb ?_)
  | (with_reducible refine i_nil ?_)
  | (with_reducible refine i_cons ?_)
  | (with_reducible refine i_ret ?_)
  | (with_reducible refine i_sl ?_)
  | (with_reducible refine i_nopart ?_)
  | (with_reducible refine i_part ?_)
  | (with_reducible refine i_add_int ?_)
  | (with_reducible refine i_sub ?_)
  | (with_reducible refine i_lt ?_)
  | ((with_reducible refine' i_mod ?h1 ?_); (case h1 => walk_at "o"))
  | ((with_reducible refine' i_fdiv ?h1 ?_); (case h1 => (refine cdiv_small ?_ ?_ <;> walk_at "o")))
  | ((with_reducible refine' i_sl_to ?h1 ?h2 ?_); (case h1 => walk_at "o"); (case h2 => walk_at "o"))
  | ((with_reducible refine' i_sl_from ?h1 ?h2 ?_); (case h1 => walk_at "o"); (case h2 => walk_at "o"))
  | ((with_reducible refine' i_add_str ?h1 ?_); (case h1 => walk_at "o"))
  | ((with_reducible refine' i_mul_int ?h1 ?_); (case h1 => first | (refine mul_small ?_ ?_ <;> walk_at "o") | (refine mul_smallR ?_ ?_ <;> walk_at "o")))
  | (with_reducible refine i_le ?_)
  | (with_reducible refine i_gt ?_)
  | (with_reducible refine i_ge ?_)
  | (with_reducible refine i_eq_int ?_)
  | (with_reducible refine i_eq_str ?_)
  | (with_reducible refine i_ne_int ?_)
  | (with_reducible refine i_ne_str ?_)
  | (with_reducible refine i_eq_bl ?_)
  | (with_reducible refine i_ne_bl ?_)
  | (with_reducible refine i_in_sg ?_)
  | (with_reducible refine i_notIn_sg ?_)
  | (with_reducible refine i_call ?_)
  | (with_reducible refine i_callS ?_)
  | (with_reducible refine i_sp1 ?_)
  | (with_reducible refine i_sp2 ?_)
  | (with_reducible refine i_sp3 ?_)
  | (with_reducible refine i_sp4 ?_)
  | (with_reducible refine i_sp1' ?_)
  | (with_reducible refine i_sp2' ?_)
  | (with_reducible refine i_sp3' ?_)
  | ((with_reducible refine' i_ix_lst ?h1 ?h2 ?_); (case h1 => walk_at "sq"); (case h2 => first | exact atI_nat rfl | rfl))
  | ((with_reducible refine' i_ix_tup ?h1 ?h2 ?_); (case h1 => walk_at "st"); (case h2 => first | exact atI_nat rfl | rfl))
  | (with_reducible refine i_gsub ?_)
  | (with_reducible refine i_par ?_)
  | (with_reducible refine i_lstRg1 ?_)
  | (with_reducible refine i_app ?_)
  | (with_reducible refine i_par2 ?_)
  | ((with_reducible refine' i_aug ?h1 ?_); (case h1 => rfl))
  | (with_reducible refine i_ipI ?_)
  | ((with_reducible refine' i_gtup2 ?h1 ?_); (case h1 => walk_at "st"))
  | (with_reducible refine i_int_bl ?_)
  | (with_reducible refine i_raise ?_)
  | (with_reducible refine i_mkE ?_)
  | (with_reducible refine i_ex1 ?_)
  | (with_reducible refine i_and ?_)
  | (with_reducible refine i_or ?_)
  | (with_reducible refine i_not ?_)
  | (with_reducible refine i_tt ?_)
  | (with_reducible refine i_ff ?_)
  | (with_reducible refine i_nott ?_)
  | (with_reducible refine i_notf ?_)
  | (with_reducible refine i_andV ?_)
  | (with_reducible refine i_orV ?_)
  | (with_reducible refine i_notV ?_)
  | (with_reducible refine i_ifE ?_)
  | (with_reducible refine i_tup ?_)
  | (with_reducible refine i_lst ?_)
  | (with_reducible refine i_un ?_)
  | (with_reducible refine i_neg ?_)
  | (with_reducible refine i_chain ?_)
  | (with_reducible refine i_next ?_)
  | (with_reducible refine i_retN ?_)
  | (with_reducible refine i_drop ?_)
  | (with_reducible refine i_int_int ?_)
  | (with_reducible refine i_abs ?_)
  | (with_reducible refine i_m1c ?_)
  | (with_reducible refine i_is_non ?_)
  | (with_reducible refine i_is_int ?_)
  | (with_reducible refine i_is_bl ?_)
  | (with_reducible refine i_isn_bl ?_)
  | (with_reducible refine i_is_str ?_)
  | (with_reducible refine i_is_ref ?_)
  | (with_reducible refine i_isn_non ?_)
  | (with_reducible refine i_isn_int ?_)
  | (with_reducible refine i_isn_str ?_)
  | (with_reducible refine i_isn_ref ?_)
  | (with_reducible refine i_len_str ?h1 ?_; (case h1 => walk_at "o"))
  | (with_reducible refine i_isi_int_int ?_) | (with_reducible refine i_isi_int_bool ?_) | (with_reducible refine i_isi_int_str ?_) | (with_reducible refine i_isi_int_tuple ?_) | (with_reducible refine i_isi_int_list ?_)
  | (with_reducible refine i_isi_bl_int ?_) | (with_reducible refine i_isi_bl_bool ?_) | (with_reducible refine i_isi_bl_str ?_) | (with_reducible refine i_isi_bl_tuple ?_) | (with_reducible refine i_isi_bl_list ?_)
  | (with_reducible refine i_isi_str_int ?_) | (with_reducible refine i_isi_str_bool ?_) | (with_reducible refine i_isi_str_str ?_) | (with_reducible refine i_isi_str_tuple ?_) | (with_reducible refine i_isi_str_list ?_)
  | (with_reducible refine i_isi_non_int ?_) | (with_reducible refine i_isi_non_bool ?_) | (with_reducible refine i_isi_non_str ?_) | (with_reducible refine i_isi_non_tuple ?_) | (with_reducible refine i_isi_non_list ?_))
local macro_rules | `(tactic| walk_at "go") => `(tactic| (repeat' (walk_at "s")))
local macro_rules | `(tactic| walk_at "n") => `(tactic| simp only [wipe, List.map_cons, List.map_nil, List.set_cons_zero, List.set_cons_succ])
/-- a pick among texts that stand in a list -/
theorem pick_txt {ls : List (List Nat)} {n : Int} (h0 : 0 ≤ n) (h : n < ls.length) : ∃ l, (ls.map S)[n.toNat]? = some (S l) ∧ l ∈ ls := by
  have hn : n.toNat < ls.length := by omega
  exact ⟨ls[n.toNat], by rw [List.getElem?_map, List.getElem?_eq_getElem hn]; rfl, List.getElem_mem hn⟩
section
variable {P : Program} {w : World} {K : PySem.W.Frag} {mg : Str → Option Value} {base : Heap} {C_GlimError C_BadText C_TooLong : Addr}
def p_spoilt (K : PySem.W.Frag) : P2 := fun x y H Q _ => ∃ (H0 : Hp) (d : Dd) (z : List Nat), x = .ref d.a ∧ y = S z ∧ Dr K d H0 H ∧ z.length ≤ 1000 ∧ ∀ l H', Dr K d H0 H' → l.length ≤ z.length + 2 → Q (S l) H'
theorem ok_L_spoilt (T : Txt K mg C_GlimError C_BadText C_TooLong) : OK P w K mg base CX0 3 "_law_spoilt" ["_law_draw_here", "_law_text"] (sp2  (p_spoilt K)) := by
  refine OK.mk (k := 2) T.d_L_spoilt sc_L_spoilt len2 fun f cdv A outer s H vs Q E hr h => ?_
  obtain ⟨x, y, rfl, h⟩ := h
  refine ⟨_, (pss_cons (ps_set (i := 2) sc_L_spoilt.nd rfl (Or.inl rfl) (pe_f (ok_L_pick (K := K) T) (hr.mono (by decide)) pass0 (pa_cons (pv 0) (pa_cons (pe_op (opAdd K) (pe_callB (cLen K) (by rfl) T.b_len (by decide +kernel) (pa_cons (pv 1) pa_nil)) pe_int) pa_nil)))) (pss_cons (ps_set (i := 3) sc_L_spoilt.nd rfl (Or.inl rfl) (pe_ix (ixK K) (pe_S [46, 103, 114, 119, 48, 49, 50, 51, 52, 53, 54, 55, 56, 57, 40, 41, 64, 38, 120, 32, 87, 45]) (pe_f (ok_L_pick (K := K) T) (hr.mono (by decide)) pass0 (pa_cons (pv 0) (pa_cons pe_int pa_nil))) (fun _ _ => rfl))) (pss_cons (ps_set (i := 4) sc_L_spoilt.nd rfl (Or.inl rfl) (pe_f (ok_L_pick (K := K) T) (hr.mono (by decide)) pass0 (pa_cons (pv 0) (pa_cons pe_int pa_nil)))) (pss_cons (ps_if (pt_cmpR op_ltP (pv 4) pe_int (nomark _)) (pss_one (ps_ret (pe_op (opAdd K) (pe_op (opAdd K) (pe_slice (slK K) (pv 1) po_none (po_some (pv 2))) (pv 3)) (pe_slice (slK K) (pv 1) (po_some (pv 2)) po_none)))) pss_nil) (pss_cons (ps_if (pt_cmpR (opEq K hr.units) (pv 4) pe_int (nomark _)) (pss_one (ps_ret (pe_op (opAdd K) (pe_slice (slK K) (pv 1) po_none (po_some (pv 2))) (pe_slice (slK K) (pv 1) (po_some (pe_op (opAdd K) (pv 2) pe_int)) po_none)))) pss_nil) (pss_cons (ps_if (pt_cmpR (opEq K hr.units) (pv 4) pe_int (nomark _)) (pss_one (ps_ret (pe_op (opAdd K) (pe_op (opAdd K) (pe_slice (slK K) (pv 1) po_none (po_some (pv 2))) (pv 3)) (pe_slice (slK K) (pv 1) (po_some (pe_op (opAdd K) (pv 2) pe_int)) po_none)))) pss_nil) (pss_cons (ps_if (pt_cmpR (opEq K hr.units) (pv 4) pe_int (nomark _)) (pss_one (ps_ret (pe_slice (slK K) (pv 1) po_none (po_some (pv 2))))) pss_nil) (pss_one (ps_ret (pe_op (opAdd K) (pe_slice (slK K) (pv 1) po_none (po_some (pe_op (opAdd K) (pv 2) pe_int))) (pe_slice (slK K) (pv 1) (po_some (pv 2)) po_none))))))))))), ?_⟩
  show (_ : TS) { nx := fun _ H' => Q .non H', rt := Q } [some x, some y, none, none, none] H
  obtain ⟨H0, d, z, rfl, rfl, dr, hz, q⟩ := h
  walk_at "go"
  refine ⟨H0, d, _, rfl, rfl, dr, by omega, fun n H1 dr1 b1 => ?_⟩
  have n0 := b1.1
  have n1 := b1.2.1
  have n2 := b1.2.2
  have hn : n ≤ z.length := by omega
  walk_at "go"
  refine ⟨H0, d, 22, rfl, rfl, dr1, by decide, fun c H2 dr2 b2 => ?_⟩
  have c0 := b2.1
  have c1 := b2.2.1 (by decide)
  have key : ∃ x : Nat, ([46, 103, 114, 119, 48, 49, 50, 51, 52, 53, 54, 55, 56, 57, 40, 41, 64, 38, 120, 32, 87, 45] : List Nat)[c.toNat]? = some x := by
    have : c.toNat < 22 := by omega
    exact ⟨_, List.getElem?_eq_getElem (by show c.toNat < 22; exact this)⟩
  obtain ⟨x, hx⟩ := key
  refine i_ix_str (by decide) c0 hx ?_
  walk_at "go"
  refine ⟨H0, d, 6, rfl, rfl, dr2, by decide, fun k H3 dr3 _ => ?_⟩
  have out : ∀ l : List Nat, l.length ≤ z.length + 2 → Q (S l) H3 := fun l h => q l H3 dr3 h
  walk_at "go"
  refine i_dec (fun e => ?_) (fun e => ?_)
  · walk_at "go"
    refine out _ ?_
    simp only [List.length_append, List.length_take, List.length_drop, List.length_singleton]
    omega
  walk_at "go"
  refine i_dec (fun e => ?_) (fun e => ?_)
  · walk_at "go"
    refine out _ ?_
    simp only [List.length_append, List.length_take, List.length_drop]
    omega
  walk_at "go"
  refine i_dec (fun e => ?_) (fun e => ?_)
  · walk_at "go"
    refine out _ ?_
    simp only [List.length_append, List.length_take, List.length_drop, List.length_singleton]
    omega
  walk_at "go"
  refine i_dec (fun e => ?_) (fun e => ?_)
  · walk_at "go"
    refine out _ ?_
    simp only [List.length_take]
    omega
  walk_at "go"
  refine out _ ?_
  simp only [List.length_append, List.length_take, List.length_drop]
  omega
def p_chain (K : PySem.W.Frag) : P1 := fun x H Q _ => ∃ (H0 : Hp) (d : Dd), x = .ref d.a ∧ Dr K d H0 H ∧ ∀ l H', Dr K d H0 H' → l.length ≤ 100 → Q (S l) H'
theorem ok_L_chain (T : Txt K mg C_GlimError C_BadText C_TooLong) : OK P w K mg base CX0 4 "_law_chain" ["_law_draw_here"] (sp1  (p_chain K)) := by
  refine OK.mk (k := 3) T.d_L_chain sc_L_chain len1 fun f cdv A outer s H vs Q E hr h => ?_
  obtain ⟨x, rfl, h⟩ := h
  refine ⟨_, (pss_cons (ps_set (i := 1) sc_L_chain.nd rfl (Or.inl rfl) (pe_op (opAdd K) pe_int (pe_f (ok_L_pick (K := K) T) (hr.mono (by decide)) pass0 (pa_cons (pv 0) (pa_cons pe_int pa_nil))))) (pss_cons (ps_set (i := 2) sc_L_chain.nd rfl (Or.inl rfl) (pe_S [])) (pss_cons (ps_for PassesOwn.never rfl (pi_range1 rfl T.b_range (pa_cons (pv 1) pa_nil)) (pg_name (i := 3) sc_L_chain.nd rfl (Or.inl rfl)) (pss_one (ps_set (i := 2) sc_L_chain.nd rfl (Or.inl rfl) (pe_op (opAdd K) (pe_op (opAdd K) (pe_op (opAdd K) (pv 2) (pe_ix (ixK K) (pe_lst (pa_cons (pe_S []) (pa_cons (pe_S []) (pa_cons (pe_S [46]) (pa_cons (pe_S [119, 38]) pa_nil))))) (pe_f (ok_L_pick (K := K) T) (hr.mono (by decide)) pass0 (pa_cons (pv 0) (pa_cons pe_int pa_nil))) (fun _ _ => rfl))) (pe_callTy Fg.call_strS (by rfl) T.b_str (by decide +kernel) (pa_cons (pe_op (opAdd K) pe_int (pe_f (ok_L_pick (K := K) T) (hr.mono (by decide)) pass0 (pa_cons (pv 0) (pa_cons pe_int pa_nil)))) pa_nil))) (pe_S [40]))))) (pss_one (ps_ret (pe_op (opAdd K) (pe_op (opAdd K) (pv 2) (pe_f (ok_L_sign (K := K) T) (hr.mono (by decide)) pass0 (pa_cons (pv 0) pa_nil))) (pe_slice (slK K) (pe_op op_mulP (pe_S [41]) (pv 1)) (po_some (pe_ix (ixK K) (pe_lst (pa_cons pe_int (pa_cons pe_int (pa_cons pe_int (pa_cons pe_int pa_nil))))) (pe_f (ok_L_pick (K := K) T) (hr.mono (by decide)) pass0 (pa_cons (pv 0) (pa_cons pe_int pa_nil))) (fun _ _ => rfl))) po_none))))))), ?_⟩
  show (_ : TS) { nx := fun _ H' => Q .non H', rt := Q } [some x, none, none, none] H
  obtain ⟨H0, d, rfl, dr, q⟩ := h
  walk_at "go"
  refine ⟨H0, d, 4, rfl, rfl, dr, by decide, fun n H1 dr1 b1 => ?_⟩
  have n0 := b1.1
  have n1 := b1.2.1 (by decide)
  walk_at "go"
  refine i_forR ?_
  walk_at "go"
  refine i_rngD (by omega) (by omega) (fun i σ' H' => ∃ (l : List Nat) (v : Option V), σ' = [some (.ref d.a), some (.int (5 + n)), some (S l), v] ∧ Dr K d H0 H' ∧ l.length ≤ 5 * i ∧ i ≤ 8) ⟨[], _, rfl, dr1, by simp, by omega⟩ ?_ ?_
  · rintro i σ' H' hi ⟨l, v, rfl, dr2, hl, hi8⟩
    walk_at "go"
    refine i_new (by show 4 ≤ 100000; omega) fun p np => ?_
    walk_at "go"
    refine ⟨_, d, 4, rfl, rfl, dr2.new np, by decide, fun k H2 dr3 b3 => ?_⟩
    obtain ⟨w', hw, hm⟩ := pick_txt (ls := [[], [], [46], [119, 38]]) b3.1 (b3.2.1 (by decide))
    have hw2 : w'.length ≤ 2 := (by decide : ∀ w ∈ ([[], [], [46], [119, 38]] : List (List Nat)), w.length ≤ 2) w' hm
    refine i_ix_lst (v := S w') (.inl (.inl (dr3.old upd_same))) (atI_int b3.1 hw) ?_
    have dr4 := dr3.less dr2.cells (dr2.free np)
    walk_at "go"
    refine ⟨H0, d, 2, rfl, rfl, dr4, by decide, fun x H3 dr5 b5 => ?_⟩
    have x0 := b5.1
    have x1 := b5.2.1 (by decide)
    walk_at "go"
    refine ⟨(2 + x).toNat, by rw [Int.toNat_of_nonneg (by omega)], by omega, ?_⟩
    have dl : (dec (2 + x).toNat).length ≤ 1 := by
      unfold dec
      rw [if_pos (by omega)]
      exact Nat.le_refl _
    generalize dec (2 + x).toNat = w2 at *
    walk_at "go"
    exact ⟨_, _, rfl, dr5, by simp only [List.length_append]; show l.length + w'.length + w2.length + 1 ≤ _; omega, by omega⟩
  · rintro σ' H' ⟨l, v, rfl, dr2, hl, hi8⟩
    have l40 : l.length ≤ 40 := by omega
    walk_at "go"
    refine ⟨H0, d, rfl, dr2, fun c H2 dr3 _ => ?_⟩
    walk_at "go"
    refine i_mul_strI (by omega) ⟨by show 1 * _ ≤ _; omega, by omega⟩ ?_
    have hb : (List.replicate (5 + n).toNat [41]).flatten.length = (5 + n).toNat := by simp [List.length_flatten]
    generalize (List.replicate (5 + n).toNat [41]).flatten = br at *
    walk_at "go"
    refine i_new (by show 4 ≤ 100000; omega) fun p np => ?_
    walk_at "go"
    refine ⟨_, d, 4, rfl, rfl, dr3.new np, by decide, fun k H3 dr4 b4 => ?_⟩
    have k0 := b4.1
    have k1 := b4.2.1 (by decide)
    have key : ∃ m : Int, [V.int 0, V.int 0, V.int 0, V.int 1][k.toNat]? = some (.int m) ∧ 0 ≤ m := by
      have hn : k.toNat = 0 ∨ k.toNat = 1 ∨ k.toNat = 2 ∨ k.toNat = 3 := by omega
      rcases hn with h | h | h | h <;> rw [h] <;> exact ⟨_, rfl, by decide⟩
    obtain ⟨m, hm, m0⟩ := key
    refine i_ix_lst (v := .int m) (.inl (.inl (dr4.old upd_same))) (atI_int k0 hm) ?_
    walk_at "go"
    exact q _ H3 (dr4.less dr3.cells (dr3.free np)) (by simp only [List.length_append, List.length_drop]; show l.length + 1 + _ ≤ _; omega)
def p_digits (K : PySem.W.Frag) : P1 := fun x H Q _ => ∃ (H0 : Hp) (d : Dd), x = .ref d.a ∧ Dr K d H0 H ∧ ∀ l H', Dr K d H0 H' → l.length ≤ 1100 → Q (S l) H'
theorem ok_L_digits (T : Txt K mg C_GlimError C_BadText C_TooLong) : OK P w K mg base CX0 3 "_law_digits" ["_law_draw_here"] (sp1  (p_digits K)) := by
  refine OK.mk (k := 2) T.d_L_digits sc_L_digits len1 fun f cdv A outer s H vs Q E hr h => ?_
  obtain ⟨x, rfl, h⟩ := h
  refine ⟨_, (pss_cons (ps_set (i := 1) sc_L_digits.nd rfl (Or.inl rfl) (pe_op op_mulP (pe_ix (ixK K) (pe_lst (pa_cons (pe_S [57]) (pa_cons (pe_S [49, 48]) (pa_cons (pe_S [49]) (pa_cons (pe_S [48]) pa_nil))))) (pe_f (ok_L_pick (K := K) T) (hr.mono (by decide)) pass0 (pa_cons (pv 0) (pa_cons pe_int pa_nil))) (fun _ _ => rfl)) (pe_ix (ixK K) (pe_lst (pa_cons pe_int (pa_cons pe_int (pa_cons pe_int (pa_cons pe_int (pa_cons pe_int pa_nil)))))) (pe_f (ok_L_pick (K := K) T) (hr.mono (by decide)) pass0 (pa_cons (pv 0) (pa_cons pe_int pa_nil))) (fun _ _ => rfl)))) (pss_cons (ps_set (i := 2) sc_L_digits.nd rfl (Or.inl rfl) (pe_ix (ixK K) (pe_lst (pa_cons (pe_S []) (pa_cons (pe_S [119]) (pa_cons (pe_S [50, 40, 119]) (pa_cons (pe_S [119, 64]) (pa_cons (pe_S [119, 38]) (pa_cons (pe_S [51, 40, 103, 64]) (pa_cons (pe_S [119, 64, 50, 38]) (pa_cons (pe_S [50, 52, 40, 119, 41, 64]) pa_nil))))))))) (pe_f (ok_L_pick (K := K) T) (hr.mono (by decide)) pass0 (pa_cons (pv 0) (pa_cons pe_int pa_nil))) (fun _ _ => rfl))) (pss_one (ps_ret (pe_op (opAdd K) (pe_op (opAdd K) (pv 2) (pv 1)) (pe_ix (ixK K) (pe_lst (pa_cons (pe_S [119]) (pa_cons (pe_S [40]) (pa_cons (pe_S []) (pa_cons (pe_S [120]) (pa_cons (pe_S [41]) (pa_cons (pe_S [38]) (pa_cons (pe_S [46]) (pa_cons (pe_S [64]) pa_nil))))))))) (pe_f (ok_L_pick (K := K) T) (hr.mono (by decide)) pass0 (pa_cons (pv 0) (pa_cons pe_int pa_nil))) (fun _ _ => rfl))))))), ?_⟩
  show (_ : TS) { nx := fun _ H' => Q .non H', rt := Q } [some x, none, none] H
  obtain ⟨H0, d, rfl, dr, q⟩ := h
  walk_at "go"
  refine i_new (by show 4 ≤ 100000; omega) fun p1 n1 => ?_
  walk_at "go"
  refine ⟨_, d, 4, rfl, rfl, dr.new n1, by decide, fun k H1 dr1 b1 => ?_⟩
  obtain ⟨w1, hw1, hm1⟩ := pick_txt (ls := [[57], [49, 48], [49], [48]]) b1.1 (b1.2.1 (by decide))
  have l1 : w1.length ≤ 2 := (by decide : ∀ w ∈ ([[57], [49, 48], [49], [48]] : List (List Nat)), w.length ≤ 2) w1 hm1
  refine i_ix_lst (v := S w1) (.inl (.inl (dr1.old upd_same))) (atI_int b1.1 hw1) ?_
  have dr2 := dr1.less dr.cells (dr.free n1)
  walk_at "go"
  refine i_new (by show 5 ≤ 100000; omega) fun p2 n2 => ?_
  walk_at "go"
  refine ⟨_, d, 5, rfl, rfl, dr2.new n2, by decide, fun k H2 dr3 b3 => ?_⟩
  have k0 := b3.1
  have k1 := b3.2.1 (by decide)
  have key : ∃ m : Int, [V.int 1, V.int 2, V.int 3, V.int 60, V.int 500][k.toNat]? = some (.int m) ∧ 0 ≤ m ∧ m ≤ 500 := by
    have hn : k.toNat = 0 ∨ k.toNat = 1 ∨ k.toNat = 2 ∨ k.toNat = 3 ∨ k.toNat = 4 := by omega
    rcases hn with h | h | h | h | h <;> rw [h] <;> exact ⟨_, rfl, by decide, by decide⟩
  obtain ⟨m, hm, m0, m1⟩ := key
  refine i_ix_lst (v := .int m) (.inl (.inl (dr3.old upd_same))) (atI_int k0 hm) ?_
  have dr4 := dr3.less dr2.cells (dr2.free n2)
  walk_at "go"
  have hmul : w1.length * m.toNat ≤ 2 * 500 := Nat.mul_le_mul l1 (by omega)
  refine i_mul_strI m0 ⟨by omega, by omega⟩ ?_
  have hb : (List.replicate m.toNat w1).flatten.length = m.toNat * w1.length := by simp [List.length_flatten]
  rw [Nat.mul_comm] at hb
  generalize (List.replicate m.toNat w1).flatten = ru at *
  walk_at "go"
  refine i_new (by show 8 ≤ 100000; omega) fun p3 n3 => ?_
  walk_at "go"
  refine ⟨_, d, 8, rfl, rfl, dr4.new n3, by decide, fun k H3 dr5 b5 => ?_⟩
  obtain ⟨w2, hw2, hm2⟩ := pick_txt (ls := [[], [119], [50, 40, 119], [119, 64], [119, 38], [51, 40, 103, 64], [119, 64, 50, 38], [50, 52, 40, 119, 41, 64]]) b5.1 (b5.2.1 (by decide))
  have l2 : w2.length ≤ 6 := (by decide : ∀ w ∈ ([[], [119], [50, 40, 119], [119, 64], [119, 38], [51, 40, 103, 64], [119, 64, 50, 38], [50, 52, 40, 119, 41, 64]] : List (List Nat)), w.length ≤ 6) w2 hm2
  refine i_ix_lst (v := S w2) (.inl (.inl (dr5.old upd_same))) (atI_int b5.1 hw2) ?_
  have dr6 := dr5.less dr4.cells (dr4.free n3)
  walk_at "go"
  refine i_new (by show 8 ≤ 100000; omega) fun p4 n4 => ?_
  walk_at "go"
  refine ⟨_, d, 8, rfl, rfl, dr6.new n4, by decide, fun k H4 dr7 b7 => ?_⟩
  obtain ⟨w3, hw3, hm3⟩ := pick_txt (ls := [[119], [40], [], [120], [41], [38], [46], [64]]) b7.1 (b7.2.1 (by decide))
  have l3 : w3.length ≤ 1 := (by decide : ∀ w ∈ ([[119], [40], [], [120], [41], [38], [46], [64]] : List (List Nat)), w.length ≤ 1) w3 hm3
  refine i_ix_lst (v := S w3) (.inl (.inl (dr7.old upd_same))) (atI_int b7.1 hw3) ?_
  walk_at "go"
  exact q _ H4 (dr7.less dr6.cells (dr6.free n4)) (by simp only [List.length_append]; omega)
/-! ### what is told -/
def toldE (C CT : Addr) (Q : VK) : XK := fun cls d H1 => (cls = .ref C ∧ ∃ dd v, d = some dd ∧ H1 dd = some (.xd [("at", v)]) ∧ ∀ H2 p, Same H1 H2 → H2 p = none → Q (.ref p) (upd H2 p (.tup [S BAD, v]))) ∨
  (cls = .ref CT ∧ ∃ dd v, d = some dd ∧ H1 dd = some (.xd [("number", v)]) ∧ ∀ H2 p, Same H1 H2 → H2 p = none → Q (.ref p) (upd H2 p (.tup [S LONG, v])))
def p_told : P1 := fun x H Q _ => (∃ z : List Nat, x = S z ∧ z.length ≤ 1700 ∧ ∀ p H', Same H H' → H' p = some (dueF (told z)) → Q (.ref p) H') ∨
  (NoStr H x ∧ ∀ p H', Same H H' → H' p = some (.tup [S BAD, .int (-1)]) → Q (.ref p) H')
theorem ok_L_told (T : Txt K mg C_GlimError C_BadText C_TooLong) : OK P w K mg base CX0 26 "_law_told" ["_law_text"] (sp1  p_told) := by
  refine OK.mk (k := 25) T.d_L_told sc_L_told len1 fun f cdv A outer s H vs Q E hr h => ?_
  obtain ⟨x, rfl, h⟩ := h
  refine ⟨_, (pss_cons (ps_try_as (i := 1) rfl rfl sc_L_told.nd rfl rfl ⟨rfl, by decide, Or.inl T.c_GlimError⟩ takes0 (fun W pn xe tk _ => (pss_one (ps_ret (pe_tup (pa_cons (pe_S [114, 111, 119]) (pa_cons (pe_fS (ok_read_round (K := K) T) (hr.mono (by decide)) (fun σ => passAt tk σ) (pa_cons (pv 0) pa_nil)) pa_nil)))))) (fun a oe cls d pn hz hf => (pss_cons (ps_set (i := 2) sc_L_told.nd rfl (Or.inl rfl) (pe_lst (pa_cons (pe_callB (cIsX K hz hf) (by rfl) T.b_isinstance (by decide +kernel) (pa_cons (pv 1) (pa_cons (pe_gR _ T.c_BadText) pa_nil))) (pa_cons (pe_callB (cIsX K hz hf) (by rfl) T.b_isinstance (by decide +kernel) (pa_cons (pv 1) (pa_cons (pe_gR _ T.c_TooLong) pa_nil))) (pa_cons (pe_callB (cIsX K hz hf) (by rfl) T.b_isinstance (by decide +kernel) (pa_cons (pv 1) (pa_cons (pe_bltn (v := .ty "ValueError") (by rfl) T.b_ValueError (by decide +kernel) rfl) pa_nil))) pa_nil))))) (pss_cons (ps_if (pt_cmpR (opEq K hr.units) (pv 2) (pe_lst (pa_cons pe_bl (pa_cons pe_bl (pa_cons pe_bl pa_nil)))) (nomark _)) (pss_one (ps_ret (pe_tup (pa_cons (pe_S [98, 97, 100]) (pa_cons (pe_xf T.e_BadText.xf T.nf_BadText hz hf (pv 1)) pa_nil))))) pss_nil) (pss_one (ps_if (pt_cmpR (opEq K hr.units) (pv 2) (pe_lst (pa_cons pe_bl (pa_cons pe_bl (pa_cons pe_bl pa_nil)))) (nomark _)) (pss_one (ps_ret (pe_tup (pa_cons (pe_S [108, 111, 110, 103]) (pa_cons (pe_xf T.e_TooLong.xf T.nf_TooLong hz hf (pv 1)) pa_nil))))) pss_nil)))))) (pss_one (ps_ret (pe_tup (pa_cons (pe_S [110, 111, 110, 101]) (pa_cons pe_non pa_nil)))))), ?_⟩
  show (_ : TS) { nx := fun _ H' => Q .non H', rt := Q } [some x, none, none] H
  walk_at "go"
  -- what the call asks, from what is wished
  have ask : p_round C_BadText C_TooLong x H (fun v H1 => ∀ p, H1 p = none → Q (.ref p) (upd H1 p (.tup [S ROWW, v]))) (toldE C_BadText C_TooLong Q) := by
    rcases h with ⟨z, rfl, hz, q⟩ | ⟨hn, q⟩
    · refine .inl ⟨z, rfl, hz, ?_⟩
      unfold OutR
      unfold told at q
      cases hr : rd z 6 0 with
      | error k =>
        rw [hr] at q
        exact fun dd H' n s e => .inl ⟨rfl, dd, _, rfl, e, fun H2 p s2 np => q p _ ((s.trans s2).trans (same_upd np)) upd_same⟩
      | ok se =>
        obtain ⟨s1, e1⟩ := se
        rw [hr] at q
        dsimp only at q ⊢
        by_cases he : e1 < z.length
        · rw [if_pos he] at q ⊢
          exact fun dd H' n s e => .inl ⟨rfl, dd, _, rfl, e, fun H2 p s2 np => q p _ ((s.trans s2).trans (same_upd np)) upd_same⟩
        · rw [if_neg he] at q ⊢
          unfold dueF at q
          dsimp only at q
          by_cases h24 : 24 < s1.1
          · rw [if_pos h24] at q ⊢
            exact fun dd H' n s e => .inr ⟨rfl, dd, _, rfl, e, fun H2 p s2 np => q p _ ((s.trans s2).trans (same_upd np)) upd_same⟩
          · rw [if_neg h24] at q ⊢
            exact fun H' s p np => q p _ (s.trans (same_upd np)) upd_same
    · exact .inr ⟨hn, fun dd H' n s e => .inl ⟨rfl, dd, _, rfl, e, fun H2 p s2 np => q p _ ((s.trans s2).trans (same_upd np)) upd_same⟩⟩
  have imp : ∀ {Q' : VK} {E' : XK}, p_round C_BadText C_TooLong x H (fun v H1 => ∀ p, H1 p = none → Q (.ref p) (upd H1 p (.tup [S ROWW, v]))) (toldE C_BadText C_TooLong Q) → (∀ v H, (∀ p, H p = none → Q (.ref p) (upd H p (.tup [S ROWW, v]))) → Q' v H) → (∀ c d H, toldE C_BadText C_TooLong Q c d H → E' c d H) → p_round C_BadText C_TooLong x H Q' E' := fun {Q' E'} h hq he => by
    rcases h with ⟨z, rfl, hz, h⟩ | ⟨hn, h⟩
    · refine .inl ⟨z, rfl, hz, ?_⟩
      unfold OutR at h ⊢
      cases hr : rd z 6 0 with
      | error k => rw [hr] at h; exact fun d H' n s e => he _ _ _ (h d H' n s e)
      | ok se =>
        obtain ⟨s1, e1⟩ := se
        rw [hr] at h
        dsimp only at h ⊢
        by_cases h1 : e1 < z.length
        · rw [if_pos h1] at h ⊢
          exact fun d H' n s e => he _ _ _ (h d H' n s e)
        · rw [if_neg h1] at h ⊢
          by_cases h24 : 24 < s1.1
          · rw [if_pos h24] at h ⊢
            exact fun d H' n s e => he _ _ _ (h d H' n s e)
          · rw [if_neg h24] at h ⊢
            exact fun H' s => hq _ _ (h H' s)
    · exact .inr ⟨hn, fun d H' n s e => he _ _ _ (h d H' n s e)⟩
  refine imp ask (fun v H1 k => ?_) (fun c dd H1 k => ?_)
  · walk_at "go"
    exact i_new (by show 2 ≤ 100000; omega) k
  · rcases k with ⟨rfl, d, v, rfl, hd, k⟩ | ⟨rfl, d, v, rfl, hd, k⟩
    · refine i_caught T.m_BadText_GlimError fun a na => ?_
      show (_ : TS) _ [some x, some (.ref a), none] H1
      walk_at "go"
      refine i_isX hd T.e_BadText (.own _) T.k_BadText_BadText ?_
      walk_at "go"
      refine i_isX hd T.e_BadText (.own _) T.k_BadText_TooLong ?_
      walk_at "go"
      refine i_isX hd T.e_BadText (.ty _) T.k_BadText_ValueError ?_
      walk_at "go"
      refine i_new (by show 3 ≤ 100000; omega) fun p np => ?_
      walk_at "go"
      refine i_new (by show 3 ≤ 100000; omega) fun p2 np2 => ?_
      have npp : p ≠ p2 := fun e => by rw [e, upd_same] at np2; cases np2
      refine i_eq_data (.lst (.inl (.inl ((upd_ne npp).trans upd_same))) (dp_bls [true, false, true])) (.lst (.inl (.inl upd_same)) (dp_bls [true, false, true])) (by decide) (by decide) (r := true) (by decide) ?_
      walk_at "go"
      have np3 : H1 p2 = none := by rw [upd_ne (Ne.symm npp)] at np2; exact np2
      have s2 : Same H1 (upd (upd H1 p (.lst ([true, false, true].map V.bl))) p2 (.lst ([true, false, true].map V.bl))) := Same.upd (same_upd np) np3
      refine i_xf rfl (s2 _ _ hd) ?_
      walk_at "go"
      refine i_new (by show 2 ≤ 100000; omega) fun p3 np4 => ?_
      exact k _ p3 s2 np4
    · refine i_caught T.m_TooLong_GlimError fun a na => ?_
      show (_ : TS) _ [some x, some (.ref a), none] H1
      walk_at "go"
      refine i_isX hd T.e_TooLong (.own _) T.k_TooLong_BadText ?_
      walk_at "go"
      refine i_isX hd T.e_TooLong (.own _) T.k_TooLong_TooLong ?_
      walk_at "go"
      refine i_isX hd T.e_TooLong (.ty _) T.k_TooLong_ValueError ?_
      walk_at "go"
      refine i_new (by show 3 ≤ 100000; omega) fun p np => ?_
      walk_at "go"
      refine i_new (by show 3 ≤ 100000; omega) fun p2 np2 => ?_
      have npp : p ≠ p2 := fun e => by rw [e, upd_same] at np2; cases np2
      refine i_eq_data (.lst (.inl (.inl ((upd_ne npp).trans upd_same))) (dp_bls [false, true, true])) (.lst (.inl (.inl upd_same)) (dp_bls [true, false, true])) (by decide) (by decide) (r := false) (by decide) ?_
      walk_at "go"
      have np3 : H1 p2 = none := by rw [upd_ne (Ne.symm npp)] at np2; exact np2
      have s2 : Same H1 (upd (upd H1 p (.lst ([false, true, true].map V.bl))) p2 (.lst ([true, false, true].map V.bl))) := Same.upd (same_upd np) np3
      refine i_new (by show 3 ≤ 100000; omega) fun p3 np4 => ?_
      have ne3 : p ≠ p3 := fun e => by rw [← e, upd_ne npp, upd_same] at np4; cases np4
      have np5 : H1 p3 = none := s2.free np4
      refine i_eq_data (.lst (.inl (.inl ((upd_ne ne3).trans ((upd_ne npp).trans upd_same)))) (dp_bls [false, true, true])) (.lst (.inl (.inl upd_same)) (dp_bls [false, true, true])) (by decide) (by decide) (r := true) (by decide) ?_
      walk_at "go"
      have s3 := s2.trans (same_upd (o := .lst ([false, true, true].map V.bl)) np4)
      refine i_xf rfl (s3 _ _ hd) ?_
      walk_at "go"
      refine i_new (by show 2 ≤ 100000; omega) fun p4 np6 => ?_
      exact k _ p4 s3 np6
def Good (d : HO) : Prop := (∃ l, d = .tup [S ROWW, S l]) ∨ ∃ w i, d = .tup [S w, .int i] ∧ w ≠ ROWW
theorem dueF_good (r : Fg.Fin) : Good (dueF r) := by
  cases r with
  | bad k => exact .inr ⟨_, _, rfl, by decide⟩
  | done s =>
    unfold dueF
    dsimp only
    split
    · exact .inr ⟨_, _, rfl, by decide⟩
    · exact .inl ⟨_, rfl⟩
def p_agree : P2 := fun x y H Q _ => ∃ p p' d, x = .ref p ∧ y = .ref p' ∧ H p = some d ∧ H p' = some d ∧ Good d ∧ Q (.bl true) H
theorem ok_L_agree (T : Txt K mg C_GlimError C_BadText C_TooLong) : OK P w K mg base CX0 2 "_law_agree" ["_law_told_here", "_law_due"] (sp2  p_agree) := by
  refine OK.mk (k := 1) T.d_L_agree sc_L_agree len2 fun f cdv A outer s H vs Q E hr h => ?_
  obtain ⟨x, y, rfl, h⟩ := h
  refine ⟨_, (pss_cons (ps_if (pt_cmpR (opNe K hr.units) (pe_ix (ixK K) (pv 0) pe_int (fun _ _ => rfl)) (pe_ix (ixK K) (pv 1) pe_int (fun _ _ => rfl)) (nomark _)) (pss_one (ps_ret pe_bl)) pss_nil) (pss_cons (ps_if (pt_cmpR (opEq K hr.units) (pe_ix (ixK K) (pv 1) pe_int (fun _ _ => rfl)) (pe_S [114, 111, 119]) (nomark _)) (pss_one (ps_ret (pe_and (pe_callB (cIsi K) (by rfl) T.b_isinstance (by decide +kernel) (pa_cons (pe_ix (ixK K) (pv 0) pe_int (fun _ _ => rfl)) (pa_cons (pe_bltn (v := .ty "str") (by rfl) T.b_str (by decide +kernel) rfl) pa_nil))) (pe_one (pe_cmpR (opEq K hr.units) (pe_ix (ixK K) (pv 0) pe_int (fun _ _ => rfl)) (pe_ix (ixK K) (pv 1) pe_int (fun _ _ => rfl)) (nomark _)))))) pss_nil) (pss_one (ps_ret (pe_and (pe_f (ok_L_is_int (K := K) T) (hr.mono (by decide)) pass0 (pa_cons (pe_ix (ixK K) (pv 0) pe_int (fun _ _ => rfl)) pa_nil)) (pe_one (pe_cmpR (opEq K hr.units) (pe_ix (ixK K) (pv 0) pe_int (fun _ _ => rfl)) (pe_ix (ixK K) (pv 1) pe_int (fun _ _ => rfl)) (nomark _)))))))), ?_⟩
  show (_ : TS) { nx := fun _ H' => Q .non H', rt := Q } [some x, some y] H
  obtain ⟨p, p', d, rfl, rfl, h1, h2, g, q⟩ := h
  rcases g with ⟨l, rfl⟩ | ⟨w', i, rfl, hw⟩
  · walk_at "go"
    refine i_decN (fun e => absurd rfl e) (fun _ => ?_)
    walk_at "go"
    refine i_dec (fun _ => ?_) (fun e => absurd rfl e)
    walk_at "go"
    rw [decide_eq_true rfl]
    exact q
  · walk_at "go"
    refine i_decN (fun e => absurd rfl e) (fun _ => ?_)
    walk_at "go"
    refine i_dec (fun e => absurd e hw) (fun _ => ?_)
    walk_at "go"
    refine ⟨.inr (.inr (.inr (.inl ⟨_, rfl⟩))), ?_⟩
    rw [show isI (.int i) = true from rfl]
    walk_at "go"
    rw [decide_eq_true rfl]
    exact q
end
end K05
namespace K05
open PySem PySem.Spec PyProof.Rows L2 Fg
local macro_rules | `(tactic| walk_at "sq") => `(tactic| first
  | assumption
  | exact .inl (.inl (by assumption))
  | exact .inl (.inl upd_same))
local macro_rules | `(tactic| walk_at "st") => `(tactic| first
  | assumption
  | exact .inl (.inl (by assumption))
  | exact .inl (.inl upd_same))
local macro_rules | `(tactic| walk_at "o") => `(tactic| first
  | omega
  | assumption
  | (simp only [List.length_append, List.length_take, List.length_drop, List.length_cons, List.length_nil, List.length_singleton, List.length_map, List.length_range, Int.toNat_natCast] ; omega))
local macro_rules | `(tactic| walk_at "s") => `(tactic| first
  | (with_reducible refine i_seq ?_)
  | (with_reducible refine i_asg ?_)
  | ((with_reducible refine' i_var ?h1 ?_); (case h1 => rfl))
  | (with_reducible refine i_c ?_)
  | ((with_reducible refine' i_gname' ?h1 ?_); (case h1 => (simp only [List.set_cons_zero, List.set_cons_succ]; rfl)))
  | (with_reducible refine i_op ?_)
  | (with_reducible refine i_ifS ?_)
  | (with_reducible refine i_for ?_)
  | (with_reducible refine i_test ?_)
  | (with_reducible refine i_B ?_)
  | (with_reducible refine i_exbl ?_)
  | (with_reducible refine i_exint ?_)
  | (with_reducible refine i_cb ?_)
  | (with_reducible refine i_nil ?_)
  | (with_reducible refine i_cons ?_)
  | (with_reducible refine i_ret ?_)
  | (with_reducible refine i_sl ?_)
  | (with_reducible refine i_nopart ?_)
  | (with_reducible refine i_part ?_)
  | (with_reducible refine i_add_int ?_)
  | (with_reducible refine i_sub ?_)
  | (with_reducible refine i_lt ?_)
  | ((with_reducible refine' i_mod ?h1 ?_); (case h1 => walk_at "o"))
  | ((with_reducible refine' i_fdiv ?h1 ?_); (case h1 => (refine cdiv_small ?_ ?_ <;> walk_at "o")))
  | ((with_reducible refine' i_sl_to ?h1 ?h2 ?_); (case h1 => walk_at "o"); (case h2 => walk_at "o"))
  | ((with_reducible refine' i_sl_from ?h1 ?h2 ?_); (case h1 => walk_at "o"); (case h2 => walk_at "o"))
  | ((with_reducible refine' i_add_str ?h1 ?_); (case h1 => walk_at "o"))
  | ((with_reducible refine' i_mul_int ?h1 ?_); (case h1 => first | (refine mul_small ?_ ?_ <;> walk_at "o") | (refine mul_smallR ?_ ?_ <;> walk_at "o")))
  | (with_reducible refine i_le ?_)
  | (with_reducible refine i_gt ?_)
  | (with_reducible refine i_ge ?_)
  | (with_reducible refine i_eq_int ?_)
  | (with_reducible refine i_eq_str ?_)
  | (with_reducible refine i_ne_int ?_)
  | (with_reducible refine i_ne_str ?_)
  | (with_reducible refine i_eq_bl ?_)
  | (with_reducible refine i_ne_bl ?_)
  | (with_reducible refine i_in_sg ?_)
  | (with_reducible refine i_notIn_sg ?_)
  | (with_reducible refine i_call ?_)
  | (with_reducible refine i_callS ?_)
  | (with_reducible refine i_sp1 ?_)
  | (with_reducible refine i_sp2 ?_)
  | (with_reducible refine i_sp3 ?_)
  | (with_reducible refine i_sp4 ?_)
  | (with_reducible refine i_sp1' ?_)
  | (with_reducible refine i_sp2' ?_)
  | (with_reducible refine i_sp3' ?_)
  | ((with_reducible refine' i_ix_lst ?h1 ?h2 ?_); (case h1 => walk_at "sq"); (case h2 => first | exact atI_nat rfl | rfl))
  | ((with_reducible refine' i_ix_tup ?h1 ?h2 ?_); (case h1 => walk_at "st"); (case h2 => first | exact atI_nat rfl | rfl))
  | (with_reducible refine i_gsub ?_)
  | (with_reducible refine i_par ?_)
  | (with_reducible refine i_lstRg1 ?_)
  | (with_reducible refine i_app ?_)
  | (with_reducible refine i_par2 ?_)
  | ((with_reducible refine' i_aug ?h1 ?_); (case h1 => rfl))
  | (with_reducible refine i_ipI ?_)
  | ((with_reducible refine' i_gtup2 ?h1 ?_); (case h1 => walk_at "st"))
  | (with_reducible refine i_int_bl ?_)
  | (with_reducible refine i_raise ?_)
  | (with_reducible refine i_mkE ?_)
  | (with_reducible refine i_ex1 ?_)
  | (with_reducible refine i_and ?_)
  | (with_reducible refine i_or ?_)
  | (with_reducible refine i_not ?_)
  | (with_reducible refine i_tt ?_)
  | (with_reducible refine i_ff ?_)
  | (with_reducible refine i_nott ?_)
  | (with_reducible refine i_notf ?_)
  | (with_reducible refine i_andV ?_)
  | (with_reducible refine i_orV ?_)
  | (with_reducible refine i_notV ?_)
  | (with_reducible refine i_ifE ?_)
  | (with_reducible refine i_tup ?_)
  | (with_reducible refine i_lst ?_)
  | (with_reducible refine i_un ?_)
  | (with_reducible refine i_neg ?_)
  | (with_reducible refine i_chain ?_)
  | (with_reducible refine i_next ?_)
  | (with_reducible refine i_retN ?_)
  | (with_reducible refine i_drop ?_)
  | (with_reducible refine i_int_int ?_)
  | (with_reducible refine i_abs ?_)
  | (with_reducible refine i_m1c ?_)
  | (with_reducible refine i_is_non ?_)
  | (with_reducible refine i_is_int ?_)
  | (with_reducible refine i_is_bl ?_)
  | (with_reducible refine i_isn_bl ?_)
  | (with_reducible refine i_is_str ?_)
  | (with_reducible refine i_is_ref ?_)
  | (with_reducible refine i_isn_non ?_)
  | (with_reducible refine i_isn_int ?_)
  | (with_reducible refine i_isn_str ?_)
  | (with_reducible refine i_isn_ref ?_)
  | (with_reducible refine i_len_str ?h1 ?_; (case h1 => walk_at "o"))
  | (with_reducible refine i_isi_int_int ?_) | (with_reducible refine i_isi_int_bool ?_) | (with_reducible refine i_isi_int_str ?_) | (with_reducible refine i_isi_int_tuple ?_) | (with_reducible refine i_isi_int_list ?_)
  | (with_reducible refine i_isi_bl_int ?_) | (with_reducible refine i_isi_bl_bool ?_) | (with_reducible refine i_isi_bl_str ?_) | (with_reducible refine i_isi_bl_tuple ?_) | (with_reducible refine i_isi_bl_list ?_)
  | (with_reducible refine i_isi_str_int ?_) | (with_reducible refine i_isi_str_bool ?_) | (with_reducible refine i_isi_str_str ?_) | (with_reducible refine i_isi_str_tuple ?_) | (with_reducible refine i_isi_str_list ?_)
  | (with_reducible refine i_isi_non_int ?_) | (with_reducible refine i_isi_non_bool ?_) | (with_reducible refine i_isi_non_str ?_) | (with_reducible refine i_isi_non_tuple ?_) | (with_reducible refine i_isi_non_list ?_))
local macro_rules | `(tactic| walk_at "go") => `(tactic| (repeat' (walk_at "s")))
local macro_rules | `(tactic| walk_at "n") => `(tactic| simp only [wipe, List.map_cons, List.map_nil, List.set_cons_zero, List.set_cons_succ])
section
variable {P : Program} {w : World} {K : PySem.W.Frag} {mg : Str → Option Value} {base : Heap} {C_GlimError C_BadText C_TooLong : Addr}
/-- what the law asks -/
def p_law (K : PySem.W.Frag) : P1 := fun x H Q _ => ∃ (a : Addr) (ns : List Int), x = .ref a ∧ SqL K H a (ns.map V.int) ∧ ns.length ≤ 63 ∧ ∀ H', Q (.bl true) H'
theorem ok_law_at {f : Addr} {fd : FuncData} (F : Fun K "law" "law" s_law f fd) (T : Txt K mg C_GlimError C_BadText C_TooLong) : FnOk P w K mg base CX0 27 f fd ["_law_script"] (sp1 (p_law K)) := by
  refine FnOK.mk (k := 26) F sc_law len1 fun cdv A outer s H vs Q E hr h => ?_
  obtain ⟨x, rfl, h⟩ := h
  refine ⟨_, (pss_cons (ps_set (i := 1) sc_law.nd rfl (Or.inl rfl) (pe_f (ok_L_draw (K := K) T) (hr.mono (by decide)) pass0 (pa_cons (pv 0) pa_nil))) (pss_cons (ps_set (i := 2) sc_law.nd rfl (Or.inl rfl) (pe_f (texts_all (K := K) T 7) (hr.mono (by decide)) pass0 (pa_cons (pv 1) (pa_cons pe_int (pa_cons (pe_lst pa_nil) pa_nil))))) (pss_cons (ps_set (i := 3) sc_law.nd rfl (Or.inl rfl) (pe_f (ok_L_spoilt (K := K) T) (hr.mono (by decide)) pass0 (pa_cons (pv 1) (pa_cons (pv 2) pa_nil)))) (pss_cons (ps_set (i := 4) sc_law.nd rfl (Or.inl rfl) (pe_f (ok_L_spoilt (K := K) T) (hr.mono (by decide)) pass0 (pa_cons (pv 1) (pa_cons (pe_f (ok_L_spoilt (K := K) T) (hr.mono (by decide)) pass0 (pa_cons (pv 1) (pa_cons (pv 3) pa_nil))) pa_nil)))) (pss_cons (ps_for PassesOwn.never rfl (piAny K (pe_lst (pa_cons (pv 2) (pa_cons (pv 3) (pa_cons (pv 4) (pa_cons (pe_f (ok_L_chain (K := K) T) (hr.mono (by decide)) pass0 (pa_cons (pv 1) pa_nil)) (pa_cons (pe_f (ok_L_digits (K := K) T) (hr.mono (by decide)) pass0 (pa_cons (pv 1) pa_nil)) (pa_cons (pe_S []) (pa_cons (pv 2) pa_nil))))))))) (pg_name (i := 5) sc_law.nd rfl (Or.inl rfl)) (pss_one (ps_if (pt_not (pt_val (pe_f (ok_L_agree (K := K) T) (hr.mono (by decide)) pass0 (pa_cons (pe_f (ok_L_told (K := K) T) (hr.mono (by decide)) pass0 (pa_cons (pv 5) pa_nil)) (pa_cons (pe_f (ok_L_read (K := K) T) (hr.mono (by decide)) pass0 (pa_cons (pv 5) pa_nil)) pa_nil))))) (pss_one (ps_ret pe_bl)) pss_nil))) (pss_cons (ps_set (i := 6) sc_law.nd rfl (Or.inl rfl) (pe_ix (ixK K) (pe_lst (pa_cons pe_non (pa_cons pe_int (pa_cons (pe_tup (pa_cons (pe_S [119]) pa_nil)) (pa_cons (pe_lst (pa_cons (pe_S [119]) pa_nil)) (pa_cons pe_bl (pa_cons (pe_un un_neg pe_int) pa_nil))))))) (pe_f (ok_L_pick (K := K) T) (hr.mono (by decide)) pass0 (pa_cons (pv 1) (pa_cons pe_int pa_nil))) (fun _ _ => rfl))) (pss_one (ps_ret (pe_and (pe_f (ok_L_agree (K := K) T) (hr.mono (by decide)) pass0 (pa_cons (pe_f (ok_L_told (K := K) T) (hr.mono (by decide)) pass0 (pa_cons (pv 6) pa_nil)) (pa_cons (pe_tup (pa_cons (pe_S [98, 97, 100]) (pa_cons (pe_un un_neg pe_int) pa_nil))) pa_nil))) (pe_one (pe_f (ok_L_agree (K := K) T) (hr.mono (by decide)) pass0 (pa_cons (pe_f (ok_L_told (K := K) T) (hr.mono (by decide)) pass0 (pa_cons (pv 3) pa_nil)) (pa_cons (pe_f (ok_L_read (K := K) T) (hr.mono (by decide)) pass0 (pa_cons (pv 3) pa_nil)) pa_nil))))))))))))), ?_⟩
  show (_ : TS) { nx := fun _ H' => Q .non H', rt := Q } [some x, none, none, none, none, none, none] H
  obtain ⟨a, ns, rfl, hS, hl, q⟩ := h
  walk_at "go"
  refine ⟨a, ns, rfl, hS, by omega, fun H0 d H1 s0 dr => ?_⟩
  walk_at "go"
  refine i_new (by show 0 ≤ 100000; omega) fun t nt => ?_
  have mt := dr.free nt
  walk_at "go"
  refine ⟨H0, d, 0, t, 0, rfl, rfl, rfl, by decide, by decide, dr.cells, mt, dr.new nt, by omega, fun l1 T1 H2 _ g2 g3 dr2 => ?_⟩
  have hl1 : l1.length ≤ 500 := by
    have g2 : T1 ≤ 29 + 21 := g2
    have g3 : l1.length + 1 ≤ 9 * T1 := g3
    omega
  have dr2 := dr2.less dr.cells mt
  walk_at "go"
  refine ⟨H0, d, l1, rfl, rfl, dr2, by omega, fun l2 H3 dr3 hl2 => ?_⟩
  walk_at "go"
  refine ⟨H0, d, l2, rfl, rfl, dr3, by omega, fun l3 H4 dr4 hl3 => ?_⟩
  walk_at "go"
  refine ⟨H0, d, l3, rfl, rfl, dr4, by omega, fun l4 H5 dr5 hl4 => ?_⟩
  walk_at "go"
  refine ⟨H0, d, rfl, dr5, fun l5 H6 dr6 hl5 => ?_⟩
  walk_at "go"
  refine ⟨H0, d, rfl, dr6, fun l6 H7 dr7 hl6 => ?_⟩
  walk_at "go"
  refine i_new (by show 7 ≤ 100000; omega) fun pl nl => ?_
  obtain ⟨HG, sG, eG, drG⟩ := dr7.step (.lst [S l1, S l2, S l4, S l5, S l6, S [], S l1]) nl
  -- a text is read alike by both
  refine i_forL (.inl (.inl upd_same)) (fun i σ' H' => ∃ b, σ' = [some (.ref a), some (.ref d.a), some (S l1), some (S l2), some (S l4), b, none] ∧ Dr K d HG H') ⟨_, rfl, drG⟩ ?_ ?_ ?_
  · rintro i σ' H' _ ⟨b, rfl, dr8⟩
    exact .inl (.inl (dr8.old eG))
  · rintro i x σ' H8 hi ⟨b, rfl, dr8⟩
    have hx : ∃ z : List Nat, x = S z ∧ z.length ≤ 1700 := by
      match i, hi with
      | 0, h => exact ⟨l1, (Option.some.inj h).symm, by omega⟩
      | 1, h => exact ⟨l2, (Option.some.inj h).symm, by omega⟩
      | 2, h => exact ⟨l4, (Option.some.inj h).symm, by omega⟩
      | 3, h => exact ⟨l5, (Option.some.inj h).symm, by omega⟩
      | 4, h => exact ⟨l6, (Option.some.inj h).symm, by omega⟩
      | 5, h => exact ⟨[], (Option.some.inj h).symm, by decide⟩
      | 6, h => exact ⟨l1, (Option.some.inj h).symm, by omega⟩
    obtain ⟨z, rfl, hz⟩ := hx
    walk_at "go"
    refine .inl ⟨z, rfl, hz, fun p H9 s9 h9 => ?_⟩
    walk_at "go"
    refine ⟨z, rfl, hz, fun p' H10 s10 h10 => ?_⟩
    walk_at "go"
    refine ⟨p, p', _, rfl, rfl, s10 _ _ h9, h10, dueF_good _, ?_⟩
    walk_at "go"
    exact ⟨_, rfl, (dr8.same s9).same s10⟩
  · rintro σ' H8 ⟨b, rfl, dr8⟩
    walk_at "go"
    refine i_new (by show 1 ≤ 100000; omega) fun q1 n1 => ?_
    walk_at "go"
    refine i_new (by show 1 ≤ 100000; omega) fun q2 n2 => ?_
    walk_at "go"
    refine i_new (by show 6 ≤ 100000; omega) fun q3 n3 => ?_
    walk_at "go"
    have ne12 : q1 ≠ q2 := fun z => by rw [z, upd_same] at n2; cases n2
    have ne13 : q1 ≠ q3 := fun z => by rw [z, upd_ne (z ▸ ne12), ← z, upd_same] at n3; cases n3
    have ne23 : q2 ≠ q3 := fun z => by rw [z, upd_same] at n3; cases n3
    have dr9 := ((dr8.new (o := .tup [S [119]]) n1).new (o := .lst [S [119]]) n2).new (o := .lst [.non, .int 5, .ref q1, .ref q2, .bl true, .int (-1)]) n3
    refine ⟨_, d, 6, rfl, rfl, dr9, by decide, fun n H9 dr10 b10 => ?_⟩
    have b0 := b10.1
    have b1 := b10.2.1 (by decide)
    have e1 : H9 q1 = some (.tup [S [119]]) := dr10.old (by rw [upd_ne ne13, upd_ne ne12, upd_same])
    have e2 : H9 q2 = some (.lst [S [119]]) := dr10.old (by rw [upd_ne ne23, upd_same])
    have key : ∃ v, [V.non, .int 5, .ref q1, .ref q2, .bl true, .int (-1)][n.toNat]? = some v ∧ NoStr H9 v := by
      have hn : n.toNat = 0 ∨ n.toNat = 1 ∨ n.toNat = 2 ∨ n.toNat = 3 ∨ n.toNat = 4 ∨ n.toNat = 5 := by omega
      rcases hn with h | h | h | h | h | h <;> rw [h]
      · exact ⟨_, rfl, .inl rfl⟩
      · exact ⟨_, rfl, .inr (.inr (.inl ⟨_, rfl⟩))⟩
      · exact ⟨_, rfl, .inr (.inr (.inr ⟨_, _, rfl, .inl e1⟩))⟩
      · exact ⟨_, rfl, .inr (.inr (.inr ⟨_, _, rfl, .inr e2⟩))⟩
      · exact ⟨_, rfl, .inr (.inl ⟨_, rfl⟩)⟩
      · exact ⟨_, rfl, .inr (.inr (.inl ⟨_, rfl⟩))⟩
    obtain ⟨v, hv, nv⟩ := key
    refine i_ix_lst (v := v) (.inl (.inl (dr10.old upd_same))) (atI_int b0 hv) ?_
    walk_at "go"
    refine .inr ⟨nv, fun p H10 s10 h10 => ?_⟩
    walk_at "go"
    refine i_new (by show 2 ≤ 100000; omega) fun p' n' => ?_
    walk_at "go"
    refine ⟨p, p', _, rfl, rfl, (upd_ne (ne_of_none h10 n')).trans h10, upd_same, .inr ⟨_, _, rfl, by decide⟩, ?_⟩
    walk_at "go"
    refine .inl ⟨l2, rfl, by omega, fun p3 H11 s11 h11 => ?_⟩
    walk_at "go"
    refine ⟨l2, rfl, by omega, fun p4 H12 s12 h12 => ?_⟩
    walk_at "go"
    exact ⟨p3, p4, _, rfl, rfl, s12 _ _ h11, h12, dueF_good _, q _⟩
end
end K05
namespace K05
open PySem PySem.Spec PyProof.Rows L2 Fg
theorem all_mk {l : PySem.W.OpenLaw} {w : World} {K : PySem.W.Frag} {h : Heap} {mg : Str → Option Value} {fa C_GlimError C_BadText C_TooLong f1 f2 f3 f4 f5 f6 f7 f8 f9 f10 f11 f12 f13 f14 f15 f16 f17 f18 f19 f20 f21 f22 f23 f24 f25 f26 f27 f28 f29 f30 f31 f32 f33 f34 f35 f36 f37 : Addr} (X : K.In h) (G : h.Ns mainGlobals mg) (hfa : mg "law" = some (.ref fa))
    {od1 an1 od2 an2 od3 an3 od4 an4 od5 an5 od6 an6 od7 an7 od8 an8 od9 an9 od10 an10 od11 an11 od12 an12 od13 an13 od14 an14 od15 an15 od16 an16 od17 an17 od18 an18 od19 an19 od20 an20 od21 an21 od22 an22 od23 an23 od24 an24 od25 an25 od26 an26 od27 an27 od28 an28 od29 an29 od30 an30 od31 an31 od32 an32 od33 an33 od34 an34 od35 an35 od36 an36 od37 an37 : Option Addr} {sl1 sl2 sl3 sl4 sl5 sl6 sl7 sl8 sl9 sl10 sl11 sl12 sl13 sl14 sl15 sl16 sl17 sl18 sl19 sl20 sl21 sl22 sl23 sl24 sl25 sl26 sl27 sl28 sl29 sl30 sl31 sl32 sl33 sl34 sl35 sl36 sl37 : Array (Option Value)} {oc1 kV1 dc1 pm1 cd1 ct1 oc2 kV2 dc2 pm2 cd2 ct2 oc3 kV3 dc3 pm3 cd3 ct3 oc4 kV4 dc4 pm4 cd4 ct4 oc5 kV5 dc5 pm5 cd5 ct5 oc6 kV6 dc6 pm6 cd6 ct6 oc7 kV7 dc7 pm7 cd7 ct7 oc8 kV8 dc8 pm8 cd8 ct8 oc9 kV9 dc9 pm9 cd9 ct9 oc10 kV10 dc10 pm10 cd10 ct10 oc11 kV11 dc11 pm11 cd11 ct11 oc12 kV12 dc12 pm12 cd12 ct12 oc13 kV13 dc13 pm13 cd13 ct13 oc14 kV14 dc14 pm14 cd14 ct14 oc15 kV15 dc15 pm15 cd15 ct15 oc16 kV16 dc16 pm16 cd16 ct16 oc17 kV17 dc17 pm17 cd17 ct17 oc18 kV18 dc18 pm18 cd18 ct18 oc19 kV19 dc19 pm19 cd19 ct19 oc20 kV20 dc20 pm20 cd20 ct20 oc21 kV21 dc21 pm21 cd21 ct21 oc22 kV22 dc22 pm22 cd22 ct22 oc23 kV23 dc23 pm23 cd23 ct23 oc24 kV24 dc24 pm24 cd24 ct24 oc25 kV25 dc25 pm25 cd25 ct25 oc26 kV26 dc26 pm26 cd26 ct26 oc27 kV27 dc27 pm27 cd27 ct27 oc28 kV28 dc28 pm28 cd28 ct28 oc29 kV29 dc29 pm29 cd29 ct29 oc30 kV30 dc30 pm30 cd30 ct30 oc31 kV31 dc31 pm31 cd31 ct31 oc32 kV32 dc32 pm32 cd32 ct32 oc33 kV33 dc33 pm33 cd33 ct33 oc34 kV34 dc34 pm34 cd34 ct34 oc35 kV35 dc35 pm35 cd35 ct35 oc36 kV36 dc36 pm36 cd36 ct36 oc37 kV37 dc37 pm37 cd37 ct37 : Value}
    {nm_TooLong q_TooLong : Str} {N_TooLong : Addr} {bs_TooLong bm_TooLong : List Value} {sn_TooLong : List Str} {sub_TooLong : List Value} {ab_TooLong : Bool} {col_TooLong : Option Bool} {dd_TooLong : Option Addr} {m0_TooLong m1_TooLong m2_TooLong m3_TooLong m5_TooLong : Option Value}
    {nm_BadText q_BadText : Str} {N_BadText : Addr} {bs_BadText bm_BadText : List Value} {sn_BadText : List Str} {sub_BadText : List Value} {ab_BadText : Bool} {col_BadText : Option Bool} {dd_BadText : Option Addr} {m0_BadText m1_BadText m2_BadText m3_BadText m5_BadText : Option Value}
    {t_SIGNS t_MOST_ROUND t_DIGITS t_MOST_OPEN : Tok}
    (a1 : PySem.W.nsIn K mainGlobals "common_beats" = some (some (.ref f1)))
    (l1 : K.lookup f1 = some ⟨oc1, od1, .func (PySem.W.fnOf "common_beats" "common_beats" (defArgs s_common_beats) (defBody s_common_beats) (defScope s_common_beats) .none kV1 dc1 pm1 an1 cd1 ct1), sl1⟩)
    (c1 : PySem.W.codeIn K cd1 "common_beats" = true)
    (k1 : PySem.W.keepIn K (.ref f1) = true)
    (a2 : PySem.W.nsIn K mainGlobals "repeated" = some (some (.ref f2)))
    (l2 : K.lookup f2 = some ⟨oc2, od2, .func (PySem.W.fnOf "repeated" "repeated" (defArgs s_repeated) (defBody s_repeated) (defScope s_repeated) .none kV2 dc2 pm2 an2 cd2 ct2), sl2⟩)
    (c2 : PySem.W.codeIn K cd2 "repeated" = true)
    (k2 : PySem.W.keepIn K (.ref f2) = true)
    (a3 : PySem.W.nsIn K mainGlobals "put_behind" = some (some (.ref f3)))
    (l3 : K.lookup f3 = some ⟨oc3, od3, .func (PySem.W.fnOf "put_behind" "put_behind" (defArgs s_put_behind) (defBody s_put_behind) (defScope s_put_behind) .none kV3 dc3 pm3 an3 cd3 ct3), sl3⟩)
    (c3 : PySem.W.codeIn K cd3 "put_behind" = true)
    (k3 : PySem.W.keepIn K (.ref f3) = true)
    (a4 : PySem.W.nsIn K mainGlobals "first_lit" = some (some (.ref f4)))
    (l4 : K.lookup f4 = some ⟨oc4, od4, .func (PySem.W.fnOf "first_lit" "first_lit" (defArgs s_first_lit) (defBody s_first_lit) (defScope s_first_lit) .none kV4 dc4 pm4 an4 cd4 ct4), sl4⟩)
    (c4 : PySem.W.codeIn K cd4 "first_lit" = true)
    (k4 : PySem.W.keepIn K (.ref f4) = true)
    (a5 : PySem.W.nsIn K mainGlobals "shown_together" = some (some (.ref f5)))
    (l5 : K.lookup f5 = some ⟨oc5, od5, .func (PySem.W.fnOf "shown_together" "shown_together" (defArgs s_shown_together) (defBody s_shown_together) (defScope s_shown_together) .none kV5 dc5 pm5 an5 cd5 ct5), sl5⟩)
    (c5 : PySem.W.codeIn K cd5 "shown_together" = true)
    (k5 : PySem.W.keepIn K (.ref f5) = true)
    (a6 : PySem.W.nsIn K mainGlobals "behind_digits" = some (some (.ref f6)))
    (l6 : K.lookup f6 = some ⟨oc6, od6, .func (PySem.W.fnOf "behind_digits" "behind_digits" (defArgs s_behind_digits) (defBody s_behind_digits) (defScope s_behind_digits) .none kV6 dc6 pm6 an6 cd6 ct6), sl6⟩)
    (c6 : PySem.W.codeIn K cd6 "behind_digits" = true)
    (k6 : PySem.W.keepIn K (.ref f6) = true)
    (a7 : PySem.W.nsIn K mainGlobals "is_within" = some (some (.ref f7)))
    (l7 : K.lookup f7 = some ⟨oc7, od7, .func (PySem.W.fnOf "is_within" "is_within" (defArgs s_is_within) (defBody s_is_within) (defScope s_is_within) .none kV7 dc7 pm7 an7 cd7 ct7), sl7⟩)
    (c7 : PySem.W.codeIn K cd7 "is_within" = true)
    (k7 : PySem.W.keepIn K (.ref f7) = true)
    (a8 : PySem.W.nsIn K mainGlobals "read_item" = some (some (.ref f8)))
    (l8 : K.lookup f8 = some ⟨oc8, od8, .func (PySem.W.fnOf "read_item" "read_item" (defArgs s_read_item) (defBody s_read_item) (defScope s_read_item) .none kV8 dc8 pm8 an8 cd8 ct8), sl8⟩)
    (c8 : PySem.W.codeIn K cd8 "read_item" = true)
    (k8 : PySem.W.keepIn K (.ref f8) = true)
    (a9 : PySem.W.nsIn K mainGlobals "read_filled" = some (some (.ref f9)))
    (l9 : K.lookup f9 = some ⟨oc9, od9, .func (PySem.W.fnOf "read_filled" "read_filled" (defArgs s_read_filled) (defBody s_read_filled) (defScope s_read_filled) .none kV9 dc9 pm9 an9 cd9 ct9), sl9⟩)
    (c9 : PySem.W.codeIn K cd9 "read_filled" = true)
    (k9 : PySem.W.keepIn K (.ref f9) = true)
    (a10 : PySem.W.nsIn K mainGlobals "read_part" = some (some (.ref f10)))
    (l10 : K.lookup f10 = some ⟨oc10, od10, .func (PySem.W.fnOf "read_part" "read_part" (defArgs s_read_part) (defBody s_read_part) (defScope s_read_part) .none kV10 dc10 pm10 an10 cd10 ct10), sl10⟩)
    (c10 : PySem.W.codeIn K cd10 "read_part" = true)
    (k10 : PySem.W.keepIn K (.ref f10) = true)
    (a11 : PySem.W.nsIn K mainGlobals "read_parts" = some (some (.ref f11)))
    (l11 : K.lookup f11 = some ⟨oc11, od11, .func (PySem.W.fnOf "read_parts" "read_parts" (defArgs s_read_parts) (defBody s_read_parts) (defScope s_read_parts) .none kV11 dc11 pm11 an11 cd11 ct11), sl11⟩)
    (c11 : PySem.W.codeIn K cd11 "read_parts" = true)
    (k11 : PySem.W.keepIn K (.ref f11) = true)
    (a12 : PySem.W.nsIn K mainGlobals "read_round" = some (some (.ref f12)))
    (l12 : K.lookup f12 = some ⟨oc12, od12, .func (PySem.W.fnOf "read_round" "read_round" (defArgs s_read_round) (defBody s_read_round) (defScope s_read_round) .none kV12 dc12 pm12 an12 cd12 ct12), sl12⟩)
    (c12 : PySem.W.codeIn K cd12 "read_round" = true)
    (k12 : PySem.W.keepIn K (.ref f12) = true)
    (a13 : PySem.W.nsIn K mainGlobals "_law_draw" = some (some (.ref f13)))
    (l13 : K.lookup f13 = some ⟨oc13, od13, .func (PySem.W.fnOf "_law_draw" "_law_draw" (defArgs s_L_draw) (defBody s_L_draw) (defScope s_L_draw) .none kV13 dc13 pm13 an13 cd13 ct13), sl13⟩)
    (c13 : PySem.W.codeIn K cd13 "_law_draw" = true)
    (k13 : PySem.W.keepIn K (.ref f13) = true)
    (a14 : PySem.W.nsIn K mainGlobals "_law_mix" = some (some (.ref f14)))
    (l14 : K.lookup f14 = some ⟨oc14, od14, .func (PySem.W.fnOf "_law_mix" "_law_mix" (defArgs s_L_mix) (defBody s_L_mix) (defScope s_L_mix) .none kV14 dc14 pm14 an14 cd14 ct14), sl14⟩)
    (c14 : PySem.W.codeIn K cd14 "_law_mix" = true)
    (k14 : PySem.W.keepIn K (.ref f14) = true)
    (a15 : PySem.W.nsIn K mainGlobals "_law_pick" = some (some (.ref f15)))
    (l15 : K.lookup f15 = some ⟨oc15, od15, .func (PySem.W.fnOf "_law_pick" "_law_pick" (defArgs s_L_pick) (defBody s_L_pick) (defScope s_L_pick) .none kV15 dc15 pm15 an15 cd15 ct15), sl15⟩)
    (c15 : PySem.W.codeIn K cd15 "_law_pick" = true)
    (k15 : PySem.W.keepIn K (.ref f15) = true)
    (a16 : PySem.W.nsIn K mainGlobals "_law_is_int" = some (some (.ref f16)))
    (l16 : K.lookup f16 = some ⟨oc16, od16, .func (PySem.W.fnOf "_law_is_int" "_law_is_int" (defArgs s_L_is_int) (defBody s_L_is_int) (defScope s_L_is_int) .none kV16 dc16 pm16 an16 cd16 ct16), sl16⟩)
    (c16 : PySem.W.codeIn K cd16 "_law_is_int" = true)
    (k16 : PySem.W.keepIn K (.ref f16) = true)
    (a17 : PySem.W.nsIn K mainGlobals "_law_sign" = some (some (.ref f17)))
    (l17 : K.lookup f17 = some ⟨oc17, od17, .func (PySem.W.fnOf "_law_sign" "_law_sign" (defArgs s_L_sign) (defBody s_L_sign) (defScope s_L_sign) .none kV17 dc17 pm17 an17 cd17 ct17), sl17⟩)
    (c17 : PySem.W.codeIn K cd17 "_law_sign" = true)
    (k17 : PySem.W.keepIn K (.ref f17) = true)
    (a18 : PySem.W.nsIn K mainGlobals "_law_common" = some (some (.ref f18)))
    (l18 : K.lookup f18 = some ⟨oc18, od18, .func (PySem.W.fnOf "_law_common" "_law_common" (defArgs s_L_common) (defBody s_L_common) (defScope s_L_common) .none kV18 dc18 pm18 an18 cd18 ct18), sl18⟩)
    (c18 : PySem.W.codeIn K cd18 "_law_common" = true)
    (k18 : PySem.W.keepIn K (.ref f18) = true)
    (a19 : PySem.W.nsIn K mainGlobals "_law_behind" = some (some (.ref f19)))
    (l19 : K.lookup f19 = some ⟨oc19, od19, .func (PySem.W.fnOf "_law_behind" "_law_behind" (defArgs s_L_behind) (defBody s_L_behind) (defScope s_L_behind) .none kV19 dc19 pm19 an19 cd19 ct19), sl19⟩)
    (c19 : PySem.W.codeIn K cd19 "_law_behind" = true)
    (k19 : PySem.W.keepIn K (.ref f19) = true)
    (a20 : PySem.W.nsIn K mainGlobals "_law_often" = some (some (.ref f20)))
    (l20 : K.lookup f20 = some ⟨oc20, od20, .func (PySem.W.fnOf "_law_often" "_law_often" (defArgs s_L_often) (defBody s_L_often) (defScope s_L_often) .none kV20 dc20 pm20 an20 cd20 ct20), sl20⟩)
    (c20 : PySem.W.codeIn K cd20 "_law_often" = true)
    (k20 : PySem.W.keepIn K (.ref f20) = true)
    (a21 : PySem.W.nsIn K mainGlobals "_law_together" = some (some (.ref f21)))
    (l21 : K.lookup f21 = some ⟨oc21, od21, .func (PySem.W.fnOf "_law_together" "_law_together" (defArgs s_L_together) (defBody s_L_together) (defScope s_L_together) .none kV21 dc21 pm21 an21 cd21 ct21), sl21⟩)
    (c21 : PySem.W.codeIn K cd21 "_law_together" = true)
    (k21 : PySem.W.keepIn K (.ref f21) = true)
    (a22 : PySem.W.nsIn K mainGlobals "_law_run" = some (some (.ref f22)))
    (l22 : K.lookup f22 = some ⟨oc22, od22, .func (PySem.W.fnOf "_law_run" "_law_run" (defArgs s_L_run) (defBody s_L_run) (defScope s_L_run) .none kV22 dc22 pm22 an22 cd22 ct22), sl22⟩)
    (c22 : PySem.W.codeIn K cd22 "_law_run" = true)
    (k22 : PySem.W.keepIn K (.ref f22) = true)
    (a23 : PySem.W.nsIn K mainGlobals "_law_fill" = some (some (.ref f23)))
    (l23 : K.lookup f23 = some ⟨oc23, od23, .func (PySem.W.fnOf "_law_fill" "_law_fill" (defArgs s_L_fill) (defBody s_L_fill) (defScope s_L_fill) .none kV23 dc23 pm23 an23 cd23 ct23), sl23⟩)
    (c23 : PySem.W.codeIn K cd23 "_law_fill" = true)
    (k23 : PySem.W.keepIn K (.ref f23) = true)
    (a24 : PySem.W.nsIn K mainGlobals "_law_times" = some (some (.ref f24)))
    (l24 : K.lookup f24 = some ⟨oc24, od24, .func (PySem.W.fnOf "_law_times" "_law_times" (defArgs s_L_times) (defBody s_L_times) (defScope s_L_times) .none kV24 dc24 pm24 an24 cd24 ct24), sl24⟩)
    (c24 : PySem.W.codeIn K cd24 "_law_times" = true)
    (k24 : PySem.W.keepIn K (.ref f24) = true)
    (a25 : PySem.W.nsIn K mainGlobals "_law_close" = some (some (.ref f25)))
    (l25 : K.lookup f25 = some ⟨oc25, od25, .func (PySem.W.fnOf "_law_close" "_law_close" (defArgs s_L_close) (defBody s_L_close) (defScope s_L_close) .none kV25 dc25 pm25 an25 cd25 ct25), sl25⟩)
    (c25 : PySem.W.codeIn K cd25 "_law_close" = true)
    (k25 : PySem.W.keepIn K (.ref f25) = true)
    (a26 : PySem.W.nsIn K mainGlobals "_law_read" = some (some (.ref f26)))
    (l26 : K.lookup f26 = some ⟨oc26, od26, .func (PySem.W.fnOf "_law_read" "_law_read" (defArgs s_L_read) (defBody s_L_read) (defScope s_L_read) .none kV26 dc26 pm26 an26 cd26 ct26), sl26⟩)
    (c26 : PySem.W.codeIn K cd26 "_law_read" = true)
    (k26 : PySem.W.keepIn K (.ref f26) = true)
    (a27 : PySem.W.nsIn K mainGlobals "_law_number" = some (some (.ref f27)))
    (l27 : K.lookup f27 = some ⟨oc27, od27, .func (PySem.W.fnOf "_law_number" "_law_number" (defArgs s_L_number) (defBody s_L_number) (defScope s_L_number) .none kV27 dc27 pm27 an27 cd27 ct27), sl27⟩)
    (c27 : PySem.W.codeIn K cd27 "_law_number" = true)
    (k27 : PySem.W.keepIn K (.ref f27) = true)
    (a28 : PySem.W.nsIn K mainGlobals "_law_part_text" = some (some (.ref f28)))
    (l28 : K.lookup f28 = some ⟨oc28, od28, .func (PySem.W.fnOf "_law_part_text" "_law_part_text" (defArgs s_L_part_text) (defBody s_L_part_text) (defScope s_L_part_text) .none kV28 dc28 pm28 an28 cd28 ct28), sl28⟩)
    (c28 : PySem.W.codeIn K cd28 "_law_part_text" = true)
    (k28 : PySem.W.keepIn K (.ref f28) = true)
    (a29 : PySem.W.nsIn K mainGlobals "_law_parts_text" = some (some (.ref f29)))
    (l29 : K.lookup f29 = some ⟨oc29, od29, .func (PySem.W.fnOf "_law_parts_text" "_law_parts_text" (defArgs s_L_parts_text) (defBody s_L_parts_text) (defScope s_L_parts_text) .none kV29 dc29 pm29 an29 cd29 ct29), sl29⟩)
    (c29 : PySem.W.codeIn K cd29 "_law_parts_text" = true)
    (k29 : PySem.W.keepIn K (.ref f29) = true)
    (a30 : PySem.W.nsIn K mainGlobals "_law_spoilt" = some (some (.ref f30)))
    (l30 : K.lookup f30 = some ⟨oc30, od30, .func (PySem.W.fnOf "_law_spoilt" "_law_spoilt" (defArgs s_L_spoilt) (defBody s_L_spoilt) (defScope s_L_spoilt) .none kV30 dc30 pm30 an30 cd30 ct30), sl30⟩)
    (c30 : PySem.W.codeIn K cd30 "_law_spoilt" = true)
    (k30 : PySem.W.keepIn K (.ref f30) = true)
    (a31 : PySem.W.nsIn K mainGlobals "_law_chain" = some (some (.ref f31)))
    (l31 : K.lookup f31 = some ⟨oc31, od31, .func (PySem.W.fnOf "_law_chain" "_law_chain" (defArgs s_L_chain) (defBody s_L_chain) (defScope s_L_chain) .none kV31 dc31 pm31 an31 cd31 ct31), sl31⟩)
    (c31 : PySem.W.codeIn K cd31 "_law_chain" = true)
    (k31 : PySem.W.keepIn K (.ref f31) = true)
    (a32 : PySem.W.nsIn K mainGlobals "_law_digits" = some (some (.ref f32)))
    (l32 : K.lookup f32 = some ⟨oc32, od32, .func (PySem.W.fnOf "_law_digits" "_law_digits" (defArgs s_L_digits) (defBody s_L_digits) (defScope s_L_digits) .none kV32 dc32 pm32 an32 cd32 ct32), sl32⟩)
    (c32 : PySem.W.codeIn K cd32 "_law_digits" = true)
    (k32 : PySem.W.keepIn K (.ref f32) = true)
    (a33 : PySem.W.nsIn K mainGlobals "_law_told" = some (some (.ref f33)))
    (l33 : K.lookup f33 = some ⟨oc33, od33, .func (PySem.W.fnOf "_law_told" "_law_told" (defArgs s_L_told) (defBody s_L_told) (defScope s_L_told) .none kV33 dc33 pm33 an33 cd33 ct33), sl33⟩)
    (c33 : PySem.W.codeIn K cd33 "_law_told" = true)
    (k33 : PySem.W.keepIn K (.ref f33) = true)
    (a34 : PySem.W.nsIn K mainGlobals "_law_agree" = some (some (.ref f34)))
    (l34 : K.lookup f34 = some ⟨oc34, od34, .func (PySem.W.fnOf "_law_agree" "_law_agree" (defArgs s_L_agree) (defBody s_L_agree) (defScope s_L_agree) .none kV34 dc34 pm34 an34 cd34 ct34), sl34⟩)
    (c34 : PySem.W.codeIn K cd34 "_law_agree" = true)
    (k34 : PySem.W.keepIn K (.ref f34) = true)
    (a35 : PySem.W.nsIn K mainGlobals "law" = some (some (.ref f35)))
    (l35 : K.lookup f35 = some ⟨oc35, od35, .func (PySem.W.fnOf "law" "law" (defArgs s_law) (defBody s_law) (defScope s_law) .none kV35 dc35 pm35 an35 cd35 ct35), sl35⟩)
    (c35 : PySem.W.codeIn K cd35 "law" = true)
    (k35 : PySem.W.keepIn K (.ref f35) = true)
    (z_ValueError : PySem.W.nsIn K mainGlobals "ValueError" = some none)
    (z_abs : PySem.W.nsIn K mainGlobals "abs" = some none)
    (z_bool : PySem.W.nsIn K mainGlobals "bool" = some none)
    (z_int : PySem.W.nsIn K mainGlobals "int" = some none)
    (z_isinstance : PySem.W.nsIn K mainGlobals "isinstance" = some none)
    (z_len : PySem.W.nsIn K mainGlobals "len" = some none)
    (z_max : PySem.W.nsIn K mainGlobals "max" = some none)
    (z_range : PySem.W.nsIn K mainGlobals "range" = some none)
    (z_str : PySem.W.nsIn K mainGlobals "str" = some none)
    (z_sum : PySem.W.nsIn K mainGlobals "sum" = some none)
    (v_SIGNS : PySem.W.nsIn K mainGlobals "SIGNS" = some (some (.str ".grw" t_SIGNS)))
    (v_MOST_ROUND : PySem.W.nsIn K mainGlobals "MOST_ROUND" = some (some (.int 24 t_MOST_ROUND)))
    (v_DIGITS : PySem.W.nsIn K mainGlobals "DIGITS" = some (some (.str "0123456789" t_DIGITS)))
    (v_MOST_OPEN : PySem.W.nsIn K mainGlobals "MOST_OPEN" = some (some (.int 6 t_MOST_OPEN)))
    (g_GlimError : PySem.W.nsIn K mainGlobals "GlimError" = some (some (.ref C_GlimError)))
    (g_BadText : PySem.W.nsIn K mainGlobals "BadText" = some (some (.ref C_BadText)))
    (g_TooLong : PySem.W.nsIn K mainGlobals "TooLong" = some (some (.ref C_TooLong)))
    (xl_BadText : K.lookup C_BadText = some (excClassObj nm_BadText q_BadText C_BadText N_BadText bs_BadText bm_BadText true sn_BadText sub_BadText ab_BadText col_BadText dd_BadText m0_BadText m1_BadText m2_BadText m3_BadText m5_BadText "ValueError.__new__"))
    (xr_BadText : PySem.HandSPX.refsVE bm_BadText = true)
    (xsa_BadText : PySem.W.findIn K (.ref C_BadText) "__setattr__" = some (some (.builtin "object.__setattr__")))
    (xga_BadText : PySem.W.findIn K (.ref C_BadText) "__getattribute__" = some (some (.builtin "BaseException.__getattribute__")))
    (xgg_BadText : PySem.W.findIn K (.ref C_BadText) "__getattr__" = some none)
    (xnf_BadText : PySem.W.findIn K (.ref C_BadText) "at" = some none)
    (xi_BadText : PySem.W.findIn K (.ref C_BadText) "__init__" = some (some (.ref f36)))
    (xt_BadText : PySem.W.typeIn K (.ref f36) = some (.type "function"))
    (xf_BadText : K.lookup f36 = some ⟨oc36, od36, .func (PySem.W.fnOf "__init__" "BadText.__init__" (defArgs s_BadText) (defBody s_BadText) (defScope s_BadText) .none kV36 dc36 pm36 an36 cd36 ct36), sl36⟩)
    (xc_BadText : PySem.W.codeIn K cd36 "BadText.__init__" = true)
    (xkf_BadText : PySem.W.keepIn K (.ref f36) = true)
    (xk_BadText : PySem.W.keepIn K (.ref C_BadText) = true)
    (xe_BadText : PySem.W.subIn K (.ref C_BadText) (.type "BaseException") = some true)
    (xty_BadText : PySem.W.typeIn K (.ref C_BadText) = some (.type "type"))
    (xhd_BadText : PySem.W.hasDictIn K C_BadText = true)
    (xis_BadText : PySem.W.isClsIn K C_BadText = true)
    (xca_BadText : PySem.W.findIn K (.ref C_BadText) "__class__" = some (some (.builtin "object.__class__")))
    (xm_BadText : PySem.W.mroIn K C_BadText (.type "object") = some true)
    (xl_TooLong : K.lookup C_TooLong = some (excClassObj nm_TooLong q_TooLong C_TooLong N_TooLong bs_TooLong bm_TooLong true sn_TooLong sub_TooLong ab_TooLong col_TooLong dd_TooLong m0_TooLong m1_TooLong m2_TooLong m3_TooLong m5_TooLong "ValueError.__new__"))
    (xr_TooLong : PySem.HandSPX.refsVE bm_TooLong = true)
    (xsa_TooLong : PySem.W.findIn K (.ref C_TooLong) "__setattr__" = some (some (.builtin "object.__setattr__")))
    (xga_TooLong : PySem.W.findIn K (.ref C_TooLong) "__getattribute__" = some (some (.builtin "BaseException.__getattribute__")))
    (xgg_TooLong : PySem.W.findIn K (.ref C_TooLong) "__getattr__" = some none)
    (xnf_TooLong : PySem.W.findIn K (.ref C_TooLong) "number" = some none)
    (xi_TooLong : PySem.W.findIn K (.ref C_TooLong) "__init__" = some (some (.ref f37)))
    (xt_TooLong : PySem.W.typeIn K (.ref f37) = some (.type "function"))
    (xf_TooLong : K.lookup f37 = some ⟨oc37, od37, .func (PySem.W.fnOf "__init__" "TooLong.__init__" (defArgs s_TooLong) (defBody s_TooLong) (defScope s_TooLong) .none kV37 dc37 pm37 an37 cd37 ct37), sl37⟩)
    (xc_TooLong : PySem.W.codeIn K cd37 "TooLong.__init__" = true)
    (xkf_TooLong : PySem.W.keepIn K (.ref f37) = true)
    (xk_TooLong : PySem.W.keepIn K (.ref C_TooLong) = true)
    (xe_TooLong : PySem.W.subIn K (.ref C_TooLong) (.type "BaseException") = some true)
    (xty_TooLong : PySem.W.typeIn K (.ref C_TooLong) = some (.type "type"))
    (xhd_TooLong : PySem.W.hasDictIn K C_TooLong = true)
    (xis_TooLong : PySem.W.isClsIn K C_TooLong = true)
    (xca_TooLong : PySem.W.findIn K (.ref C_TooLong) "__class__" = some (some (.builtin "object.__class__")))
    (xm_TooLong : PySem.W.mroIn K C_TooLong (.type "object") = some true)
    (xsp : PySem.W.specialIn K (.builtin "object.__class__") "__get__" = some (some (.builtin "getset_descriptor.__get__")))
    (xtk : PySem.W.takesIn K (.builtin "object.__class__") = some true)
    (qi_BadText : PySem.W.isClsIn K C_BadText = true)
    (qt_BadText : PySem.W.typeIn K (.ref C_BadText) = some (.type "type"))
    (qs_BadText : PySem.W.subIn K (.ref C_BadText) (.ref C_BadText) = some true)
    (qb_BadText : PySem.W.subIn K (.ref C_BadText) (.type "BaseException") = some true)
    (qi_GlimError : PySem.W.isClsIn K C_GlimError = true)
    (qt_GlimError : PySem.W.typeIn K (.ref C_GlimError) = some (.type "type"))
    (qs_GlimError : PySem.W.subIn K (.ref C_GlimError) (.ref C_GlimError) = some true)
    (qb_GlimError : PySem.W.subIn K (.ref C_GlimError) (.type "BaseException") = some true)
    (qi_TooLong : PySem.W.isClsIn K C_TooLong = true)
    (qt_TooLong : PySem.W.typeIn K (.ref C_TooLong) = some (.type "type"))
    (qs_TooLong : PySem.W.subIn K (.ref C_TooLong) (.ref C_TooLong) = some true)
    (qb_TooLong : PySem.W.subIn K (.ref C_TooLong) (.type "BaseException") = some true)
    (y_BadText_BadText : PySem.W.subIn K (.ref C_BadText) (.ref C_BadText) = some true)
    (y_BadText_TooLong : PySem.W.subIn K (.ref C_BadText) (.ref C_TooLong) = some false)
    (y_BadText_ValueError : PySem.W.subIn K (.ref C_BadText) (.type "ValueError") = some true)
    (y_TooLong_BadText : PySem.W.subIn K (.ref C_TooLong) (.ref C_BadText) = some false)
    (y_TooLong_TooLong : PySem.W.subIn K (.ref C_TooLong) (.ref C_TooLong) = some true)
    (y_TooLong_ValueError : PySem.W.subIn K (.ref C_TooLong) (.type "ValueError") = some true)
    (x_BadText_GlimError : PySem.W.subIn K (.ref C_BadText) (.ref C_GlimError) = some true)
    (x_TooLong_GlimError : PySem.W.subIn K (.ref C_TooLong) (.ref C_GlimError) = some true)
    : ∃ fd : FuncData, (∀ (s : Shared) (v : Value), BindsTo s fd ⟨[v], []⟩ [("_law_script", v)]) ∧ ∀ base : Heap, K.In base → base.Ns mainGlobals mg → FnOk l.prog w K mg base CX0 27 fa fd ["_law_script"] (sp1 (p_law K)) := by
  have e := hfa.symm.trans (PySem.W.mg_of X G a35)
  cases e
  have F1 := fun_mk (st := s_common_beats) l1 c1 k1
  have F2 := fun_mk (st := s_repeated) l2 c2 k2
  have F3 := fun_mk (st := s_put_behind) l3 c3 k3
  have F4 := fun_mk (st := s_first_lit) l4 c4 k4
  have F5 := fun_mk (st := s_shown_together) l5 c5 k5
  have F6 := fun_mk (st := s_behind_digits) l6 c6 k6
  have F7 := fun_mk (st := s_is_within) l7 c7 k7
  have F8 := fun_mk (st := s_read_item) l8 c8 k8
  have F9 := fun_mk (st := s_read_filled) l9 c9 k9
  have F10 := fun_mk (st := s_read_part) l10 c10 k10
  have F11 := fun_mk (st := s_read_parts) l11 c11 k11
  have F12 := fun_mk (st := s_read_round) l12 c12 k12
  have F13 := fun_mk (st := s_L_draw) l13 c13 k13
  have F14 := fun_mk (st := s_L_mix) l14 c14 k14
  have F15 := fun_mk (st := s_L_pick) l15 c15 k15
  have F16 := fun_mk (st := s_L_is_int) l16 c16 k16
  have F17 := fun_mk (st := s_L_sign) l17 c17 k17
  have F18 := fun_mk (st := s_L_common) l18 c18 k18
  have F19 := fun_mk (st := s_L_behind) l19 c19 k19
  have F20 := fun_mk (st := s_L_often) l20 c20 k20
  have F21 := fun_mk (st := s_L_together) l21 c21 k21
  have F22 := fun_mk (st := s_L_run) l22 c22 k22
  have F23 := fun_mk (st := s_L_fill) l23 c23 k23
  have F24 := fun_mk (st := s_L_times) l24 c24 k24
  have F25 := fun_mk (st := s_L_close) l25 c25 k25
  have F26 := fun_mk (st := s_L_read) l26 c26 k26
  have F27 := fun_mk (st := s_L_number) l27 c27 k27
  have F28 := fun_mk (st := s_L_part_text) l28 c28 k28
  have F29 := fun_mk (st := s_L_parts_text) l29 c29 k29
  have F30 := fun_mk (st := s_L_spoilt) l30 c30 k30
  have F31 := fun_mk (st := s_L_chain) l31 c31 k31
  have F32 := fun_mk (st := s_L_digits) l32 c32 k32
  have F33 := fun_mk (st := s_L_told) l33 c33 k33
  have F34 := fun_mk (st := s_L_agree) l34 c34 k34
  have F35 := fun_mk (st := s_law) l35 c35 k35
  have F36 := fun_mk (st := s_BadText) xf_BadText xc_BadText xkf_BadText
  have F37 := fun_mk (st := s_TooLong) xf_TooLong xc_TooLong xkf_TooLong
  have T : Txt K mg C_GlimError C_BadText C_TooLong := {
    d_common_beats := ⟨_, _, F1, PySem.W.mg_of X G a1, (F1.binds (ps := ["first", "second"]) fun _ _ _ _ _ _ us hl => match us, hl with | [_, _], _ => rfl)⟩
    d_repeated := ⟨_, _, F2, PySem.W.mg_of X G a2, (F2.binds (ps := ["stretch", "times"]) fun _ _ _ _ _ _ us hl => match us, hl with | [_, _], _ => rfl)⟩
    d_put_behind := ⟨_, _, F3, PySem.W.mg_of X G a3, (F3.binds (ps := ["stretch", "other"]) fun _ _ _ _ _ _ us hl => match us, hl with | [_, _], _ => rfl)⟩
    d_first_lit := ⟨_, _, F4, PySem.W.mg_of X G a4, (F4.binds (ps := ["signs"]) fun _ _ _ _ _ _ us hl => match us, hl with | [_], _ => rfl)⟩
    d_shown_together := ⟨_, _, F5, PySem.W.mg_of X G a5, (F5.binds (ps := ["parts"]) fun _ _ _ _ _ _ us hl => match us, hl with | [_], _ => rfl)⟩
    d_behind_digits := ⟨_, _, F6, PySem.W.mg_of X G a6, (F6.binds (ps := ["text", "at"]) fun _ _ _ _ _ _ us hl => match us, hl with | [_, _], _ => rfl)⟩
    d_is_within := ⟨_, _, F7, PySem.W.mg_of X G a7, (F7.binds (ps := ["run", "low", "high"]) fun _ _ _ _ _ _ us hl => match us, hl with | [_, _, _], _ => rfl)⟩
    d_read_item := ⟨_, _, F8, PySem.W.mg_of X G a8, (F8.binds (ps := ["text", "at", "opened"]) fun _ _ _ _ _ _ us hl => match us, hl with | [_, _, _], _ => rfl)⟩
    d_read_filled := ⟨_, _, F9, PySem.W.mg_of X G a9, (F9.binds (ps := ["text", "at", "part"]) fun _ _ _ _ _ _ us hl => match us, hl with | [_, _, _], _ => rfl)⟩
    d_read_part := ⟨_, _, F10, PySem.W.mg_of X G a10, (F10.binds (ps := ["text", "at", "opened"]) fun _ _ _ _ _ _ us hl => match us, hl with | [_, _, _], _ => rfl)⟩
    d_read_parts := ⟨_, _, F11, PySem.W.mg_of X G a11, (F11.binds (ps := ["text", "at", "opened"]) fun _ _ _ _ _ _ us hl => match us, hl with | [_, _, _], _ => rfl)⟩
    d_read_round := ⟨_, _, F12, PySem.W.mg_of X G a12, (F12.binds (ps := ["text"]) fun _ _ _ _ _ _ us hl => match us, hl with | [_], _ => rfl)⟩
    d_L_draw := ⟨_, _, F13, PySem.W.mg_of X G a13, (F13.binds (ps := ["_law_script"]) fun _ _ _ _ _ _ us hl => match us, hl with | [_], _ => rfl)⟩
    d_L_mix := ⟨_, _, F14, PySem.W.mg_of X G a14, (F14.binds (ps := ["_law_cell", "_law_turn"]) fun _ _ _ _ _ _ us hl => match us, hl with | [_, _], _ => rfl)⟩
    d_L_pick := ⟨_, _, F15, PySem.W.mg_of X G a15, (F15.binds (ps := ["_law_draw_here", "_law_many"]) fun _ _ _ _ _ _ us hl => match us, hl with | [_, _], _ => rfl)⟩
    d_L_is_int := ⟨_, _, F16, PySem.W.mg_of X G a16, (F16.binds (ps := ["_law_thing"]) fun _ _ _ _ _ _ us hl => match us, hl with | [_], _ => rfl)⟩
    d_L_sign := ⟨_, _, F17, PySem.W.mg_of X G a17, (F17.binds (ps := ["_law_draw_here"]) fun _ _ _ _ _ _ us hl => match us, hl with | [_], _ => rfl)⟩
    d_L_common := ⟨_, _, F18, PySem.W.mg_of X G a18, (F18.binds (ps := ["_law_one", "_law_two"]) fun _ _ _ _ _ _ us hl => match us, hl with | [_, _], _ => rfl)⟩
    d_L_behind := ⟨_, _, F19, PySem.W.mg_of X G a19, (F19.binds (ps := ["_law_one", "_law_two"]) fun _ _ _ _ _ _ us hl => match us, hl with | [_, _], _ => rfl)⟩
    d_L_often := ⟨_, _, F20, PySem.W.mg_of X G a20, (F20.binds (ps := ["_law_one", "_law_times_here"]) fun _ _ _ _ _ _ us hl => match us, hl with | [_, _], _ => rfl)⟩
    d_L_together := ⟨_, _, F21, PySem.W.mg_of X G a21, (F21.binds (ps := ["_law_parts"]) fun _ _ _ _ _ _ us hl => match us, hl with | [_], _ => rfl)⟩
    d_L_run := ⟨_, _, F22, PySem.W.mg_of X G a22, (F22.binds (ps := ["_law_text", "_law_spot"]) fun _ _ _ _ _ _ us hl => match us, hl with | [_, _], _ => rfl)⟩
    d_L_fill := ⟨_, _, F23, PySem.W.mg_of X G a23, (F23.binds (ps := ["_law_part", "_law_run_here"]) fun _ _ _ _ _ _ us hl => match us, hl with | [_, _], _ => rfl)⟩
    d_L_times := ⟨_, _, F24, PySem.W.mg_of X G a24, (F24.binds (ps := ["_law_run_here", "_law_follow"]) fun _ _ _ _ _ _ us hl => match us, hl with | [_, _], _ => rfl)⟩
    d_L_close := ⟨_, _, F25, PySem.W.mg_of X G a25, (F25.binds (ps := ["_law_stack", "_law_parts", "_law_part", "_law_here"]) fun _ _ _ _ _ _ us hl => match us, hl with | [_, _, _, _], _ => rfl)⟩
    d_L_read := ⟨_, _, F26, PySem.W.mg_of X G a26, (F26.binds (ps := ["_law_text"]) fun _ _ _ _ _ _ us hl => match us, hl with | [_], _ => rfl)⟩
    d_L_number := ⟨_, _, F27, PySem.W.mg_of X G a27, (F27.binds (ps := ["_law_draw_here"]) fun _ _ _ _ _ _ us hl => match us, hl with | [_], _ => rfl)⟩
    d_L_part_text := ⟨_, _, F28, PySem.W.mg_of X G a28, (F28.binds (ps := ["_law_draw_here", "_law_depth", "_law_tally"]) fun _ _ _ _ _ _ us hl => match us, hl with | [_, _, _], _ => rfl)⟩
    d_L_parts_text := ⟨_, _, F29, PySem.W.mg_of X G a29, (F29.binds (ps := ["_law_draw_here", "_law_depth", "_law_tally"]) fun _ _ _ _ _ _ us hl => match us, hl with | [_, _, _], _ => rfl)⟩
    d_L_spoilt := ⟨_, _, F30, PySem.W.mg_of X G a30, (F30.binds (ps := ["_law_draw_here", "_law_text"]) fun _ _ _ _ _ _ us hl => match us, hl with | [_, _], _ => rfl)⟩
    d_L_chain := ⟨_, _, F31, PySem.W.mg_of X G a31, (F31.binds (ps := ["_law_draw_here"]) fun _ _ _ _ _ _ us hl => match us, hl with | [_], _ => rfl)⟩
    d_L_digits := ⟨_, _, F32, PySem.W.mg_of X G a32, (F32.binds (ps := ["_law_draw_here"]) fun _ _ _ _ _ _ us hl => match us, hl with | [_], _ => rfl)⟩
    d_L_told := ⟨_, _, F33, PySem.W.mg_of X G a33, (F33.binds (ps := ["_law_text"]) fun _ _ _ _ _ _ us hl => match us, hl with | [_], _ => rfl)⟩
    d_L_agree := ⟨_, _, F34, PySem.W.mg_of X G a34, (F34.binds (ps := ["_law_told_here", "_law_due"]) fun _ _ _ _ _ _ us hl => match us, hl with | [_, _], _ => rfl)⟩
    d_law := ⟨_, _, F35, PySem.W.mg_of X G a35, (F35.binds (ps := ["_law_script"]) fun _ _ _ _ _ _ us hl => match us, hl with | [_], _ => rfl)⟩
    b_ValueError := PySem.W.mg_none_of X G z_ValueError
    b_abs := PySem.W.mg_none_of X G z_abs
    b_bool := PySem.W.mg_none_of X G z_bool
    b_int := PySem.W.mg_none_of X G z_int
    b_isinstance := PySem.W.mg_none_of X G z_isinstance
    b_len := PySem.W.mg_none_of X G z_len
    b_max := PySem.W.mg_none_of X G z_max
    b_range := PySem.W.mg_none_of X G z_range
    b_str := PySem.W.mg_none_of X G z_str
    b_sum := PySem.W.mg_none_of X G z_sum
    g_SIGNS := ⟨t_SIGNS, (PySem.W.mg_of X G v_SIGNS).trans (congrArg some (congrArg (fun z => Value.str z t_SIGNS) (by decide +kernel : (".grw" : Str) = ⟨([46, 103, 114, 119] : List Nat).toArray⟩)))⟩
    g_MOST_ROUND := ⟨t_MOST_ROUND, PySem.W.mg_of X G v_MOST_ROUND⟩
    g_DIGITS := ⟨t_DIGITS, (PySem.W.mg_of X G v_DIGITS).trans (congrArg some (congrArg (fun z => Value.str z t_DIGITS) (by decide +kernel : ("0123456789" : Str) = ⟨([48, 49, 50, 51, 52, 53, 54, 55, 56, 57] : List Nat).toArray⟩)))⟩
    g_MOST_OPEN := ⟨t_MOST_OPEN, PySem.W.mg_of X G v_MOST_OPEN⟩
    c_GlimError := PySem.W.mg_of X G g_GlimError
    c_BadText := PySem.W.mg_of X G g_BadText
    c_TooLong := PySem.W.mg_of X G g_TooLong
    o_BadText := ⟨⟨nm_BadText, q_BadText, N_BadText, bs_BadText, bm_BadText, sn_BadText, sub_BadText, ab_BadText, col_BadText, dd_BadText, m0_BadText, m1_BadText, m2_BadText, m3_BadText, m5_BadText, xl_BadText, xr_BadText⟩, xsa_BadText, xe_BadText, xty_BadText, xk_BadText⟩
    nf_BadText := xnf_BadText
    i_BadText := ⟨f36, _, xi_BadText, xt_BadText, F36, (F36.binds (ps := ["self", "at"]) fun _ _ _ _ _ _ us hl => match us, hl with | [_, _], _ => rfl)⟩
    e_BadText := ⟨xis_BadText, xga_BadText, xgg_BadText, xe_BadText, xhd_BadText, xca_BadText, xsp, xtk, xm_BadText⟩
    o_TooLong := ⟨⟨nm_TooLong, q_TooLong, N_TooLong, bs_TooLong, bm_TooLong, sn_TooLong, sub_TooLong, ab_TooLong, col_TooLong, dd_TooLong, m0_TooLong, m1_TooLong, m2_TooLong, m3_TooLong, m5_TooLong, xl_TooLong, xr_TooLong⟩, xsa_TooLong, xe_TooLong, xty_TooLong, xk_TooLong⟩
    nf_TooLong := xnf_TooLong
    i_TooLong := ⟨f37, _, xi_TooLong, xt_TooLong, F37, (F37.binds (ps := ["self", "number"]) fun _ _ _ _ _ _ us hl => match us, hl with | [_, _], _ => rfl)⟩
    e_TooLong := ⟨xis_TooLong, xga_TooLong, xgg_TooLong, xe_TooLong, xhd_TooLong, xca_TooLong, xsp, xtk, xm_TooLong⟩
    k_BadText_BadText := Fg.kit_ref qi_BadText qt_BadText qs_BadText y_BadText_BadText
    k_BadText_TooLong := Fg.kit_ref qi_TooLong qt_TooLong qs_TooLong y_BadText_TooLong
    k_BadText_ValueError := Fg.kit_base (by decide +kernel) y_BadText_ValueError
    k_TooLong_BadText := Fg.kit_ref qi_BadText qt_BadText qs_BadText y_TooLong_BadText
    k_TooLong_TooLong := Fg.kit_ref qi_TooLong qt_TooLong qs_TooLong y_TooLong_TooLong
    k_TooLong_ValueError := Fg.kit_base (by decide +kernel) y_TooLong_ValueError
    m_BadText_GlimError := Fg.exm_ref qi_GlimError qt_GlimError qb_GlimError x_BadText_GlimError
    m_TooLong_GlimError := Fg.exm_ref qi_GlimError qt_GlimError qb_GlimError x_TooLong_GlimError }
  refine ⟨PySem.W.fnOf "law" "law" (defArgs s_law) (defBody s_law) (defScope s_law) .none kV35 dc35 pm35 an35 cd35 ct35, fun s v => .of_eq rfl, fun base _ _ => ?_⟩
  exact ok_law_at F35 T
end K05
open PySem PySem.W PyProof.Rows
set_option maxRecDepth 100000 in
set_option maxHeartbeats 0 in
theorem PySem.Challenge.cw_falseglim_k05_bad_rhythm_texts_holds : PySem.Challenge.rw_falseglim_k05_bad_rhythm_texts.Holds := by
  w_on; o_law; k_head; (case hw => w_witness2)
  k_fill
  refine L2.walk_of (l := PySem.Challenge.rw_falseglim_k05_bad_rhythm_texts) (n := 63) (k := 27) (x := "_law_script") (CX := fun _ => L2.CX0) (sp := fun w => Fg.sp1 (K05.p_law _)) rfl (by decide) rfl ⟨rfl, by decide, by decide⟩ (fun w h Y => PySem.W.kIn_of Y) ?F (fun _ _ a ns hl _ hS => ⟨.ref a, rfl, a, ns, rfl, hS, hl, fun _ => rfl⟩) (fun _ _ _ _ _ h => h)
  case F =>
    intro w mg fa h KX G hmg
    refine' K05.all_mk KX G hmg ?a1 ?l1 ?c1 ?k1 ?a2 ?l2 ?c2 ?k2 ?a3 ?l3 ?c3 ?k3 ?a4 ?l4 ?c4 ?k4 ?a5 ?l5 ?c5 ?k5 ?a6 ?l6 ?c6 ?k6 ?a7 ?l7 ?c7 ?k7 ?a8 ?l8 ?c8 ?k8 ?a9 ?l9 ?c9 ?k9 ?a10 ?l10 ?c10 ?k10 ?a11 ?l11 ?c11 ?k11 ?a12 ?l12 ?c12 ?k12 ?a13 ?l13 ?c13 ?k13 ?a14 ?l14 ?c14 ?k14 ?a15 ?l15 ?c15 ?k15 ?a16 ?l16 ?c16 ?k16 ?a17 ?l17 ?c17 ?k17 ?a18 ?l18 ?c18 ?k18 ?a19 ?l19 ?c19 ?k19 ?a20 ?l20 ?c20 ?k20 ?a21 ?l21 ?c21 ?k21 ?a22 ?l22 ?c22 ?k22 ?a23 ?l23 ?c23 ?k23 ?a24 ?l24 ?c24 ?k24 ?a25 ?l25 ?c25 ?k25 ?a26 ?l26 ?c26 ?k26 ?a27 ?l27 ?c27 ?k27 ?a28 ?l28 ?c28 ?k28 ?a29 ?l29 ?c29 ?k29 ?a30 ?l30 ?c30 ?k30 ?a31 ?l31 ?c31 ?k31 ?a32 ?l32 ?c32 ?k32 ?a33 ?l33 ?c33 ?k33 ?a34 ?l34 ?c34 ?k34 ?a35 ?l35 ?c35 ?k35 ?z_ValueError ?z_abs ?z_bool ?z_int ?z_isinstance ?z_len ?z_max ?z_range ?z_str ?z_sum ?v_SIGNS ?v_MOST_ROUND ?v_DIGITS ?v_MOST_OPEN ?g_GlimError ?g_BadText ?g_TooLong ?xl_BadText ?xr_BadText ?xsa_BadText ?xga_BadText ?xgg_BadText ?xnf_BadText ?xi_BadText ?xt_BadText ?xf_BadText ?xc_BadText ?xkf_BadText ?xk_BadText ?xe_BadText ?xty_BadText ?xhd_BadText ?xis_BadText ?xca_BadText ?xm_BadText ?xl_TooLong ?xr_TooLong ?xsa_TooLong ?xga_TooLong ?xgg_TooLong ?xnf_TooLong ?xi_TooLong ?xt_TooLong ?xf_TooLong ?xc_TooLong ?xkf_TooLong ?xk_TooLong ?xe_TooLong ?xty_TooLong ?xhd_TooLong ?xis_TooLong ?xca_TooLong ?xm_TooLong ?xsp ?xtk ?qi_BadText ?qt_BadText ?qs_BadText ?qb_BadText ?qi_GlimError ?qt_GlimError ?qs_GlimError ?qb_GlimError ?qi_TooLong ?qt_TooLong ?qs_TooLong ?qb_TooLong ?y_BadText_BadText ?y_BadText_TooLong ?y_BadText_ValueError ?y_TooLong_BadText ?y_TooLong_TooLong ?y_TooLong_ValueError ?x_BadText_GlimError ?x_TooLong_GlimError
    (case a1 => k_is)
    (case l1 => k_is)
    (case c1 => k_is)
    (case k1 => k_is)
    (case a2 => k_is)
    (case l2 => k_is)
    (case c2 => k_is)
    (case k2 => k_is)
    (case a3 => k_is)
    (case l3 => k_is)
    (case c3 => k_is)
    (case k3 => k_is)
    (case a4 => k_is)
    (case l4 => k_is)
    (case c4 => k_is)
    (case k4 => k_is)
    (case a5 => k_is)
    (case l5 => k_is)
    (case c5 => k_is)
    (case k5 => k_is)
    (case a6 => k_is)
    (case l6 => k_is)
    (case c6 => k_is)
    (case k6 => k_is)
    (case a7 => k_is)
    (case l7 => k_is)
    (case c7 => k_is)
    (case k7 => k_is)
    (case a8 => k_is)
    (case l8 => k_is)
    (case c8 => k_is)
    (case k8 => k_is)
    (case a9 => k_is)
    (case l9 => k_is)
    (case c9 => k_is)
    (case k9 => k_is)
    (case a10 => k_is)
    (case l10 => k_is)
    (case c10 => k_is)
    (case k10 => k_is)
    (case a11 => k_is)
    (case l11 => k_is)
    (case c11 => k_is)
    (case k11 => k_is)
    (case a12 => k_is)
    (case l12 => k_is)
    (case c12 => k_is)
    (case k12 => k_is)
    (case a13 => k_is)
    (case l13 => k_is)
    (case c13 => k_is)
    (case k13 => k_is)
    (case a14 => k_is)
    (case l14 => k_is)
    (case c14 => k_is)
    (case k14 => k_is)
    (case a15 => k_is)
    (case l15 => k_is)
    (case c15 => k_is)
    (case k15 => k_is)
    (case a16 => k_is)
    (case l16 => k_is)
    (case c16 => k_is)
    (case k16 => k_is)
    (case a17 => k_is)
    (case l17 => k_is)
    (case c17 => k_is)
    (case k17 => k_is)
    (case a18 => k_is)
    (case l18 => k_is)
    (case c18 => k_is)
    (case k18 => k_is)
    (case a19 => k_is)
    (case l19 => k_is)
    (case c19 => k_is)
    (case k19 => k_is)
    (case a20 => k_is)
    (case l20 => k_is)
    (case c20 => k_is)
    (case k20 => k_is)
    (case a21 => k_is)
    (case l21 => k_is)
    (case c21 => k_is)
    (case k21 => k_is)
    (case a22 => k_is)
    (case l22 => k_is)
    (case c22 => k_is)
    (case k22 => k_is)
    (case a23 => k_is)
    (case l23 => k_is)
    (case c23 => k_is)
    (case k23 => k_is)
    (case a24 => k_is)
    (case l24 => k_is)
    (case c24 => k_is)
    (case k24 => k_is)
    (case a25 => k_is)
    (case l25 => k_is)
    (case c25 => k_is)
    (case k25 => k_is)
    (case a26 => k_is)
    (case l26 => k_is)
    (case c26 => k_is)
    (case k26 => k_is)
    (case a27 => k_is)
    (case l27 => k_is)
    (case c27 => k_is)
    (case k27 => k_is)
    (case a28 => k_is)
    (case l28 => k_is)
    (case c28 => k_is)
    (case k28 => k_is)
    (case a29 => k_is)
    (case l29 => k_is)
    (case c29 => k_is)
    (case k29 => k_is)
    (case a30 => k_is)
    (case l30 => k_is)
    (case c30 => k_is)
    (case k30 => k_is)
    (case a31 => k_is)
    (case l31 => k_is)
    (case c31 => k_is)
    (case k31 => k_is)
    (case a32 => k_is)
    (case l32 => k_is)
    (case c32 => k_is)
    (case k32 => k_is)
    (case a33 => k_is)
    (case l33 => k_is)
    (case c33 => k_is)
    (case k33 => k_is)
    (case a34 => k_is)
    (case l34 => k_is)
    (case c34 => k_is)
    (case k34 => k_is)
    (case a35 => k_is)
    (case l35 => k_is)
    (case c35 => k_is)
    (case k35 => k_is)
    (case z_ValueError => k_is)
    (case z_abs => k_is)
    (case z_bool => k_is)
    (case z_int => k_is)
    (case z_isinstance => k_is)
    (case z_len => k_is)
    (case z_max => k_is)
    (case z_range => k_is)
    (case z_str => k_is)
    (case z_sum => k_is)
    (case v_SIGNS => k_is)
    (case v_MOST_ROUND => k_is)
    (case v_DIGITS => k_is)
    (case v_MOST_OPEN => k_is)
    (case g_GlimError => k_is)
    (case g_BadText => k_is)
    (case g_TooLong => k_is)
    (case xl_BadText => k_is)
    (case xr_BadText => first | rfl | k_is | decide +kernel)
    (case xsa_BadText => k_is)
    (case xga_BadText => k_is)
    (case xgg_BadText => k_is)
    (case xnf_BadText => k_is)
    (case xi_BadText => k_is)
    (case xt_BadText => k_is)
    (case xf_BadText => k_is)
    (case xc_BadText => k_is)
    (case xkf_BadText => k_is)
    (case xk_BadText => k_is)
    (case xe_BadText => k_is)
    (case xty_BadText => k_is)
    (case xhd_BadText => k_is)
    (case xis_BadText => k_is)
    (case xca_BadText => k_is)
    (case xm_BadText => k_is)
    (case xl_TooLong => k_is)
    (case xr_TooLong => first | rfl | k_is | decide +kernel)
    (case xsa_TooLong => k_is)
    (case xga_TooLong => k_is)
    (case xgg_TooLong => k_is)
    (case xnf_TooLong => k_is)
    (case xi_TooLong => k_is)
    (case xt_TooLong => k_is)
    (case xf_TooLong => k_is)
    (case xc_TooLong => k_is)
    (case xkf_TooLong => k_is)
    (case xk_TooLong => k_is)
    (case xe_TooLong => k_is)
    (case xty_TooLong => k_is)
    (case xhd_TooLong => k_is)
    (case xis_TooLong => k_is)
    (case xca_TooLong => k_is)
    (case xm_TooLong => k_is)
    (case xsp => k_is)
    (case xtk => k_is)
    (case qi_BadText => k_is)
    (case qt_BadText => k_is)
    (case qs_BadText => k_is)
    (case qb_BadText => k_is)
    (case qi_GlimError => k_is)
    (case qt_GlimError => k_is)
    (case qs_GlimError => k_is)
    (case qb_GlimError => k_is)
    (case qi_TooLong => k_is)
    (case qt_TooLong => k_is)
    (case qs_TooLong => k_is)
    (case qb_TooLong => k_is)
    (case y_BadText_BadText => k_is)
    (case y_BadText_TooLong => k_is)
    (case y_BadText_ValueError => k_is)
    (case y_TooLong_BadText => k_is)
    (case y_TooLong_TooLong => k_is)
    (case y_TooLong_ValueError => k_is)
    (case x_BadText_GlimError => k_is)
    (case x_TooLong_GlimError => k_is)
