import PyProof.Rows.All
import Wide.All
import OpenK.AllK
import Wide.FinOn
import HandS.ForMost
import HandS.Exc
import HandS.ExcOwn
import HandS.WordsExc
import HandS.TryOnly
import HandS.ExcInit
import HandS.ExcField
import HandS.ExcIs
import HandS.IsInst
import HandS.TryMany
import HandS.Wide
import HandS.Steps
import HandS.TupAny
import HandS.Walk
import HandS.Evl
import KE.GoesEnum
import KE.KExcIs
import HandS.Conv
import PySem.Challenge.RW_falseglim_k04_rhythm_texts
set_option Elab.async false
set_option linter.all false
set_option maxRecDepth 100000
set_option maxHeartbeats 4000000
/-! Rules that ask nothing of the kinds: one rule for each sign of Python, its reading told by the values. -/
namespace Fg
open PySem PySem.Spec PyProof.Rows L2

/-- a text by its signs -/
def S (l : List Nat) : V := .str ⟨l.toArray⟩
theorem S_inj {l m : List Nat} : S l = S m ↔ l = m := by
  constructor
  · intro h
    have h1 := V.str.inj h
    have h2 := congrArg PySem.Str.cps h1
    exact List.toArray_inj h2
  · rintro rfl; rfl
theorem S_dec {l m : List Nat} : decide (S l = S m) = decide (l = m) := by
  rw [Bool.eq_iff_iff]; simp [S_inj]
theorem str_len (l : List Nat) : (⟨l.toArray⟩ : Str).length = l.length := by
  show l.toArray.size = l.length
  simp
theorem pe_S {X : Cx} {x : Str} {j : Nat} {pos : Pos} (l : List Nat) (h : x = ⟨l.toArray⟩ := by decide +kernel) : PE X (.Constant (.str x) j pos) (tC (S l)) := by
  subst h
  exact pe_str

/-! ### either of two readings -/
def or2 (r r' : R2) : R2 := fun x y H Q => r x y H Q ∨ r' x y H Q
theorem or2_op {X : Cx} {f : Value → Value → Sem Value} {r r' : R2} (h : OpR X f r) (h' : OpR X f r') : OpR X f (or2 r r') := by
  intro pins s σ H x y v u Q I rx ry q
  rcases q with q | q
  · exact h pins s σ H x y v u Q I rx ry q
  · exact h' pins s σ H x y v u Q I rx ry q
theorem or2_ix {X : Cx} {r r' : R2} (h : IxR X r) (h' : IxR X r') : IxR X (or2 r r') := by
  intro value slice pins s σ H x y v u Q I rx ry q hs
  rcases q with q | q
  · exact h value slice pins s σ H x y v u Q I rx ry q hs
  · exact h' value slice pins s σ H x y v u Q I rx ry q hs
abbrev RC := List V → Hp → VK → Prop
def orC (r r' : RC) : RC := fun xs H Q => r xs H Q ∨ r' xs H Q
theorem orC_call {X : Cx} {f : Value} {r r' : RC} (h : CallR X f r) (h' : CallR X f r') : CallR X f (orC r r') := by
  intro pins s σ H xs us Q I rx q
  rcases q with q | q
  · exact h pins s σ H xs us Q I rx q
  · exact h' pins s σ H xs us Q I rx q
abbrev RS := V → Option Int → Option Int → Hp → VK → Prop
def orS (r r' : RS) : RS := fun x lo hi H Q => r x lo hi H Q ∨ r' x lo hi H Q
theorem orS_sl {X : Cx} {r r' : RS} (h : SlR X r) (h' : SlR X r') : SlR X (orS r r') := by
  intro pins s σ H x v vl vu lo hi sl Q I rx hs pl pu q
  rcases q with q | q
  · exact h pins s σ H x v vl vu lo hi sl Q I rx hs pl pu q
  · exact h' pins s σ H x v vl vu lo hi sl Q I rx hs pl pu q

/-! ### + - * // % ** -/
def rAddI : R2 := rI0 fun i j => .int (i + j)
def rAddT : R2 := fun x y H Q => ∃ i j, x = .str i ∧ y = .str j ∧ i.length + j.length ≤ sizeLine ∧ Q (.str (i ++ j)) H
def addP (K : PySem.W.Frag) : R2 := or2 rAddI (or2 rAddT (or2 rCat (rCatA K)))
theorem op_addP {X : Cx} : OpR X (binaryOp .Add) (addP X.K) := or2_op op_add (or2_op op_add_str (or2_op op_cat op_catA))
def subP : R2 := rI0 fun i j => .int (i - j)
theorem op_subP {X : Cx} : OpR X (binaryOp .Sub) subP := op_sub
/-- a text so many times -/
def rRepS : R2 := fun x y H Q => ∃ (l : List Nat) (n : Nat), x = S l ∧ y = .int (n : Int) ∧ l.length * n ≤ 100000 ∧ n ≤ 100000 ∧ Q (S (List.replicate n l).flatten) H
theorem foldl_app (l : List Nat) : ∀ (n : Nat) (acc : List Nat), (List.replicate n l.toArray).foldl (· ++ ·) acc.toArray = (acc ++ (List.replicate n l).flatten).toArray
  | 0, acc => by simp
  | n + 1, acc => by
    rw [List.replicate_succ, List.foldl_cons, List.append_toArray, foldl_app l n (acc ++ l), List.replicate_succ, List.flatten_cons, List.append_assoc]
theorem op_repS {X : Cx} : OpR X (binaryOp .Mult) rRepS := by
  intro pins s σ H x y v u Q I rx ry h
  obtain ⟨l, n, rfl, rfl, hz, hn, q⟩ := h
  obtain ⟨t, rfl⟩ := rx
  obtain ⟨t', rfl⟩ := ry
  have hl := str_len l
  have hs : sizeLine = 16777216 := sizeLine_eq
  refine PySem.P.mul_str ?_ (fun h1 h2 => ?_) (fun h1 h2 => ?_) ?_
  · rw [decide_eq_false (by omega), decide_eq_false (by omega)]; rfl
  · rw [hl]
    have hn0 : (0 : Int) < (n : Int) := by omega
    have : ((l.length : Int)) ≤ (2 ^ 63 - 1) / (n : Int) := by
      rw [Int.le_ediv_iff_mul_le hn0]
      have : ((l.length * n : Nat) : Int) ≤ 100000 := by omega
      rw [Int.natCast_mul] at this
      omega
    omega
  · rw [hl, Int.toNat_natCast]
    unfold PySem.Builtin.Str.tooLong
    rw [decide_eq_false]
    omega
  · by_cases h1 : (n : Int) < 1
    · rw [if_pos h1]
      have e : n = 0 := by omega
      subst e
      exact ⟨by decide, S [], H, I.tok _, ⟨_, rfl⟩, by simpa using q⟩
    · rw [if_neg h1]
      by_cases h2 : ((n : Int) == 1 || (⟨l.toArray⟩ : Str).length == 0) = true
      · rw [if_pos h2]
        have e : (List.replicate n l).flatten = l := by
          rw [hl, Bool.or_eq_true, beq_iff_eq, beq_iff_eq] at h2
          rcases h2 with h2 | h2
          · have e : n = 1 := by omega
            subst e; simp
          · have e : l = [] := List.length_eq_zero_iff.mp h2
            subst e; simp
        rw [e] at q
        exact ⟨S l, H, I, ⟨_, rfl⟩, q⟩
      · rw [if_neg h2]
        have e : (⟨(List.replicate ((n : Int)).toNat l.toArray).foldl (· ++ ·) #[]⟩ : Str) = ⟨((List.replicate n l).flatten).toArray⟩ := by
          rw [Int.toNat_natCast]
          have := foldl_app l n []
          simpa using this
        refine ⟨?_, S (List.replicate n l).flatten, H, I.tok _, ⟨_, by rw [e]⟩, q⟩
        rw [e, str_len]
        simp only [List.length_flatten, List.map_replicate, List.sum_replicate_nat]
        rw [Nat.mul_comm]
        omega
def rMulI : R2 := rI (fun i j => IntMulOk i j) fun i j => .int (i * j)
theorem op_mulI {X : Cx} : OpR X (binaryOp .Mult) rMulI := opI fun _ _ _ _ _ _ _ hc q => mul_int q hc
def mulP : R2 := or2 rMulI (or2 rRepS rRep)
theorem op_mulP {X : Cx} : OpR X (binaryOp .Mult) mulP := or2_op op_mulI (or2_op op_repS op_rep)
def modP : R2 := rI (fun _ j => 0 < j) fun i j => .int (i % j)
theorem op_modP {X : Cx} : OpR X (binaryOp .Mod) modP := op_mod
def fdivP : R2 := rI CDivW fun i j => .int (i / j)
theorem op_fdivP {X : Cx} : OpR X (binaryOp .FloorDiv) fdivP := op_fdivW
/-- i ** j, the result below some hundred million bits -/
def powP : R2 := rI (fun i j => 0 ≤ j ∧ (Builtin.Int.intBits i : Int) * j ≤ 2 ^ 27) fun i j => .int (i ^ j.toNat)
theorem op_powP {X : Cx} : OpR X (binaryOp .Pow) powP := opI fun _ _ _ _ _ _ _ hc q => pow_int hc.1 hc.2 q
/-! ### comparisons -/
def eqP (K : PySem.W.Frag) : R2 := or2 rEq (rEqD K)
theorem op_eqP {X : Cx} (hu : X.A.units + 64 < cLine) : OpR X (compareOp .Eq) (eqP X.K) := or2_op op_eq (op_eqD hu)
def neP (K : PySem.W.Frag) : R2 := or2 rNe (rNeD K)
theorem op_neP {X : Cx} (hu : X.A.units + 64 < cLine) : OpR X (compareOp .NotEq) (neP X.K) := or2_op op_ne (op_neD hu)
def ltP : R2 := or2 (rI0 fun i j => .bl (decide (i < j))) fun x y H Q => ∃ i j, x = .str i ∧ y = .str j ∧ Q (.bl (decide (i.cps.toList < j.cps.toList))) H
theorem op_ltP {X : Cx} : OpR X (compareOp .Lt) ltP := or2_op op_lt op_lt_str
def leP : R2 := rI0 fun i j => .bl (decide (i ≤ j))
theorem op_leP {X : Cx} : OpR X (compareOp .LtE) leP := op_le
def gtP : R2 := rI0 fun i j => .bl (decide (j < i))
theorem op_gtP {X : Cx} : OpR X (compareOp .Gt) gtP := op_gt
def geP : R2 := rI0 fun i j => .bl (decide (j ≤ i))
theorem op_geP {X : Cx} : OpR X (compareOp .GtE) geP := op_ge
def isP : R2 := fun x y H Q => y = .non ∧ Q (.bl (decide (x = .non))) H
theorem op_isP {X : Cx} : OpR X (compareOp .Is) isP := op_isN
def isNotP : R2 := fun x y H Q => y = .non ∧ Q (.bl (!decide (x = .non))) H
theorem op_isNotP {X : Cx} : OpR X (compareOp .IsNot) isNotP := op_notN
def rInSg : R2 := fun x y H Q => ∃ (c : Nat) (z : Str), x = .str ⟨#[c]⟩ ∧ y = .str z ∧ Q (.bl (decide (c ∈ z.cps.toList))) H
def rNotInSg : R2 := fun x y H Q => ∃ (c : Nat) (z : Str), x = .str ⟨#[c]⟩ ∧ y = .str z ∧ Q (.bl (!decide (c ∈ z.cps.toList))) H
def inP (K : PySem.W.Frag) : R2 := or2 rInSg (rIn K false)
theorem op_inP {X : Cx} : OpR X (compareOp .In) (inP X.K) := or2_op op_in_sign op_in_seq
def notInP (K : PySem.W.Frag) : R2 := or2 rNotInSg (rIn K true)
theorem op_notInP {X : Cx} : OpR X (compareOp .NotIn) (notInP X.K) := or2_op op_notIn_sign op_notIn_seq
/-! ### subscripts, slices -/
def ixP (K : PySem.W.Frag) : R2 := or2 (rIxL K) (or2 (rIxT K) rIxS)
theorem ix_P {X : Cx} : IxR X (ixP X.K) := or2_ix ix_list (or2_ix ix_tup ix_str)
def slP (K : PySem.W.Frag) : RS := orS (rSlL K) (orS (rSlA K) rSlS)
theorem sl_P {X : Cx} : SlR X (slP X.K) := orS_sl sl_list (orS_sl sl_tupA sl_str)
/-! ### what is walked -/
def iAny (K : PySem.W.Frag) (te : TE) : TI := fun σ H R => te σ H fun x H1 => (∃ a xs, x = .ref a ∧ SqL K H1 a xs ∧ R (Itl K a) H1) ∨ (∃ a xs, x = .ref a ∧ SqT K H1 a xs ∧ R (Itt K a) H1) ∨ (∃ z, x = .str z ∧ R (Its z) H1)
section
variable {X : Cx} {tg e : Expr} {te : TE}
theorem pi_any (he : PE X e te) : PI X tg e (iAny X.K te) := by
  refine ⟨fun pins s σ H R I h => thn (he.run pins s σ H _ I h) fun v s1 ⟨x, H1, J, r1, q1⟩ => ?_⟩
  rcases q1 with ⟨a, xs, rfl, hq, q⟩ | ⟨a, xs, rfl, hq, q⟩ | ⟨z, rfl, q⟩
  · cases r1
    obtain ⟨its, rv, pl, hz⟩ := J.list hq
    exact wpAny_pyIter_list pl.isList (pi_one (tk := s1.toks) J _ (turn_list a _) ⟨_, Heap.get?_push_size _ rfl, rfl, rfl⟩ q)
  · cases r1
    obtain ⟨its, rv, pl, hz⟩ := J.tuple hq
    exact wpAny_pyIter_tuple (show s1.heap.IsTuple a its.toArray from pl) (pi_one (tk := s1.toks) J _ (turn_tuple a _) ⟨_, Heap.get?_push_size _ rfl, rfl, rfl⟩ q)
  · obtain ⟨t, rfl⟩ := r1
    cases hw : z.cps.all (· < 128)
    · exact wpAny_pyIter_wide hw (pi_one (tk := s1.toks) J _ (turn_str _ z t "str_iterator" (.inr rfl)) ⟨_, Heap.get?_push_size _ rfl, rfl, rfl⟩ q)
    · exact wpAny_pyIter_ascii hw (pi_one (tk := s1.toks) J _ (turn_str _ z t "str_ascii_iterator" (.inl rfl)) ⟨_, Heap.get?_push_size _ rfl, rfl, rfl⟩ q)
end
/-! ### enumerate(a text) -/
/-- the signs of z, each in a new pair with its place -/
def Ites (z : Str) : It :=
  ⟨fun i _ => i < z.cps.size, fun i H v H' => ∃ T c, v = .ref T ∧ H T = none ∧ H' = upd H T (.tup [.int (i : Nat), .str ⟨#[c]⟩]) ∧ z.cps[i]? = some c, fun i _ => i = z.cps.size⟩
theorem turn_enumS {P : Program} {w : World} {K : PySem.W.Frag} {elts : List Expr} {kk : Nat} {tpos : Pos} (z : Str) (t : Tok) (e it : Addr) :
    Turn P w K (.Tuple elts kk tpos) (Ites z) [e, it] e (fun i h => (∃ old, IsEnum h e it ((i : Nat) : Int) old) ∧ h.IsStrIter it (strIterType z) z t i ∧ e ≠ it) where
  mem := List.mem_cons_self ..
  obj := fun i h st b hb => by
    obtain ⟨⟨old, hE⟩, ⟨o, hO, hC, hD⟩, _⟩ := st
    rcases List.mem_cons.mp hb with rfl | hb
    · exact ⟨_, hE, fun v q => nomatch q⟩
    · rw [List.mem_singleton.mp hb]
      exact ⟨o, hO, fun v q => by rw [hD] at q; cases q⟩
  keep := fun i h h' st k => by
    obtain ⟨⟨old, hE⟩, ⟨o, hO, r⟩, hne⟩ := st
    exact ⟨⟨old, k e (by simp) _ hE⟩, ⟨o, k it (by simp) _ hO, r⟩, hne⟩
  item := by
    intro X hP hW hK hc i pins s σ H E I hf st hg
    subst hP hW hK
    obtain ⟨⟨old, hE⟩, hS, hne⟩ := st
    have le : e < s.heap.objs.size := Heap.lt_size hE
    have li : it < s.heap.objs.size := by obtain ⟨_, q, _⟩ := hS; exact Heap.lt_size q
    have D := Draws.text (prog := X.prog) (w := X.w) (A := X.A.in1) (I.ok.hd hc) it z t
    refine wpAny_pyNext_enum_itemC D hE hS hg hne (by simp [hne]) fun x h' tk hx hO hS' hT hsz hk => ?_
    obtain ⟨c, u, hcx, rfl⟩ := hx
    refine ⟨_, rfl, wpAny_letOwnedTupleGo_enum (s := { s with heap := h', toks := tk + 1 }) hO fun h2 hE2 sb => ?_⟩
    have T2 : h2.get? s.heap.objs.size = some { cls := .type "tuple", data := .seq #[.int i tk, .str ⟨#[c]⟩ u] } := (sb.2 _ (Nat.ne_of_gt le)).trans hT
    have new : ObjOk X.prog X.w (upd H s.heap.objs.size (.tup [.int (i : Nat), .str ⟨#[c]⟩])) h2 s.heap.objs.size (.tup [.int (i : Nat), .str ⟨#[c]⟩]) :=
      ⟨by show 2 ≤ sizeLine; decide, [.int i tk, .str ⟨#[c]⟩ u], .cons ⟨_, rfl⟩ (.cons ⟨_, rfl⟩ .nil), ⟨_, T2, rfl, _, rfl⟩⟩
    have J : Inv X pins σ (upd H s.heap.objs.size (.tup [.int (i : Nat), .str ⟨#[c]⟩])) { s with heap := h2, toks := tk + 1 } :=
      I.turnedNew (ch := [e, it]) (fun b ob hb q => (sb.2 b (fun y => hb (by simp [y]))).trans (hk b ob (fun y => hb (by simp [y])) (fun y => hb (by simp [y])) q)) hf (Nat.le_refl _) new
    refine ⟨.ref s.heap.objs.size, _, J, rfl, ⟨_, c, rfl, I.hok.fresh (Nat.le_refl _), rfl, hcx⟩, ⟨⟨.str ⟨#[c]⟩ u, ?_⟩, ?_, hne⟩, fun b hb => ?_⟩
    · have e1 : ((i + 1 : Nat) : Int) = (i : Int) + 1 := by omega
      rw [e1]
      exact hE2
    · obtain ⟨o, ho, r⟩ := hS'
      exact ⟨o, (sb.2 it (Ne.symm hne)).trans ho, r⟩
    · have lb : b < s.heap.objs.size := by
        rcases List.mem_cons.mp hb with rfl | hb
        · exact le
        · rw [List.mem_singleton.mp hb]; exact li
      rw [upd_ne (Nat.ne_of_lt lb)]
      exact (hf b hb).1
  done := by
    intro X hP hW hK hc i pins s σ H E I hf st hg
    subst hP hW hK
    obtain ⟨⟨old, hE⟩, hS, hne⟩ := st
    obtain ⟨f0, f1, f2, f3, f4, f5⟩ := hf it (by simp)
    have D := Draws.text (prog := X.prog) (w := X.w) (A := X.A.in1) (I.ok.hd hc) it z t
    have hg' : i = z.cps.size := hg
    subst hg'
    exact wpAny_pyNext_enum_endD D hE hS fun h' eb => ⟨rfl, I.turned (t' := s.toks) (fun b o hb q => eb b o hb q) f0 f1 f3 f4 f5⟩
  self := fun A i s Q E st h => by
    obtain ⟨⟨_, hE⟩, _⟩ := st
    exact wpAny_pyIter_enum hE h
def iEnumP (K : PySem.W.Frag) (ta : TA) : TI := fun σ H R => ta σ H fun vs H1 => (∃ a xs, vs = [.ref a] ∧ SqL K H1 a xs ∧ R (Ite K a) H1) ∨ (∃ z, vs = [.str z] ∧ R (Ites z) H1)
theorem pi_enumP {X : Cx} {e : Expr} {ta : TA} {p pos tpos : Pos} {elts : List Expr} {kk : Nat} (hg : Gl X "enumerate") (hm : X.mg "enumerate" = none) (ha : PA X [e] ta) (hs : starEach [e] X.env = [(false, eval e X.env)] := by rfl) :
    PI X (.Tuple elts kk tpos) (.Call (.Name "enumerate" p) [e] [] pos) (iEnumP X.K ta) := by
  refine ⟨fun pins s σ H R I h => Call_ (ld_blt I hg hm boot_enumerate (PyProof.Rows.callWith_type1 (thn (ha.run pos pins s σ H _ I h) fun us s1 ⟨vs, H1, J, r1, q1⟩ => ?_) hs rfl))⟩
  have far : ∀ b ∈ [s1.heap.objs.size + 1, s1.heap.objs.size], s1.heap.objs.size ≤ b := fun b hb => by
    rcases List.mem_cons.mp hb with rfl | hb
    · exact Nat.le_succ _
    · rw [List.mem_singleton.mp hb]; exact Nat.le_refl _
  rcases q1 with ⟨a, xs, rfl, hq, q⟩ | ⟨z, rfl, q⟩
  · cases r1 with
    | cons r rr =>
      cases rr
      cases r
      obtain ⟨its, rv, pl, hz⟩ := J.list hq
      refine call_enumerate_list pl.isList fun h' hE hit hsz hk => wpAny_pyIter_enum hE ?_
      have J2 : Inv X pins σ H1 { s1 with heap := h' } := J.kept (t' := s1.toks) hk
      exact ⟨_, _, _, _, H1, rfl, J2, turn_enum a (s1.heap.objs.size + 1) s1.heap.objs.size, ⟨⟨.none, hE⟩, hit, Nat.succ_ne_self _⟩, fun b hb => J.fpOk (far b hb) (J.hok.fresh (far b hb)), q⟩
  · cases r1 with
    | cons r rr =>
      cases rr
      obtain ⟨t, rfl⟩ := r
      refine call_enumerate_str fun h' hE hit hsz hk => wpAny_pyIter_enum hE ?_
      have J2 : Inv X pins σ H1 { s1 with heap := h' } := J.kept (t' := s1.toks) hk
      exact ⟨_, _, _, _, H1, rfl, J2, turn_enumS z t (s1.heap.objs.size + 1) s1.heap.objs.size, ⟨⟨.none, hE⟩, hit, Nat.succ_ne_self _⟩, fun b hb => J.fpOk (far b hb) (J.hok.fresh (far b hb)), q⟩
end Fg
/-! Steps: what a reading asks, one sign of Python at a time. -/
namespace Fg
open PySem PySem.Spec PyProof.Rows L2
section
variable {K : PySem.W.Frag} {σ : L2.St} {H : Hp} {Q : VK} {D : Ends} {ta tb tc te : TE} {t u : TT} {i j : Nat} {v x y : V} {tr tq : TS} {QB : Bool → Hp → Prop} {QL : List V → Hp → Prop} {Qs : L2.St → Hp → Prop} {tl : TA}
theorem i_var (h : σ[i]? = some (some v)) (q : Q v H) : tVar i σ H Q := ⟨v, h, q⟩
theorem i_c (q : Q v H) : tC v σ H Q := q
theorem i_seq (q : tr { D with nx := tq D } σ H) : tSeq tr tq D σ H := q
theorem i_next (q : D.nx σ H) : tNext D σ H := q
theorem i_brk (q : D.bk σ H) : tBreak D σ H := q
theorem i_cont (q : D.ct σ H) : tCont D σ H := q
theorem i_asg {g : TG} (q : te σ H fun x H1 => g x σ H1 D.nx) : tAsg te g D σ H := q
theorem i_gname (q : Qs (σ.set i (some v)) H) : gName i v σ H Qs := q
theorem i_gname' {σ' : L2.St} (e : σ.set i (some v) = σ') (q : Qs σ' H) : gName i v σ H Qs := by
  subst e; exact q
theorem i_ret (q : te σ H D.rt) : tRet te D σ H := q
theorem i_retN (q : D.rt .non H) : tRetN D σ H := q
theorem i_drop (q : te σ H fun _ H1 => D.nx σ H1) : tDrop te D σ H := q
theorem i_ifS (q : t σ H fun b H1 => if b = true then tr D σ H1 else tq D σ H1) : tIfS t tr tq D σ H := q
theorem i_test (q : te σ H fun x H' => ∃ k, x = .bl k ∧ QB k H') : tTest te σ H QB := q
theorem i_B (q : te σ H fun x H' => ∃ k, x = .bl k ∧ QB k H') : tB te σ H QB := q
theorem i_exbl {P : Bool → Prop} {b : Bool} (q : P b) : ∃ k, V.bl b = .bl k ∧ P k := ⟨b, rfl, q⟩
theorem i_and (q : t σ H fun c H1 => if c = true then u σ H1 QB else QB false H1) : tAnd t u σ H QB := q
theorem i_or (q : t σ H fun c H1 => if c = true then QB true H1 else u σ H1 QB) : tOr t u σ H QB := q
theorem i_not (q : t σ H fun c H1 => QB (!c) H1) : tNot t σ H QB := q
theorem i_andV (q : ta σ H fun x H1 => ∃ c, x = .bl c ∧ if c = true then tb σ H1 Q else Q (.bl false) H1) : tAndV ta tb σ H Q := q
theorem i_orV (q : ta σ H fun x H1 => ∃ c, x = .bl c ∧ if c = true then Q (.bl true) H1 else tb σ H1 Q) : tOrV ta tb σ H Q := q
theorem i_notV (q : ta σ H fun x H1 => ∃ c, x = .bl c ∧ Q (.bl (!c)) H1) : tNotV ta σ H Q := q
theorem i_ifE (q : t σ H fun c H1 => if c = true then ta σ H1 Q else tb σ H1 Q) : tIf t ta tb σ H Q := q
theorem i_op {r : R2} (q : ta σ H fun x H1 => tb σ H1 fun y H2 => r x y H2 Q) : tOp r ta tb σ H Q := q
theorem i_un {r : V → Hp → VK → Prop} (q : ta σ H fun x H1 => r x H1 Q) : tUn r ta σ H Q := q
theorem i_neg {k : Int} (q : Q (.int (-k)) H) : rU (fun i => .int (-i)) (.int k) H Q := ⟨k, rfl, q⟩
theorem i_chain {r r' : R2} (q : ta σ H fun x H1 => tb σ H1 fun y H2 => r x y H2 fun z H3 => ∃ k, z = .bl k ∧ (if k = true then tc σ H3 fun w' H4 => r' y w' H4 Q else Q (.bl false) H3)) : tChain r r' ta tb tc σ H Q := q
theorem i_nil (q : QL [] H) : tNil σ H QL := q
theorem i_cons (q : te σ H fun x H1 => tl σ H1 fun xs H2 => QL (x :: xs) H2) : tCons te tl σ H QL := q
theorem i_call {sp : Sp} {E : XK} (q : tl σ H fun vs H1 => sp (vs ++ []) H1 Q E) : tCall sp [] E tl σ H Q := q
theorem i_callS {sp : Sp} {E : L2.St → XK} (q : tl σ H fun vs H1 => sp vs H1 Q (E σ)) : tCallS sp E tl σ H Q := q
theorem i_cb {r : RC} (q : tl σ H fun vs H1 => r vs H1 Q) : tCB r tl σ H Q := q
theorem i_tup (q : tl σ H fun xs H1 => xs.length ≤ sizeLine ∧ ∀ p, H1 p = none → Q (.ref p) (upd H1 p (.tup xs))) : tTup tl σ H Q := q
theorem i_lst (q : tl σ H fun xs H1 => xs.length ≤ sizeLine ∧ ∀ p, H1 p = none → Q (.ref p) (upd H1 p (.lst xs))) : tLst tl σ H Q := q
theorem i_new {n : Nat} {P : Addr → Prop} (h : n ≤ 100000) (q : ∀ p, H p = none → P p) : n ≤ sizeLine ∧ ∀ p, H p = none → P p := ⟨Nat.le_trans h (by decide), q⟩
theorem i_sl {r : RS} {t1 t2 : TO} (q : te σ H fun x H1 => t1 σ H1 fun l H2 => t2 σ H2 fun u H3 => r x l u H3 Q) : tSl r te t1 t2 σ H Q := q
theorem i_nopart {QO : Option Int → Hp → Prop} (q : QO none H) : tNoPart σ H QO := q
theorem i_part {QO : Option Int → Hp → Prop} (q : te σ H fun x H1 => ∃ i, x = .int i ∧ QO (some i) H1) : tPart te σ H QO := q
theorem i_exint {P : Int → Prop} {k : Int} (q : P k) : ∃ i, V.int k = .int i ∧ P i := ⟨k, rfl, q⟩
theorem i_dec {c : Prop} [Decidable c] {A B : Prop} (h1 : c → A) (h2 : ¬ c → B) : if decide c = true then A else B := by
  by_cases h : c
  · rw [decide_eq_true h, if_pos rfl]; exact h1 h
  · rw [decide_eq_false h, if_neg (by decide)]; exact h2 h
theorem i_decN {c : Prop} [Decidable c] {A B : Prop} (h1 : ¬ c → A) (h2 : c → B) : if (!decide c) = true then A else B := by
  by_cases h : c
  · rw [decide_eq_true h]; exact h2 h
  · rw [decide_eq_false h]; exact h1 h
theorem i_bool {b : Bool} {A B : Prop} (h1 : b = true → A) (h2 : b = false → B) : if b = true then A else B := by
  cases b with
  | true => exact h1 rfl
  | false => exact h2 rfl
theorem i_tt {A B : Prop} (h : A) : if true = true then A else B := h
theorem i_ff {A B : Prop} (h : B) : if false = true then A else B := h
theorem i_nott {A B : Prop} (h : B) : if (!true) = true then A else B := h
theorem i_notf {A B : Prop} (h : A) : if (!false) = true then A else B := h
/-! values -/
variable {a b : Int} {l m : List Nat}
theorem i_add_int (q : Q (.int (a + b)) H) : addP K (.int a) (.int b) H Q := .inl ⟨a, b, rfl, rfl, q⟩
theorem i_add_str (h : l.length + m.length ≤ 100000) (q : Q (S (l ++ m)) H) : addP K (S l) (S m) H Q := by
  refine .inr (.inl ⟨⟨l.toArray⟩, ⟨m.toArray⟩, rfl, rfl, ?_, ?_⟩)
  · rw [str_len, str_len]; exact Nat.le_trans h (by decide)
  · have e : (⟨l.toArray⟩ : Str) ++ ⟨m.toArray⟩ = ⟨(l ++ m).toArray⟩ := by
      show (⟨l.toArray ++ m.toArray⟩ : Str) = _
      rw [List.append_toArray]
    rw [e]; exact q
theorem i_sub (q : Q (.int (a - b)) H) : subP (.int a) (.int b) H Q := ⟨a, b, rfl, rfl, q⟩
theorem i_mul_int (h : IntMulOk a b) (q : Q (.int (a * b)) H) : mulP (.int a) (.int b) H Q := .inl ⟨a, b, rfl, rfl, h, q⟩
theorem i_mul_str {n : Nat} (h : l.length * n ≤ 100000 ∧ n ≤ 100000) (q : Q (S (List.replicate n l).flatten) H) : mulP (S l) (.int (n : Int)) H Q := .inr (.inl ⟨l, n, rfl, rfl, h.1, h.2, q⟩)
theorem i_mul_strI {k : Int} (h0 : 0 ≤ k) (h : l.length * k.toNat ≤ 100000 ∧ k.toNat ≤ 100000) (q : Q (S (List.replicate k.toNat l).flatten) H) : mulP (S l) (.int k) H Q := by
  obtain ⟨n, rfl⟩ : ∃ n : Nat, k = (n : Int) := ⟨k.toNat, by omega⟩
  rw [Int.toNat_natCast] at h q
  exact i_mul_str h q
theorem cdiv_small {a b : Int} (h : 0 < b) (h2 : b < 2 ^ 62) : CDivW a b := wide_div (b := 62) h (by omega) (by decide) (by decide)
theorem mul_small {a b : Int} (h : -(2 ^ 64) < a) (h2 : a < 2 ^ 64) : IntMulOk a b := CMul.ok (.inl ⟨h, h2⟩)
theorem mul_smallR {a b : Int} (h : -(2 ^ 64) < b) (h2 : b < 2 ^ 64) : IntMulOk a b := CMul.ok (.inr ⟨h, h2⟩)
theorem i_mod (h : 0 < b) (q : Q (.int (a % b)) H) : modP (.int a) (.int b) H Q := ⟨a, b, rfl, rfl, h, q⟩
theorem i_fdiv (h : CDivW a b) (q : Q (.int (a / b)) H) : fdivP (.int a) (.int b) H Q := ⟨a, b, rfl, rfl, h, q⟩
theorem i_pow (h : 0 ≤ b ∧ (Builtin.Int.intBits a : Int) * b ≤ 2 ^ 27) (q : Q (.int (a ^ b.toNat)) H) : powP (.int a) (.int b) H Q := ⟨a, b, rfl, rfl, h, q⟩
theorem i_eq_int (q : Q (.bl (decide (a = b))) H) : eqP K (.int a) (.int b) H Q := .inl ⟨rfl, by rw [dec_int, Bool.beq_eq_decide_eq]; exact q⟩
theorem i_eq_str (q : Q (.bl (decide (l = m))) H) : eqP K (S l) (S m) H Q := .inl ⟨rfl, by rw [S_dec]; exact q⟩
theorem i_ne_int (q : Q (.bl (!decide (a = b))) H) : neP K (.int a) (.int b) H Q := .inl ⟨rfl, by rw [dec_int, Bool.beq_eq_decide_eq]; exact q⟩
theorem i_ne_str (q : Q (.bl (!decide (l = m))) H) : neP K (S l) (S m) H Q := .inl ⟨rfl, by rw [S_dec]; exact q⟩
theorem i_eq_bl {b c : Bool} (q : Q (.bl (decide (b = c))) H) : eqP K (.bl b) (.bl c) H Q := .inl ⟨rfl, by rw [dec_bl, Bool.beq_eq_decide_eq]; exact q⟩
theorem i_ne_bl {b c : Bool} (q : Q (.bl (!decide (b = c))) H) : neP K (.bl b) (.bl c) H Q := .inl ⟨rfl, by rw [dec_bl, Bool.beq_eq_decide_eq]; exact q⟩
theorem i_lt (q : Q (.bl (decide (a < b))) H) : ltP (.int a) (.int b) H Q := .inl ⟨a, b, rfl, rfl, q⟩
theorem i_lt_str (q : Q (.bl (decide (l < m))) H) : ltP (S l) (S m) H Q := .inr ⟨_, _, rfl, rfl, by simpa using q⟩
theorem i_le (q : Q (.bl (decide (a ≤ b))) H) : leP (.int a) (.int b) H Q := ⟨a, b, rfl, rfl, q⟩
theorem i_gt (q : Q (.bl (decide (b < a))) H) : gtP (.int a) (.int b) H Q := ⟨a, b, rfl, rfl, q⟩
theorem i_ge (q : Q (.bl (decide (b ≤ a))) H) : geP (.int a) (.int b) H Q := ⟨a, b, rfl, rfl, q⟩
theorem i_is_non (q : Q (.bl true) H) : isP .non .non H Q := ⟨rfl, q⟩
theorem i_is_int (q : Q (.bl false) H) : isP (.int a) .non H Q := ⟨rfl, q⟩
theorem i_is_str (q : Q (.bl false) H) : isP (S l) .non H Q := ⟨rfl, q⟩
theorem i_is_ref {p : Addr} (q : Q (.bl false) H) : isP (.ref p) .non H Q := ⟨rfl, q⟩
theorem i_isn_non (q : Q (.bl false) H) : isNotP .non .non H Q := ⟨rfl, q⟩
theorem i_isn_int (q : Q (.bl true) H) : isNotP (.int a) .non H Q := ⟨rfl, q⟩
theorem i_isn_str (q : Q (.bl true) H) : isNotP (S l) .non H Q := ⟨rfl, q⟩
theorem i_isn_ref {p : Addr} (q : Q (.bl true) H) : isNotP (.ref p) .non H Q := ⟨rfl, q⟩
theorem i_in_sg {c : Nat} (q : Q (.bl (decide (c ∈ m))) H) : inP K (S [c]) (S m) H Q := .inl ⟨c, ⟨m.toArray⟩, rfl, rfl, by simpa using q⟩
theorem i_notIn_sg {c : Nat} (q : Q (.bl (!decide (c ∈ m))) H) : notInP K (S [c]) (S m) H Q := .inl ⟨c, ⟨m.toArray⟩, rfl, rfl, by simpa using q⟩
/-! subscripts -/
theorem atI_int {xs : List V} {z : Int} {v : V} (h0 : 0 ≤ z) (h : xs[z.toNat]? = some v) : atI xs z = some v := at_of (j := z.toNat) (by omega) h
theorem i_ix_lst {p : Addr} {xs : List V} {z : Int} {v : V} (hs : SqL K H p xs) (ha : atI xs z = some v) (q : Q v H) : ixP K (.ref p) (.int z) H Q := .inl ⟨p, xs, z, v, rfl, rfl, hs, ha, q⟩
theorem i_ix_tup {p : Addr} {xs : List V} {z : Int} {v : V} (hs : SqT K H p xs) (ha : atI xs z = some v) (q : Q v H) : ixP K (.ref p) (.int z) H Q := .inr (.inl ⟨p, xs, z, v, rfl, rfl, hs, ha, q⟩)
theorem i_ix_str {z : Int} {c : Nat} (hs : l.length ≤ 100000) (h0 : 0 ≤ z) (ha : l[z.toNat]? = some c) (q : Q (S [c]) H) : ixP K (S l) (.int z) H Q := by
  refine .inr (.inr ⟨⟨l.toArray⟩, z, c, rfl, rfl, ?_, ?_, q⟩)
  · rw [str_len]; exact Nat.le_trans hs (by decide)
  · have e : z = ((z.toNat : Nat) : Int) := by omega
    rw [e]
    exact atI_nat (by simpa using ha)
/-! slices -/
def cutN (l : List Nat) (lo hi : Option Int) : List Nat := (l.drop (HT.sIx l.length 0 lo)).take (HT.sIx l.length l.length hi - HT.sIx l.length 0 lo)
theorem i_sl_str {lo hi : Option Int} (hs : l.length ≤ 100000) (q : Q (S (cutN l lo hi)) H) : slP K (S l) lo hi H Q := by
  refine .inr (.inr ⟨⟨l.toArray⟩, rfl, ?_, ?_⟩)
  · rw [str_len]; exact Nat.le_trans hs (by decide)
  · have e : cutS ⟨l.toArray⟩ lo hi = ⟨(cutN l lo hi).toArray⟩ := by
      unfold cutS cutN
      rw [str_len]
    rw [e]; exact q
theorem cutN_to {l : List Nat} {k : Int} (h : 0 ≤ k) : cutN l none (some k) = l.take k.toNat := by
  unfold cutN
  have e : k = ((k.toNat : Nat) : Int) := by omega
  rw [e, HT.sIx_nat, HT.sIx_none, Nat.sub_zero, List.drop_zero, Int.toNat_natCast]
  by_cases hk : k.toNat ≤ l.length
  · rw [Nat.min_eq_left hk]
  · rw [Nat.min_eq_right (by omega), List.take_length, List.take_of_length_le (by omega)]
theorem cutN_from {l : List Nat} {k : Int} (h : 0 ≤ k) : cutN l (some k) none = l.drop k.toNat := by
  unfold cutN
  have e : k = ((k.toNat : Nat) : Int) := by omega
  rw [e, HT.sIx_nat, HT.sIx_none, Int.toNat_natCast]
  by_cases hk : k.toNat ≤ l.length
  · rw [Nat.min_eq_left hk]
    exact List.take_of_length_le (by rw [List.length_drop]; omega)
  · rw [Nat.min_eq_right (by omega), Nat.sub_self, List.take_zero, List.drop_of_length_le (by omega)]
theorem i_sl_to {k : Int} (hs : l.length ≤ 100000) (h0 : 0 ≤ k) (q : Q (S (l.take k.toNat)) H) : slP K (S l) none (some k) H Q := i_sl_str hs (by rw [cutN_to h0]; exact q)
theorem i_sl_from {k : Int} (hs : l.length ≤ 100000) (h0 : 0 ≤ k) (q : Q (S (l.drop k.toNat)) H) : slP K (S l) (some k) none H Q := i_sl_str hs (by rw [cutN_from h0]; exact q)
/-! calls of what is built in -/
def rLenP (K : PySem.W.Frag) : RC := fun xs H Q => ∃ x n, xs = [x] ∧ LenV K x H n ∧ Q (.int n) H
theorem call_lenP {X : Cx} : CallR X (.builtin "len") (rLenP X.K) := call_len
theorem i_len_str (hs : l.length ≤ 100000) (q : Q (.int (l.length : Int)) H) : rLenP K [S l] H Q := ⟨S l, l.length, rfl, ⟨by rw [str_len]; exact Nat.le_trans hs (by decide), (str_len l).symm⟩, q⟩
theorem i_len_lst {p : Addr} {xs : List V} (hs : SqL K H p xs) (q : Q (.int (xs.length : Int)) H) : rLenP K [.ref p] H Q := ⟨.ref p, xs.length, rfl, .inl ⟨xs, hs, rfl⟩, q⟩
theorem i_len_tup {p : Addr} {xs : List V} (hs : SqT K H p xs) (q : Q (.int (xs.length : Int)) H) : rLenP K [.ref p] H Q := ⟨.ref p, xs.length, rfl, .inr ⟨xs, hs, rfl⟩, q⟩
def rIntP : RC := fun xs H Q => (∃ i, xs = [.int i] ∧ Q (.int i) H) ∨ ∃ k, xs = [.bl k] ∧ Q (.int (if k then 1 else 0)) H
theorem call_intP {X : Cx} : CallR X (.type "int") rIntP := call_int1
theorem i_int_int (q : Q (.int a) H) : rIntP [.int a] H Q := .inl ⟨a, rfl, q⟩
def rAbsP : RC := fun xs H Q => ∃ i, xs = [.int i] ∧ Q (.int (if i < 0 then -i else i)) H
theorem call_absP {X : Cx} : CallR X (.builtin "abs") rAbsP := call_abs
theorem i_abs (q : Q (.int (if a < 0 then -a else a)) H) : rAbsP [.int a] H Q := ⟨a, rfl, q⟩
theorem i_sum {p : Addr} {ns : List Int} (hs : SqL K H p (ns.map V.int)) (q : Q (.int ns.sum) H) : rSum K [.ref p] H Q := ⟨p, ns, rfl, hs, q⟩
def rTupP (K : PySem.W.Frag) : RC := fun xs H Q => ∃ p ys, xs = [.ref p] ∧ ((SqL K H p ys ∧ ∀ l, H l = none → Q (.ref l) (upd H l (.tup ys))) ∨ (SqT K H p ys ∧ Q (.ref p) H))
theorem call_tupP {X : Cx} : CallR X (.type "tuple") (rTupP X.K) := call_tuple_of
theorem i_tuple_lst {p : Addr} {ys : List V} (hs : SqL K H p ys) (q : ∀ l, H l = none → Q (.ref l) (upd H l (.tup ys))) : rTupP K [.ref p] H Q := ⟨p, ys, rfl, .inl ⟨hs, q⟩⟩
theorem i_all {p : Addr} {bs : List Bool} (hs : SqL K H p (bs.map V.bl)) (q : Q (.bl (bs.all id)) H) : rAll K [.ref p] H Q := ⟨p, bs, rfl, hs, q⟩
theorem i_isi_non_int (q : Q (.bl false) H) : rIsi K [.non, .ty "int"] H Q := ⟨_, _, _, _, false, rfl, .ty _, .base .non, kit_ty (by decide +kernel), q⟩
theorem i_isi_non_bool (q : Q (.bl false) H) : rIsi K [.non, .ty "bool"] H Q := ⟨_, _, _, _, false, rfl, .ty _, .base .non, kit_ty (by decide +kernel), q⟩
theorem i_isi_non_str (q : Q (.bl false) H) : rIsi K [.non, .ty "str"] H Q := ⟨_, _, _, _, false, rfl, .ty _, .base .non, kit_ty (by decide +kernel), q⟩
theorem i_isi_non_tuple (q : Q (.bl false) H) : rIsi K [.non, .ty "tuple"] H Q := ⟨_, _, _, _, false, rfl, .ty _, .base .non, kit_ty (by decide +kernel), q⟩
theorem i_isi_non_list (q : Q (.bl false) H) : rIsi K [.non, .ty "list"] H Q := ⟨_, _, _, _, false, rfl, .ty _, .base .non, kit_ty (by decide +kernel), q⟩
theorem i_isi_bl_int {b : Bool} (q : Q (.bl true) H) : rIsi K [(.bl b), .ty "int"] H Q := ⟨_, _, _, _, true, rfl, .ty _, .base (.bl b), kit_ty (by decide +kernel), q⟩
theorem i_isi_bl_bool {b : Bool} (q : Q (.bl true) H) : rIsi K [(.bl b), .ty "bool"] H Q := ⟨_, _, _, _, true, rfl, .ty _, .base (.bl b), kit_ty (by decide +kernel), q⟩
theorem i_isi_bl_str {b : Bool} (q : Q (.bl false) H) : rIsi K [(.bl b), .ty "str"] H Q := ⟨_, _, _, _, false, rfl, .ty _, .base (.bl b), kit_ty (by decide +kernel), q⟩
theorem i_isi_bl_tuple {b : Bool} (q : Q (.bl false) H) : rIsi K [(.bl b), .ty "tuple"] H Q := ⟨_, _, _, _, false, rfl, .ty _, .base (.bl b), kit_ty (by decide +kernel), q⟩
theorem i_isi_bl_list {b : Bool} (q : Q (.bl false) H) : rIsi K [(.bl b), .ty "list"] H Q := ⟨_, _, _, _, false, rfl, .ty _, .base (.bl b), kit_ty (by decide +kernel), q⟩
theorem i_isi_int_int {i : Int} (q : Q (.bl true) H) : rIsi K [(.int i), .ty "int"] H Q := ⟨_, _, _, _, true, rfl, .ty _, .base (.int i), kit_ty (by decide +kernel), q⟩
theorem i_isi_int_bool {i : Int} (q : Q (.bl false) H) : rIsi K [(.int i), .ty "bool"] H Q := ⟨_, _, _, _, false, rfl, .ty _, .base (.int i), kit_ty (by decide +kernel), q⟩
theorem i_isi_int_str {i : Int} (q : Q (.bl false) H) : rIsi K [(.int i), .ty "str"] H Q := ⟨_, _, _, _, false, rfl, .ty _, .base (.int i), kit_ty (by decide +kernel), q⟩
theorem i_isi_int_tuple {i : Int} (q : Q (.bl false) H) : rIsi K [(.int i), .ty "tuple"] H Q := ⟨_, _, _, _, false, rfl, .ty _, .base (.int i), kit_ty (by decide +kernel), q⟩
theorem i_isi_int_list {i : Int} (q : Q (.bl false) H) : rIsi K [(.int i), .ty "list"] H Q := ⟨_, _, _, _, false, rfl, .ty _, .base (.int i), kit_ty (by decide +kernel), q⟩
theorem i_isi_str_int {l : List Nat} (q : Q (.bl false) H) : rIsi K [(S l), .ty "int"] H Q := ⟨_, _, _, _, false, rfl, .ty _, .base (.str _), kit_ty (by decide +kernel), q⟩
theorem i_isi_str_bool {l : List Nat} (q : Q (.bl false) H) : rIsi K [(S l), .ty "bool"] H Q := ⟨_, _, _, _, false, rfl, .ty _, .base (.str _), kit_ty (by decide +kernel), q⟩
theorem i_isi_str_str {l : List Nat} (q : Q (.bl true) H) : rIsi K [(S l), .ty "str"] H Q := ⟨_, _, _, _, true, rfl, .ty _, .base (.str _), kit_ty (by decide +kernel), q⟩
theorem i_isi_str_tuple {l : List Nat} (q : Q (.bl false) H) : rIsi K [(S l), .ty "tuple"] H Q := ⟨_, _, _, _, false, rfl, .ty _, .base (.str _), kit_ty (by decide +kernel), q⟩
theorem i_isi_str_list {l : List Nat} (q : Q (.bl false) H) : rIsi K [(S l), .ty "list"] H Q := ⟨_, _, _, _, false, rfl, .ty _, .base (.str _), kit_ty (by decide +kernel), q⟩
theorem i_isi_tup_int {a : Addr} {xs : List V} (h : H a = some (.tup xs)) (q : Q (.bl false) H) : rIsi K [(.ref a), .ty "int"] H Q := ⟨_, _, _, _, false, rfl, .ty _, .base (.tup h), kit_ty (by decide +kernel), q⟩
theorem i_isi_tup_bool {a : Addr} {xs : List V} (h : H a = some (.tup xs)) (q : Q (.bl false) H) : rIsi K [(.ref a), .ty "bool"] H Q := ⟨_, _, _, _, false, rfl, .ty _, .base (.tup h), kit_ty (by decide +kernel), q⟩
theorem i_isi_tup_str {a : Addr} {xs : List V} (h : H a = some (.tup xs)) (q : Q (.bl false) H) : rIsi K [(.ref a), .ty "str"] H Q := ⟨_, _, _, _, false, rfl, .ty _, .base (.tup h), kit_ty (by decide +kernel), q⟩
theorem i_isi_tup_tuple {a : Addr} {xs : List V} (h : H a = some (.tup xs)) (q : Q (.bl true) H) : rIsi K [(.ref a), .ty "tuple"] H Q := ⟨_, _, _, _, true, rfl, .ty _, .base (.tup h), kit_ty (by decide +kernel), q⟩
theorem i_isi_tup_list {a : Addr} {xs : List V} (h : H a = some (.tup xs)) (q : Q (.bl false) H) : rIsi K [(.ref a), .ty "list"] H Q := ⟨_, _, _, _, false, rfl, .ty _, .base (.tup h), kit_ty (by decide +kernel), q⟩
theorem i_isi_lst_int {a : Addr} {xs : List V} (h : H a = some (.lst xs)) (q : Q (.bl false) H) : rIsi K [(.ref a), .ty "int"] H Q := ⟨_, _, _, _, false, rfl, .ty _, .base (.lst h), kit_ty (by decide +kernel), q⟩
theorem i_isi_lst_bool {a : Addr} {xs : List V} (h : H a = some (.lst xs)) (q : Q (.bl false) H) : rIsi K [(.ref a), .ty "bool"] H Q := ⟨_, _, _, _, false, rfl, .ty _, .base (.lst h), kit_ty (by decide +kernel), q⟩
theorem i_isi_lst_str {a : Addr} {xs : List V} (h : H a = some (.lst xs)) (q : Q (.bl false) H) : rIsi K [(.ref a), .ty "str"] H Q := ⟨_, _, _, _, false, rfl, .ty _, .base (.lst h), kit_ty (by decide +kernel), q⟩
theorem i_isi_lst_tuple {a : Addr} {xs : List V} (h : H a = some (.lst xs)) (q : Q (.bl false) H) : rIsi K [(.ref a), .ty "tuple"] H Q := ⟨_, _, _, _, false, rfl, .ty _, .base (.lst h), kit_ty (by decide +kernel), q⟩
theorem i_isi_lst_list {a : Addr} {xs : List V} (h : H a = some (.lst xs)) (q : Q (.bl true) H) : rIsi K [(.ref a), .ty "list"] H Q := ⟨_, _, _, _, true, rfl, .ty _, .base (.lst h), kit_ty (by decide +kernel), q⟩
/-! text.join -/
def rJoinP (K : PySem.W.Frag) : V → List V → Hp → VK → Prop := fun x xs H Q => ∃ a p, ∃ ys : List Str, x = .str a ∧ xs = [.ref p] ∧ (SqL K H p (ys.map V.str) ∨ SqT K H p (ys.map V.str)) ∧ (ys.map (·.length)).sum + ys.length * a.length ≤ 16777216 ∧ Q (.str (Txt.join a ys)) H
theorem pe_joinP {X : Cx} {to te : TE} {o e : Expr} {apos pos : Pos} (ho : PE X o to) (he : PE X e te) (hs : starEach [e] X.env = [(false, eval e X.env)] := by rfl) (hbase : attributeBase o "join" X.env (eval o X.env) = eval o X.env := by rfl) (hline : (apos.endLine == pos.line) = true := by rfl) :
    PE X (.Call (.Attribute o "join" apos) [e] [] pos) (tM1 (rJoinP X.K) to te) := pe_join ho he hs hbase hline
theorem i_m1c {r : V → List V → Hp → VK → Prop} (q : te σ H fun y H2 => r (S l) [y] H2 Q) : tM1 r (tC (S l)) te σ H Q := ⟨⟨_, rfl⟩, q⟩
end
end Fg
/-! Glue: defs of the text with their promises, calls, own exceptions with one field. -/
namespace Fg
open PySem PySem.Spec PyProof.Rows L2
/-- a def of the text: where it stands, how it is called -/
def DefIn (K : PySem.W.Frag) (mg : Str → Option Value) (x : Str) (st : Stmt) (ps : List Str) : Prop :=
  ∃ (f : Addr) (fd : FuncData), Fun K x x st f fd ∧ mg x = some (.ref f) ∧ Binds K fd ps []
/-- .. and it keeps its promise -/
def OK (P : Program) (w : World) (K : PySem.W.Frag) (mg : Str → Option Value) (base : Heap) (CX : CXT) (k : Nat) (x : Str) (ps : List Str) (sp : Sp) : Prop :=
  ∃ (f : Addr) (fd : FuncData), FnOk P w K mg base CX k f fd ps sp ∧ mg x = some (.ref f) ∧ PySem.W.keepIn K (.ref f) = true ∧ Binds K fd ps []
abbrev P1 := V → Hp → VK → XK → Prop
abbrev P2 := V → V → Hp → VK → XK → Prop
abbrev P3 := V → V → V → Hp → VK → XK → Prop
abbrev P4 := V → V → V → V → Hp → VK → XK → Prop
def sp1 (p : P1) : Sp := fun vs H Q E => ∃ x, vs = [x] ∧ p x H Q E
def sp2 (p : P2) : Sp := fun vs H Q E => ∃ x y, vs = [x, y] ∧ p x y H Q E
def sp3 (p : P3) : Sp := fun vs H Q E => ∃ x y z, vs = [x, y, z] ∧ p x y z H Q E
def sp4 (p : P4) : Sp := fun vs H Q E => ∃ x y z u, vs = [x, y, z, u] ∧ p x y z u H Q E
section
variable {H : Hp} {Q : VK} {E : XK} {x y z u : V} {p1 : P1} {p2 : P2} {p3 : P3} {p4 : P4}
theorem i_sp1 (q : p1 x H Q E) : sp1 p1 ([x] ++ []) H Q E := ⟨x, rfl, q⟩
theorem i_sp2 (q : p2 x y H Q E) : sp2 p2 ([x, y] ++ []) H Q E := ⟨x, y, rfl, q⟩
theorem i_sp3 (q : p3 x y z H Q E) : sp3 p3 ([x, y, z] ++ []) H Q E := ⟨x, y, z, rfl, q⟩
theorem i_sp4 (q : p4 x y z u H Q E) : sp4 p4 ([x, y, z, u] ++ []) H Q E := ⟨x, y, z, u, rfl, q⟩
theorem i_sp1' (q : p1 x H Q E) : sp1 p1 [x] H Q E := ⟨x, rfl, q⟩
theorem i_sp2' (q : p2 x y H Q E) : sp2 p2 [x, y] H Q E := ⟨x, y, rfl, q⟩
theorem i_sp3' (q : p3 x y z H Q E) : sp3 p3 [x, y, z] H Q E := ⟨x, y, z, rfl, q⟩
theorem i_sp4' (q : p4 x y z u H Q E) : sp4 p4 [x, y, z, u] H Q E := ⟨x, y, z, u, rfl, q⟩
end
section
variable {P : Program} {w : World} {K : PySem.W.Frag} {mg : Str → Option Value} {base : Heap} {x : Str} {st : Stmt} {N ps : List Str} {k : Nat} {sp : Sp}
theorem FnOK.mk {f : Addr} {fd : FuncData} (F : Fun K x x st f fd) (S : FnScope N ps (defScope st)) (len : ∀ vs H Q E, sp vs H Q E → vs.length = ps.length)
    (body : ∀ (cdv : Value) (A : Around) (outer : List Env) (s : Shared) (H : Hp) (vs : List V) (Q : VK) (E : XK), Room k (A.deeper (envOfC x (defScope st) s.heap.objs.size f cdv)) → sp vs H Q E →
      ∃ t, PSs (cxOf CX0 P w K mg base N x (defScope st) f cdv A outer s H E).nox (defBody st) t ∧ t { nx := fun _ H' => Q .non H', rt := Q } (start N vs) H) : FnOk P w K mg base CX0 (k + 1) f fd ps sp :=
  F.ok S len fun cdv A outer s H vs Q E hr h => body cdv A outer s H vs Q E hr h
theorem OK.mk (D : DefIn K mg x st ps) (S : FnScope N ps (defScope st)) (len : ∀ vs H Q E, sp vs H Q E → vs.length = ps.length)
    (body : ∀ (f : Addr) (cdv : Value) (A : Around) (outer : List Env) (s : Shared) (H : Hp) (vs : List V) (Q : VK) (E : XK), Room k (A.deeper (envOfC x (defScope st) s.heap.objs.size f cdv)) → sp vs H Q E →
      ∃ t, PSs (cxOf CX0 P w K mg base N x (defScope st) f cdv A outer s H E).nox (defBody st) t ∧ t { nx := fun _ H' => Q .non H', rt := Q } (start N vs) H) : OK P w K mg base CX0 (k + 1) x ps sp := by
  obtain ⟨f, fd, F, hm, hb⟩ := D
  exact ⟨f, fd, F.ok S len fun cdv A outer s H vs Q E hr h => body f cdv A outer s H vs Q E hr h, hm, F.kp, hb⟩
theorem OK.mkX (D : DefIn K mg x st ps) (S : FnScope N ps (defScope st)) (len : ∀ vs H Q E, sp vs H Q E → vs.length = ps.length)
    (body : ∀ (f : Addr) (cdv : Value) (A : Around) (outer : List Env) (s : Shared) (H : Hp) (vs : List V) (Q : VK) (E : XK), Room k (A.deeper (envOfC x (defScope st) s.heap.objs.size f cdv)) → sp vs H Q E →
      ∃ t, PSs (cxOf (L2.CX P w) P w K mg base N x (defScope st) f cdv A outer s H E) (defBody st) t ∧ t { nx := fun _ H' => Q .non H', rt := Q } (start N vs) H) : OK P w K mg base (L2.CX P w) (k + 1) x ps sp := by
  obtain ⟨f, fd, F, hm, hb⟩ := D
  exact ⟨f, fd, F.okX S len fun cdv A outer s H vs Q E hr h => body f cdv A outer s H vs Q E hr h, hm, F.kp, hb⟩
theorem len1 {p : P1} {a : Str} : ∀ vs H Q E, sp1 p vs H Q E → vs.length = [a].length := by
  rintro vs H Q E ⟨_, rfl, _⟩; rfl
theorem len2 {p : P2} {a b : Str} : ∀ vs H Q E, sp2 p vs H Q E → vs.length = [a, b].length := by
  rintro vs H Q E ⟨_, _, rfl, _⟩; rfl
theorem len3 {p : P3} {a b c : Str} : ∀ vs H Q E, sp3 p vs H Q E → vs.length = [a, b, c].length := by
  rintro vs H Q E ⟨_, _, _, rfl, _⟩; rfl
theorem len4 {p : P4} {a b c d : Str} : ∀ vs H Q E, sp4 p vs H Q E → vs.length = [a, b, c, d].length := by
  rintro vs H Q E ⟨_, _, _, _, rfl, _⟩; rfl
theorem OK.weak {CX : CXT} {sp' : Sp} (G : OK P w K mg base CX k x ps sp) (h : ∀ vs H Q E, sp' vs H Q E → sp vs H Q E) : OK P w K mg base CX k x ps sp' := by
  obtain ⟨f, fd, F, r⟩ := G
  exact ⟨f, fd, F.imp h, r⟩
end
/-! ### calls -/
section
variable {X : Cx} {CX : CXT} {k : Nat} {x : Str} {ps : List Str} {sp : Sp} {E : XK} {e : Expr} {es : List Expr} {ta : TA} {p pos : Pos}
theorem pe_f (G : OK X.prog X.w X.K X.mg X.base CX k x ps sp) (hr : Room k X.A) (hx : Passes CX X E) (ha : PA X (e :: es) ta) (hg : Gl X x := by rfl) (hd : (x == ("__debug__" : Str)) = false := by decide)
    (he : starEach (e :: es) X.env = (false, eval e X.env) :: starEach es X.env := by rfl) (hpl : (backTo pos (starEach es X.env)).any (·.1) = false := by rfl) :
    PE X (.Call (.Name x p) (e :: es) [] pos) (tCall sp [] E ta) := by
  obtain ⟨f, fd, F, hm, hk, hb⟩ := G
  exact pe_call F hr hg hm hk hb .nil hx ha hd he hpl
theorem pe_fS {ES : L2.St → XK} (G : OK X.prog X.w X.K X.mg X.base CX k x ps sp) (hr : Room k X.A) (hx : ∀ σ, PassesAt CX X σ (ES σ)) (ha : PA X (e :: es) ta) (hg : Gl X x := by rfl) (hd : (x == ("__debug__" : Str)) = false := by decide)
    (he : starEach (e :: es) X.env = (false, eval e X.env) :: starEach es X.env := by rfl) (hpl : (backTo pos (starEach es X.env)).any (·.1) = false := by rfl) :
    PE X (.Call (.Name x p) (e :: es) [] pos) (tCallS sp ES ta) := by
  obtain ⟨f, fd, F, hm, hk, hb⟩ := G
  exact pe_callS F hr hg hm hk hb hx ha hd he hpl
theorem pe_gS (l : List Nat) (h : ∃ t, X.mg x = some (.str ⟨l.toArray⟩ t)) (hg : Gl X x := by rfl) (hd : (x == ("__debug__" : Str)) = false := by decide) : PE X (.Name x pos) (tC (S l)) := by
  obtain ⟨t, hm⟩ := h
  exact pe_glob hg hm ⟨t, rfl⟩ hd
theorem pe_gI (i : Int) (h : ∃ t, X.mg x = some (.int i t)) (hg : Gl X x := by rfl) (hd : (x == ("__debug__" : Str)) = false := by decide) : PE X (.Name x pos) (tC (.int i)) := by
  obtain ⟨t, hm⟩ := h
  exact pe_glob hg hm ⟨t, rfl⟩ hd
theorem pe_gR (C : Addr) (h : X.mg x = some (.ref C)) (hg : Gl X x := by rfl) (hd : (x == ("__debug__" : Str)) = false := by decide) : PE X (.Name x pos) (tC (.ref C)) := pe_glob hg h rfl hd
end
/-! ### an own exception with one field -/
/-- what its __init__ promises -/
def spIni (C : Addr) (f : Str) : Sp := sp2 fun x v H Q _ => ∃ a, x = .ref a ∧ H a = some (exo a C none) ∧ ∀ dx, H dx = none → dx ≠ a → Q .non (upd (upd H dx (exd dx [(f, v)])) a (exo a C (some dx)))
def OKx (P : Program) (w : World) (K : PySem.W.Frag) (mg : Str → Option Value) (base : Heap) (x f : Str) (C : Addr) : Prop :=
  mg x = some (.ref C) ∧ OexC K C ∧ PySem.W.findIn K (.ref C) f = some none ∧ ∃ (fI : Addr) (fd : FuncData), PySem.W.findIn K (.ref C) "__init__" = some (some (.ref fI)) ∧ PySem.W.typeIn K (.ref fI) = some (.type "function") ∧
    FnOk P w K mg base CX0 1 fI fd ["self", f] (spIni C f) ∧ Binds K fd ["self", f] []
theorem ini_ok {P : Program} {w : World} {K : PySem.W.Frag} {mg : Str → Option Value} {base : Heap} {C fI : Addr} {f q : Str} {st : Stmt} {fd : FuncData} (F : Fun K "__init__" q st fI fd) (S : FnScope ["self", f] ["self", f] (defScope st))
    (ox : OexC K C) (noF : PySem.W.findIn K (.ref C) f = some none)
    (hb : ∀ (cdv : Value) (A : Around) (outer : List Env) (s : Shared) (H : Hp) (E : XK), PSs (cxOf CX0 P w K mg base ["self", f] q (defScope st) fI cdv A outer s H E).nox (defBody st) (tOst K f (tVar 0) (tVar 1))) :
    FnOk P w K mg base CX0 1 fI fd ["self", f] (spIni C f) := by
  refine F.ok S (fun vs H Q E h => len2 vs H Q E h) fun cdv A outer s H vs Q E hr h => ⟨_, hb cdv A outer s H E, ?_⟩
  obtain ⟨x, v, rfl, a, rfl, ha, q⟩ := h
  exact ⟨v, rfl, .ref a, rfl, a, C, rfl, ox, noF, .inl ⟨ha, fun dx n ne => q dx n ne⟩⟩
/-- C(e): an error whose dict, new, holds the field -/
def tMkE (C : Addr) (f : Str) (ta : TA) : L2.St → Hp → XK → Prop := fun σ H Q => ta σ H fun vs H1 => ∃ v, vs = [v] ∧ ∀ d, H1 d = none → Q (.ref C) (some d) (upd H1 d (.xd [(f, v)]))
theorem pa_mono {X : Cx} {es : List Expr} {ta : TA} (ha : PA X es ta) : PA X es fun σ H R => ∃ Q1 : List V → Hp → Prop, ta σ H Q1 ∧ ∀ vs H1, Q1 vs H1 → R vs H1 := by
  refine ⟨fun pos pins s σ H Q I h => ?_⟩
  obtain ⟨Q1, h, hi⟩ := h
  exact thn (ha.run pos pins s σ H Q1 I h) fun us s1 ⟨vs, H1, J, r, q⟩ => ⟨vs, H1, J, r, hi vs H1 q⟩
theorem pmk_E {X : Cx} {x f : Str} {C : Addr} {e : Expr} {ta : TA} {p pos : Pos} {k : Nat} (G : OKx X.prog X.w X.K X.mg X.base x f C) (hr : Room (k + 2) X.A) (ha : PA X [e] ta) (hg : Gl X x := by rfl) (hdb : (x == ("__debug__" : Str)) = false := by decide)
    (he : starEach [e] X.env = (false, eval e X.env) :: starEach [] X.env := by rfl) (hpl : (backTo pos (starEach [] X.env)).any (·.1) = false := by rfl) :
    PMk X (.Call (.Name x p) [e] [] pos) (tMkE C f ta) := by
  obtain ⟨hm, ox, noF, fI, fd, iC, tI, F, hb⟩ := G
  intro pins s σ H Q I h
  refine pmk_oex (k := 1) (dvs := []) ox iC tI F (hr.mono (by omega)) hb .nil pass0 hg hm (pa_mono ha) hdb he hpl pins s σ H Q I ⟨_, h, fun vs H1 hq => ?_⟩
  obtain ⟨v, rfl, q⟩ := hq
  refine ⟨by show 1 ≤ 1000; omega, fun a na => ⟨.ref a, v, rfl, a, rfl, upd_same, fun dx nd ne => ⟨rfl, dx, [(f, v)], upd_same, ?_, ?_, ?_⟩⟩⟩
  · rw [upd_ne ne, upd_same]
  · rw [upd_ne ne] at nd; exact nd
  · have n2 : H1 dx = none := by rw [upd_ne ne] at nd; exact nd
    have e1 : upd (del (upd (upd (upd H1 a (exo a C none)) dx (exd dx [(f, v)])) a (exo a C (some dx))) a) dx (.xd [(f, v)]) = upd H1 dx (.xd [(f, v)]) := by
      funext b
      by_cases hb : b = dx
      · rw [hb, upd_same, upd_same]
      · rw [upd_ne hb, upd_ne hb]
        by_cases ha : b = a
        · rw [ha, del_same, na]
        · rw [del_ne ha, upd_ne ha, upd_ne hb, upd_ne ha]
    rw [e1]
    exact q dx n2
def tRaiseP (t : L2.St → Hp → XK → Prop) (W : WX) : TS := fun _ σ H => t σ H fun cls d H' => W cls d σ H'
theorem ps_raiseP {X : Cx} {W : WX} {e : Expr} {t : L2.St → Hp → XK → Prop} {pos : Pos} (hc : X.calm = true) (tk : Takes X W) (he : PMk X e t) : PS X (.Raise (some e) none pos) (tRaiseP t W) := ps_raise hc tk he
/-! ### isinstance(e, C) of a caught error, e.f -/
/-- the class of a caught error, for isinstance -/
structure ExcD (K : PySem.W.Frag) (D : Addr) : Prop where
  cl : (PySem.W.clsIn K D).isSome = true
  hg : PySem.W.findIn K (.ref D) "__getattribute__" = some (some (.builtin "BaseException.__getattribute__"))
  hk : PySem.W.findIn K (.ref D) "__getattr__" = some none
  hs : PySem.W.subIn K (.ref D) (.type "BaseException") = some true
  hd : PySem.W.hasDictIn K D = true
  ha : PySem.W.findIn K (.ref D) "__class__" = some (some (.builtin "object.__class__"))
  hn : PySem.W.specialIn K (.builtin "object.__class__") "__get__" = some (some (.builtin "getset_descriptor.__get__"))
  ht : PySem.W.takesIn K (.builtin "object.__class__") = some true
  hm : PySem.W.mroIn K D (.type "object") = some true
theorem ExcD.xf {K : PySem.W.Frag} {D : Addr} (T : ExcD K D) : XfC K D := ⟨T.hg, T.hk, T.hs, T.hd⟩
def rIsX (K : PySem.W.Frag) (a : Addr) (cls : Value) (d : Option Addr) : RC := fun xs H Q => ∃ (D dd : Addr) (fs : List (Str × V)) (c : V) (cv : Value) (b : Bool),
  xs = [.ref a, c] ∧ cls = .ref D ∧ d = some dd ∧ H dd = some (.xd fs) ∧ ExcD K D ∧ ClsV c cv ∧ PySem.W.kitOne K (.ref D) cv = some b ∧ Q (.bl b) H
theorem call_isX {X : Cx} {a : Addr} {oe : Obj} {cls : Value} {d : Option Addr} {pn : List (Addr × Obj)} (hz : Zc cls d oe) (hf : ∃ vs, oe.data = .fields vs) : CallR (X.suite a ((a, oe) :: pn)) (.builtin "isinstance") (rIsX X.K a cls d) := by
  intro pins s σ H xs us Q I r h
  obtain ⟨D, dd, fs, c, cv, b, rfl, rfl, rfl, hdd, T, kc, e, q⟩ := h
  obtain ⟨u1, u2, rfl, r1, r2⟩ := vals2 r
  obtain rfl : u1 = Value.ref a := r1
  obtain rfl := kc.eq r2
  obtain ⟨hget, _⟩ := I.pin (a, oe) (List.mem_append_left _ List.mem_cons_self)
  obtain ⟨vs, hv⟩ := hf
  have hx : ObjOk X.prog X.w H s.heap dd (.xd fs) := I.hok dd _ hdd
  obtain ⟨mA, ⟨o, es, ep, ho, _⟩, _⟩ := hx
  have J : PySem.W.InstAt s.heap a oe D (some o) := ⟨hget, hz.1, by unfold PySem.W.notCls; rw [hv] <;> rfl, by rw [hz.2]; exact ho⟩
  exact PySem.W.kia_one (PySem.W.kitx_exc T.cl T.hg T.hk T.hs T.ha T.hn T.ht T.hm) I.kIn J e (fun z => nomatch z) fun tk => ⟨.bl b, H, I.tok tk, rfl, q⟩
section
variable {σ : L2.St} {H : Hp} {D : Ends} {t : L2.St → Hp → XK → Prop} {W : WX} {Q : XK} {C : Addr} {f : Str} {ta : TA} {v : V} {P : V → Prop}
theorem i_raise (q : t σ H fun cls d H' => W cls d σ H') : tRaiseP t W D σ H := q
theorem i_mkE (q : ta σ H fun vs H1 => ∃ v, vs = [v] ∧ ∀ d, H1 d = none → Q (.ref C) (some d) (upd H1 d (.xd [(f, v)]))) : tMkE C f ta σ H Q := q
theorem i_ex1 (q : P v) : ∃ u, [v] = [u] ∧ P u := ⟨v, rfl, q⟩
end
/-- the wish for an error of the class at C whose dict, new, holds f = v -/
def Rz (E : XK) (H : Hp) (C : Addr) (f : Str) (v : V) : Prop := ∀ d H', H d = none → Same H H' → H' d = some (.xd [(f, v)]) → E (.ref C) (some d) H'
theorem Rz.mono {E : XK} {H H1 : Hp} {C : Addr} {f : Str} {v : V} (h : Rz E H C f v) (s : Same H H1) : Rz E H1 C f v := fun d H' n s' e => h d H' (s.free n) (s.trans s') e
theorem Rz.at {E : XK} {H : Hp} {C : Addr} {f : Str} {v : V} (h : Rz E H C f v) {d : Addr} (n : H d = none) : E (.ref C) (some d) (upd H d (.xd [(f, v)])) :=
  h d _ n (fun b o e => by rw [upd_ne (ne_of_none e n)]; exact e) upd_same
/-! ### min of some texts -/
def rMinS (K : PySem.W.Frag) : RC := fun vs H Q => ∃ (a : Addr) (xs : List (List Nat)), vs = [V.ref a] ∧ SqL K H a (xs.map S) ∧ xs ≠ [] ∧ ∀ m, m ∈ xs → (∀ y ∈ xs, ¬ y < m) → Q (S m) H
theorem argBest_min (val : Nat → List Nat) : ∀ k, argBest (fun i j => decide (val i < val j)) k ≤ k ∧ ∀ j, j ≤ k → ¬ val j < val (argBest (fun i j => decide (val i < val j)) k)
  | 0 => ⟨Nat.le_refl _, fun j hj => by
    have : j = 0 := by omega
    subst this
    exact List.lt_irrefl _⟩
  | k + 1 => by
    obtain ⟨h1, h2⟩ := argBest_min val k
    unfold argBest
    by_cases h : val (k + 1) < val (argBest (fun i j => decide (val i < val j)) k)
    · rw [if_pos (decide_eq_true h)]
      refine ⟨Nat.le_refl _, fun j hj => ?_⟩
      by_cases e : j = k + 1
      · subst e; exact List.lt_irrefl _
      · exact fun z => h2 j (by omega) (List.lt_trans z h)
    · rw [if_neg (by simpa using h)]
      refine ⟨by omega, fun j hj => ?_⟩
      by_cases e : j = k + 1
      · subst e; exact h
      · exact h2 j (by omega)
theorem cmp_strs {prog : Program} {w : World} {A : Around} {P : Nat → Value → Prop} (val : Nat → List Nat) (hval : ∀ i v, P i v → ∃ t, v = .str ⟨(val i).toArray⟩ t) : CmpOf prog w A .Lt P (fun i j => decide (val i < val j)) := fun i j vi vj s Q E hi hj h => by
  obtain ⟨t, rfl⟩ := hval i vi hi
  obtain ⟨u, rfl⟩ := hval j vj hj
  refine richCompare_gives (op := .Lt) (typeIs_str s _ t) (typeIs_str s _ u) F.slot_str_lt F.entry_str_lt (F.args_str_lt_2 _ _) (gives_str_lt _ _ t u) (fun x => nomatch x) ?_
  show Q (Value.bool (decide ((val i).toArray.toList < (val j).toArray.toList))) s
  simpa using h
theorem cr_minS {X : Cx} (hc : X.calm = true) : CallR X (.builtin "min") (rMinS X.K) := by
  intro pins s σ H vs us Q I r h
  obtain ⟨a, xs, rfl, hs, hne, q⟩ := h
  obtain ⟨its, rv, hl, _⟩ := I.list hs
  rw [Vals.ref1 r]
  have hlen : xs.length = its.length := by have := rv.length; rw [List.length_map] at this; exact this
  have hpos : 0 < its.length := by rw [← hlen]; exact List.length_pos_iff.mpr hne
  have hL := hl.isList
  have ha : a < s.heap.objs.size := by obtain ⟨_, e, _⟩ := id hL; exact Heap.lt_size e
  have hval : ∀ (i : Nat) (v : Value), its.toArray[i]? = some v → ∃ t, v = Value.str ⟨(xs.getD i []).toArray⟩ t := fun i v hv => by
    have hv' : its[i]? = some v := by simpa using hv
    have hi : i < xs.length := by rw [hlen]; exact (List.getElem?_eq_some_iff.mp hv').1
    obtain ⟨u, hu, ru⟩ := rv.get (i := i) (x := S (xs.getD i [])) (by rw [List.getElem?_map, List.getElem?_eq_getElem hi, List.getD_eq_getElem?_getD, List.getElem?_eq_getElem hi]; rfl)
    rw [hv'] at hu
    cases hu
    exact ru
  refine call_min_walk (wpAny_pyIter_list hL ?_)
  refine ⟨_, _, _, _, _, _, _, rfl, Walks.list (A := X.A.in1) (I.ok.hd hc) s.heap.objs.size a (Nat.ne_of_lt ha) its.toArray,
    ⟨⟨_, Heap.get?_push_size _ rfl, rfl, rfl⟩, hL.push _⟩, fun b hb => ?_, by simpa using hpos, cmp_strs (fun i => xs.getD i []) hval, fun v h' tk hP hk => ?_⟩
  · show b < (s.heap.push _).objs.size
    rw [Heap.size_push]
    rcases List.mem_cons.mp hb with e | hb
    · rw [e]; exact Nat.lt_succ_self _
    · rw [List.mem_singleton.mp hb]; exact Nat.lt_succ_of_lt ha
  · obtain ⟨t, rfl⟩ := hval _ v hP
    obtain ⟨b1, b2⟩ := argBest_min (fun i => xs.getD i []) (its.toArray.size - 1)
    have sz : its.toArray.size = xs.length := by simp [hlen]
    have hb : argBest (fun i j => decide (xs.getD i [] < xs.getD j [])) (its.toArray.size - 1) < xs.length := by omega
    refine ⟨S (xs.getD _ []), H, I.kept (t' := tk) fun b u e => hk b u (fun hm => ?_) (Heap.get?_push_of_some _ e), ⟨t, rfl⟩, q _ ?_ fun y hy => ?_⟩
    · have e1 : b = s.heap.objs.size := List.mem_singleton.mp hm
      have e2 := Heap.lt_size e
      rw [e1] at e2
      exact absurd e2 (Nat.lt_irrefl _)
    · rw [List.getD_eq_getElem?_getD, List.getElem?_eq_getElem hb]
      exact List.getElem_mem hb
    · obtain ⟨i, hi, e⟩ := List.mem_iff_getElem.mp hy
      have e2 : xs.getD i [] = y := by rw [List.getD_eq_getElem?_getD, List.getElem?_eq_getElem hi, ← e]; rfl
      rw [← e2]
      exact b2 i (by omega)
theorem i_minS {K : PySem.W.Frag} {H : Hp} {Q : VK} {a : Addr} {xs : List (List Nat)} (hs : SqL K H a (xs.map S)) (hne : xs ≠ []) (q : ∀ m, m ∈ xs → (∀ y ∈ xs, ¬ y < m) → Q (S m) H) : rMinS K [.ref a] H Q := ⟨a, xs, rfl, hs, hne, q⟩
/-! ### the rules, the written part named -/
section
variable {X : Cx} (K : PySem.W.Frag) {e o : Expr} {es : List Expr} {te to : TE} {ta : TA} {tg : Expr} {p pos apos cpos tpos : Pos} {elts : List Expr} {kk : Nat}
theorem opAdd (h : X.K = K := by rfl) : OpR X (binaryOp .Add) (addP K) := h ▸ op_addP
theorem opEq (hu : X.A.units + 64 < cLine) (h : X.K = K := by rfl) : OpR X (compareOp .Eq) (eqP K) := h ▸ op_eqP hu
theorem opNe (hu : X.A.units + 64 < cLine) (h : X.K = K := by rfl) : OpR X (compareOp .NotEq) (neP K) := h ▸ op_neP hu
theorem opIn (h : X.K = K := by rfl) : OpR X (compareOp .In) (inP K) := h ▸ op_inP
theorem opNotIn (h : X.K = K := by rfl) : OpR X (compareOp .NotIn) (notInP K) := h ▸ op_notInP
theorem ixK (h : X.K = K := by rfl) : IxR X (ixP K) := h ▸ ix_P
theorem slK (h : X.K = K := by rfl) : SlR X (slP K) := h ▸ sl_P
theorem piAny (he : PE X e te) (h : X.K = K := by rfl) : PI X tg e (iAny K te) := h ▸ pi_any he
theorem piEnum (hg : Gl X "enumerate") (hm : X.mg "enumerate" = none) (ha : PA X [e] ta) (h : X.K = K := by rfl) (hs : starEach [e] X.env = [(false, eval e X.env)] := by rfl) :
    PI X (.Tuple elts kk tpos) (.Call (.Name "enumerate" p) [e] [] pos) (iEnumP K ta) := h ▸ pi_enumP hg hm ha hs
theorem cLen (h : X.K = K := by rfl) : CallR X (.builtin "len") (rLenP K) := h ▸ call_lenP
theorem cSum (hc : X.calm = true) (h : X.K = K := by rfl) : CallR X (.builtin "sum") (rSum K) := h ▸ cr_sum hc
theorem cAll (hc : X.calm = true) (h : X.K = K := by rfl) : CallR X (.builtin "all") (rAll K) := h ▸ cr_all hc
theorem cTup (h : X.K = K := by rfl) : CallR X (.type "tuple") (rTupP K) := h ▸ call_tupP
theorem cIsi (h : X.K = K := by rfl) : CallR X (.builtin "isinstance") (rIsi K) := h ▸ call_isi
theorem cMinS (hc : X.calm = true) (h : X.K = K := by rfl) : CallR X (.builtin "min") (rMinS K) := h ▸ cr_minS hc
theorem cSortedS (h : X.K = K := by rfl) : CallR X (.builtin "sorted") (rSortedS K) := h ▸ cr_sortedS
theorem peJoin (ho : PE X o to) (he : PE X e te) (h : X.K = K := by rfl) (hs : starEach [e] X.env = [(false, eval e X.env)] := by rfl) (hbase : attributeBase o "join" X.env (eval o X.env) = eval o X.env := by rfl) (hline : (apos.endLine == pos.line) = true := by rfl) :
    PE X (.Call (.Attribute o "join" apos) [e] [] pos) (tM1 (rJoinP K) to te) := h ▸ pe_joinP ho he hs hbase hline
theorem pgTup {t : TGs} {n : Nat} (hc : X.calm = true) (ht : PGs X es t) (h : X.K = K := by rfl) (hn : (assignEach es X.env).length = n := by rfl) (hst : (assignEach es X.env).findIdx? (·.1) = none := by rfl) :
    PG X (.Tuple es kk pos) (gTup K n t) := h ▸ pg_tup hc ht hn hst
/-- xs.append(e) -/
def tApp (K : PySem.W.Frag) (to : TE) (t : TA) : TE := tBM K "list" rAppend to t
theorem peApp (ho : PE X o to) (ha : PA X (e :: es) ta) (h : X.K = K := by rfl) (hbase : attributeBase o "append" X.env (eval o X.env) = eval o X.env := by rfl)
    (hfew : ((backTo cpos (starEach (e :: es) X.env)).all (fun x => !x.1) && (backToKw cpos (keywordEach [] X.env)).all (fun x => x.1.isSome)
      && decide ((e :: es).length + ([] : List Keyword).length + (if ([] : List Keyword).isEmpty then 0 else 1) < 30)) = true := by rfl)
    (hline : (apos.endLine == cpos.line) = true := by rfl) (hs : starEach (e :: es) X.env = (false, eval e X.env) :: starEach es X.env := by rfl) (hplain : (backTo cpos (starEach es X.env)).any (·.1) = false := by rfl) :
    PE X (.Call (.Attribute o "append" apos) (e :: es) [] cpos) (tApp K to ta) := h ▸ pe_bm PySem.F.plainAttrs_list PySem.F.slot_list_append PySem.F.type_list_append mt_append ho ha hbase hfew hline hs hplain
end
section
variable {K : PySem.W.Frag} {σ : L2.St} {H : Hp} {Q : VK} {te : TE} {ta : TA} {l : Addr} {xs : List V} {v : V}
theorem i_app (q : te σ H fun x H1 => tyV K "list" x H1 ∧ ta σ H1 fun xs H2 => rAppend x xs H2 Q) : tApp K te ta σ H Q := q
theorem i_appAt (h : H l = some (.lst xs)) {P : Prop} (q : P) : tyV K "list" (.ref l) H ∧ P := ⟨.inl ⟨rfl, _, .inl (.inl h)⟩, q⟩
theorem i_appEnd (h : H l = some (.lst xs)) (hz : xs.length < 100000) (q : Q .non (upd H l (.lst (xs ++ [v])))) : rAppend (.ref l) [v] H Q := ⟨l, xs, v, rfl, rfl, h, Nat.lt_trans hz (by decide), q⟩
end
/-! ### stores into lists; a word between two statements -/
section
variable {σ : L2.St} {H : Hp} {D : Ends} {t u : TS} {to ti : TE} {v : V} {Qs : L2.St → Hp → Prop} {Qh : Hp → Prop} {p : Addr} {xs ys : List V} {z : Int}
theorem i_gsub {ts : TSet} (q : to σ H fun o H1 => ti σ H1 fun i H2 => ts o i v H2 fun H3 => Qs σ H3) : gSub to ti ts v σ H Qs := q
theorem i_setL (j : Nat) (h : H p = some (.lst xs)) (hj : ixN xs.length z = some j) (e : xs.set j v = ys) (q : Qh (upd H p (.lst ys))) : rSetL (.ref p) (.int z) v H Qh := ⟨p, xs, z, j, rfl, rfl, h, hj, by rw [e]; exact q⟩
theorem i_cut (Mid : L2.St → Hp → Prop) (h1 : t { D with nx := Mid } σ H) (h2 : ∀ σ' H', Mid σ' H' → u D σ' H') : Evl.tCut t u D σ H := ⟨Mid, h1, h2⟩
end
/-! ### "".join -/
theorem joinL_nil : ∀ ls : List (List Nat), TL.joinL [] ls = ls.flatten
  | [] => rfl
  | [p] => by simp [TL.joinL]
  | p :: q :: r => by
    show p ++ ([] ++ TL.joinL [] (q :: r)) = _
    rw [joinL_nil (q :: r)]
    rfl
theorem join_nil (ls : List (List Nat)) : Txt.join ⟨([] : List Nat).toArray⟩ (ls.map fun l => (⟨l.toArray⟩ : Str)) = ⟨ls.flatten.toArray⟩ := by
  refine TL.ext_tl ?_
  rw [TL.join_eq, TL.tl_join, List.map_map]
  show TL.joinL ([] : List Nat).toArray.toList (ls.map fun l => l.toArray.toList) = ls.flatten.toArray.toList
  simp [joinL_nil]
theorem i_join0 {K : PySem.W.Frag} {H : Hp} {Q : VK} {p : Addr} {ls : List (List Nat)} (hs : SqL K H p (ls.map S)) (hz : (ls.map List.length).sum ≤ 100000) (q : Q (S ls.flatten) H) : rJoinP K (S []) [.ref p] H Q := by
  refine ⟨⟨([] : List Nat).toArray⟩, p, ls.map fun l => (⟨l.toArray⟩ : Str), rfl, rfl, .inl ?_, ?_, ?_⟩
  · rw [List.map_map]; exact hs
  · rw [List.map_map]
    have e : (ls.map ((·.length) ∘ fun l => (⟨l.toArray⟩ : Str))) = ls.map List.length := List.map_congr_left fun l _ => str_len l
    rw [e]
    show (ls.map List.length).sum + _ * ([] : List Nat).toArray.size ≤ _
    simp
    omega
  · rw [join_nil]; exact q
theorem flat_one (cs : List Nat) : (cs.map fun c => [c]).flatten = cs := by
  induction cs with
  | nil => rfl
  | cons a r ih => rw [List.map_cons, List.flatten_cons, ih]; rfl
theorem len_one (cs : List Nat) : ((cs.map fun c => [c]).map List.length).sum = cs.length := by
  induction cs with
  | nil => rfl
  | cons a r ih => rw [List.map_cons, List.map_cons, List.sum_cons, ih, List.length_cons, List.length_cons, List.length_nil]; omega
/-- .. of signs -/
theorem i_join1 {K : PySem.W.Frag} {H : Hp} {Q : VK} {p : Addr} {cs : List Nat} (hs : SqL K H p (cs.map fun c => S [c])) (hz : cs.length ≤ 100000) (q : Q (S cs) H) : rJoinP K (S []) [.ref p] H Q := by
  refine i_join0 (ls := cs.map fun c => [c]) (by rw [List.map_map]; exact hs) (by rw [len_one]; exact hz) ?_
  rw [flat_one]
  exact q
theorem i_yes {σ : L2.St} {H : Hp} {QB : Bool → Hp → Prop} (q : QB true H) : tYes σ H QB := q
/-! ### sorted(some texts): its first -/
theorem ltCps_dec : ∀ a b : List Nat, Spec.ltCps a b = decide (a < b)
  | [], [] => by rw [decide_eq_false (List.lt_irrefl _)]; rfl
  | [], b :: t => by rw [decide_eq_true (List.nil_lt_cons b t)]; rfl
  | a :: r, [] => by rw [decide_eq_false (List.not_lt_nil _)]; rfl
  | a :: r, b :: t => by
    show (decide (a < b) || (a == b && Spec.ltCps r t)) = _
    rw [ltCps_dec r t, Bool.eq_iff_iff]
    simp [List.cons_lt_cons_iff]
theorem rising_all : ∀ (r : List Str) (p : Str), PyProof.Rows.risingS p r = true → ∀ y ∈ r, ¬ y.cps.toList < p.cps.toList
  | [], p, _, y, hy => by simp at hy
  | x :: r, p, h, y, hy => by
    have h' : (!Spec.ltCps x.cps.toList p.cps.toList && PyProof.Rows.risingS x r) = true := h
    rw [Bool.and_eq_true, ltCps_dec] at h'
    have h1 : ¬ x.cps.toList < p.cps.toList := by simpa using h'.1
    rcases List.mem_cons.mp hy with rfl | hy
    · exact h1
    · have h2 := rising_all r x h'.2 y hy
      rw [List.not_lt] at h1 h2 ⊢
      exact List.le_trans h1 h2
theorem i_sortedS {K : PySem.W.Frag} {H : Hp} {Q : VK} {a : Addr} {ls : List (List Nat)} (hs : SqL K H a (ls.map S)) (h64 : ls.length < 64)
    (q : ∀ (zs : List (List Nat)) (p : Addr), zs.Perm ls → (∀ m, zs[0]? = some m → m ∈ ls ∧ ∀ y ∈ ls, ¬ y < m) → H p = none → Q (.ref p) (upd H p (.lst (zs.map S)))) : rSortedS K [.ref a] H Q := by
  refine ⟨a, ls.map fun l => (⟨l.toArray⟩ : Str), rfl, by rw [List.map_map]; exact hs, by rw [List.length_map]; exact h64, fun ys p pm srt np => ?_⟩
  have e : ys = (ys.map fun z => z.cps.toList).map fun l => (⟨l.toArray⟩ : Str) := by
    rw [List.map_map]
    have : ys.map ((fun l => (⟨l.toArray⟩ : Str)) ∘ fun z => z.cps.toList) = ys.map id := List.map_congr_left fun z _ => rfl
    rw [this, List.map_id]
  have pm2 : (ys.map fun z => z.cps.toList).Perm ls := by
    have := pm.map fun z : Str => z.cps.toList
    rw [List.map_map] at this
    have e2 : ls.map ((fun z : Str => z.cps.toList) ∘ fun l => (⟨l.toArray⟩ : Str)) = ls.map id := List.map_congr_left fun l _ => rfl
    rw [e2, List.map_id] at this
    exact this
  have := q (ys.map fun z => z.cps.toList) p pm2 (fun m hm => ?_) np
  · rw [List.map_map] at this
    have e3 : ys.map (S ∘ fun z => z.cps.toList) = ys.map V.str := List.map_congr_left fun z _ => rfl
    rw [e3] at this
    exact this
  · have hmem : m ∈ ys.map fun z => z.cps.toList := List.mem_of_getElem? hm
    refine ⟨pm2.mem_iff.mp hmem, fun y hy => ?_⟩
    have hy2 := pm2.mem_iff.mpr hy
    obtain ⟨z, hz, rfl⟩ := List.mem_map.mp hy2
    cases ys with
    | nil => simp at hz
    | cons x r =>
      have hm' : x.cps.toList = m := by simpa using hm
      rw [← hm']
      have srt' : PyProof.Rows.risingS x r = true := srt
      rcases List.mem_cons.mp hz with rfl | hz
      · exact List.lt_irrefl _
      · exact rising_all r x srt' z hz
/-! ### isinstance(e, C), e.f in a suite; data compared -/
section
variable {K : PySem.W.Frag} {σ : L2.St} {H : Hp} {Q : VK} {a dd D C : Addr} {fs : List (Str × V)} {c x y v : V} {cv : Value} {b r : Bool} {i : Nat} {f : Str} {d1 d2 : PyData}
theorem i_isX (hdd : H dd = some (.xd fs)) (T : ExcD K D) (kc : ClsV c cv) (e : PySem.W.kitOne K (.ref D) cv = some b) (q : Q (.bl b) H) : rIsX K a (.ref D) (some dd) [.ref a, c] H Q := ⟨D, dd, fs, c, cv, b, rfl, rfl, rfl, hdd, T, kc, e, q⟩
theorem i_xf (h : σ[i]? = some (some (.ref a))) (hdd : H dd = some (.xd [(f, v)])) (q : Q v H) : tXf a (.ref C) (some dd) C f (tVar i) σ H Q := ⟨.ref a, h, rfl, rfl, dd, _, v, rfl, hdd, by simp [List.lookup], q⟩
theorem i_eq_data (h1 : Dp K H x d1) (h2 : Dp K H y d2) (s1 : SeqAt.shaped d1 = true) (s2 : SeqAt.shaped d2 = true) (e : PyData.eqv d1 d2 = r) (q : Q (.bl r) H) : eqP K x y H Q := .inr ⟨d1, d2, h1, h2, s1, s2, by rw [e]; exact q⟩
theorem i_ne_data (h1 : Dp K H x d1) (h2 : Dp K H y d2) (s1 : SeqAt.shaped d1 = true) (s2 : SeqAt.shaped d2 = true) (e : PyData.eqv d1 d2 = r) (q : Q (.bl (!r)) H) : neP K x y H Q := .inr ⟨d1, d2, h1, h2, s1, s2, by rw [e]; exact q⟩
theorem dp_bls (bs : List Bool) : DpAll K H (bs.map V.bl) (bs.map PyData.bool) := by
  induction bs with
  | nil => exact .nil
  | cons b r ih => exact .cons (.bl b) ih
theorem dp_ints (ns : List Int) : DpAll K H (ns.map V.int) (ns.map PyData.int) := by
  induction ns with
  | nil => exact .nil
  | cons b r ih => exact .cons (.int b) ih
end
theorem cIsX (K : PySem.W.Frag) {X : Cx} {a : Addr} {oe : Obj} {cls : Value} {d : Option Addr} {pn : List (Addr × Obj)} (hz : Zc cls d oe) (hf : ∃ vs, oe.data = .fields vs) (h : X.K = K := by rfl) : CallR (X.suite a ((a, oe) :: pn)) (.builtin "isinstance") (rIsX K a cls d) := h ▸ call_isX hz hf
/-- what a clause asks, at an error of a class that it names -/
theorem i_caught {K : PySem.W.Frag} {C : Addr} {c : Value} {i : Nat} {ts : Addr → Value → Option Addr → TS} {Wout : WX} {D : Ends} {d : Option Addr} {σ : L2.St} {H : Hp} (h : PySem.W.exmOne K (.ref C) c = some true)
    (q : ∀ a, H a = none → ts a (.ref C) d { nx := fun σ' H' => D.nx (σ'.set i none) H', rt := D.rt, bk := fun σ' H' => D.bk (σ'.set i none) H', ct := fun σ' H' => D.ct (σ'.set i none) H' } (σ.set i (some (.ref a))) H) : wAs K c i ts Wout D (.ref C) d σ H :=
  ⟨true, h, fun _ => q, fun z => nomatch z⟩
/-! ### isinstance and clauses, from what stands of the classes -/
theorem kit_ref {K : PySem.W.Frag} {C D : Addr} {b : Bool} (hi : PySem.W.isClsIn K D = true) (ht : PySem.W.typeIn K (.ref D) = some (.type "type")) (hs : PySem.W.subIn K (.ref D) (.ref D) = some true) (e : PySem.W.subIn K (.ref C) (.ref D) = some b) : PySem.W.kitOne K (.ref C) (.ref D) = some b := by
  unfold PySem.W.kitOne
  by_cases h : C = D
  · subst h
    rw [hs] at e
    rw [if_pos (beq_self_eq_true _)]
    exact e
  · rw [if_neg (fun z => h (by simpa using z))]
    show (if ((PySem.W.clsIn K D).isSome && PySem.W.typeIn K (.ref D) == some (.type "type")) = true then PySem.W.subIn K (.ref C) (.ref D) else none) = _
    rw [show (PySem.W.clsIn K D).isSome = true from hi, ht, if_pos (by simp)]
    exact e
theorem kit_base {K : PySem.W.Frag} {C : Addr} {T : String} {b : Bool} (hm : PySem.W.kitMeta T = true) (e : PySem.W.subIn K (.ref C) (.type T) = some b) : PySem.W.kitOne K (.ref C) (.type T) = some b := by
  unfold PySem.W.kitOne
  rw [if_neg (by simp)]
  show (if PySem.W.kitMeta T = true then PySem.W.subIn K (.ref C) (.type T) else none) = _
  rw [if_pos hm]
  exact e
theorem exm_ref {K : PySem.W.Frag} {C D : Addr} {b : Bool} (hi : PySem.W.isClsIn K D = true) (ht : PySem.W.typeIn K (.ref D) = some (.type "type")) (hb : PySem.W.subIn K (.ref D) (.type "BaseException") = some true) (e : PySem.W.subIn K (.ref C) (.ref D) = some b) : PySem.W.exmOne K (.ref C) (.ref D) = some b := by
  unfold PySem.W.exmOne
  rw [hb, if_pos (by simp)]
  show (if ((PySem.W.clsIn K D).isSome && PySem.W.typeIn K (.ref D) == some (.type "type")) = true then PySem.W.subIn K (.ref C) (.ref D) else none) = _
  rw [show (PySem.W.clsIn K D).isSome = true from hi, ht, if_pos (by simp)]
  exact e
/-! ### what is never come to; a comprehension in a comprehension -/
theorem pe_never {X : Cx} {e : Expr} : PE X e (fun _ _ _ => False) := ⟨fun _ _ _ _ _ _ h => h.elim⟩
theorem passN {X : Cx} : Passes (L2.CX X.prog X.w) X E0 := fun _ _ _ _ _ _ _ ⟨_, _, _, _, _, _, _, _, _, _, _, _, h⟩ => h.elim
theorem pss_never {X : Cx} {st : List Stmt} : PSs X st (fun _ _ _ => False) := ⟨fun _ _ _ _ _ _ h => h.elim⟩
theorem blkOk_in {N : List Str} {sc scope scope2 : Scope} {own : List (Str × Nat)} {X : Cx} {s : Shared} {H : Hp} {cl : List (Str × Addr)} {C : Addr} {fp : List Addr} (hN : X.N = N) (he : X.env.scope = sc) (h : blkC N (relS scope sc) scope2 own = true) :
    BlkOk (X.blk s H scope (compEnvC scope cl C X.env) fp).N (X.blk s H scope (compEnvC scope cl C X.env) fp).env.scope scope2 own := by
  subst hN he
  exact blkOk_by h
theorem i_is_bl {H : Hp} {Q : VK} {b : Bool} (q : Q (.bl false) H) : isP (.bl b) .non H Q := ⟨rfl, q⟩
theorem i_isn_bl {H : Hp} {Q : VK} {b : Bool} (q : Q (.bl true) H) : isNotP (.bl b) .non H Q := ⟨rfl, q⟩
theorem i_int_bl {H : Hp} {Q : VK} {b : Bool} (q : Q (.int (if b then 1 else 0)) H) : rIntP [.bl b] H Q := .inr ⟨b, rfl, q⟩
section
variable {K : PySem.W.Frag} {σ : L2.St} {H : Hp} {Q : VK} {D : Ends} {te : TE} {ta : TA} {i j : Nat} {u v w x : V} {a : Addr} {Qs : L2.St → Hp → Prop}
theorem i_par (q : ta σ H fun vs H1 => ∃ v w, vs = [v, w] ∧ D.nx ((σ.set i (some v)).set j (some w)) H1) : tPar i j ta D σ H := q
theorem i_par2 (q : D.nx ((σ.set i (some v)).set j (some w)) H) : ∃ v' w', [v, w] = [v', w'] ∧ D.nx ((σ.set i (some v')).set j (some w')) H := ⟨v, w, rfl, q⟩
theorem i_aug {ti : TIp} (h : σ[i]? = some (some x)) (q : te σ H fun y H1 => ti x y H1 fun z H2 => D.nx (σ.set i (some z)) H2) : tAug i te ti D σ H := ⟨x, h, q⟩
theorem i_ipI {f : Int → Int → Int} {a b : Int} (q : Q (.int (f a b)) H) : ipI f (.int a) (.int b) H Q := ⟨a, b, rfl, rfl, q⟩
theorem i_gtup2 (h : SqT K H a [u, v]) (q : Qs ((σ.set i (some u)).set j (some v)) H) : gTup K 2 (gCons (gName i) (gCons (gName j) gNil)) (.ref a) σ H Qs := ⟨a, _, rfl, h, rfl, u, _, rfl, v, _, rfl, rfl, q⟩
theorem i_while {c : TT} {tb : TS} (W : Nat → L2.St → Hp → Prop) (m : Nat) (h0 : W m σ H)
    (h : ∀ m σ H, W m σ H → c σ H fun b H1 => if b = true then ∃ N : L2.St → Hp → Prop, (∀ σ' H', N σ' H' → ∃ m', m' < m ∧ W m' σ' H') ∧ tb { D with nx := N, ct := N, bk := D.nx } σ H1 else D.nx σ H1) : tWhile c tb D σ H := ⟨W, ⟨m, h0⟩, h⟩
theorem i_turn {tb : TS} {W : Nat → L2.St → Hp → Prop} {m : Nat} (q : tb { D with nx := fun σ' H' => ∃ m', m' < m ∧ W m' σ' H', ct := fun σ' H' => ∃ m', m' < m ∧ W m' σ' H', bk := D.nx } σ H) :
    ∃ N : L2.St → Hp → Prop, (∀ σ' H', N σ' H' → ∃ m', m' < m ∧ W m' σ' H') ∧ tb { D with nx := N, ct := N, bk := D.nx } σ H := ⟨_, fun _ _ h => h, q⟩
theorem i_lstRg1 (q : te σ H fun x H1 => ∃ n, x = .int n ∧ RgOk 0 n ∧ ∀ q, H1 q = none → Q (.ref q) (upd H1 q (.lst (rgV 0 n)))) : tLstRg (tRg1 te) σ H Q := q
theorem rgV_nat (n : Nat) : rgV 0 (n : Int) = (List.range n).map fun (i : Nat) => V.int (i : Int) := by
  unfold rgV
  rw [Int.sub_zero, Int.toNat_natCast]
  exact List.map_congr_left fun i _ => by rw [Int.zero_add]
theorem i_rg {n : Nat} {P : Addr → Prop} (hn : n ≤ 100000) (q : ∀ q, H q = none → P q) : RgOk 0 (n : Int) ∧ ∀ q, H q = none → P q := ⟨⟨by omega, by omega, by omega, by omega, by omega⟩, q⟩
end
end Fg
/-! Loops and comprehensions, by what a turn does. -/
namespace Fg
open PySem PySem.Spec PyProof.Rows L2
theorem same_upd {H : Hp} {p : Addr} {o : HO} (h : H p = none) : Same H (upd H p o) := fun b x e => by
  rw [upd_ne (ne_of_none e h)]
  exact e
theorem Same.upd {H H' : Hp} {p : Addr} {o : HO} (e : Same H H') (h : H p = none) : Same H (upd H' p o) := fun b x eb => by
  rw [upd_ne (ne_of_none eb h)]
  exact e b x eb
theorem Same.tup {K : PySem.W.Frag} {H H' : Hp} {a : Addr} {xs : List V} (e : Same H H') (h : SqT K H a xs) : SqT K H' a xs := by
  rcases h with (h | ⟨o, h⟩) | h
  · exact .inl (.inl (e _ _ h))
  · exact .inl (.inr ⟨o, e _ _ h⟩)
  · exact .inr h
section
variable {K : PySem.W.Frag} {σ : L2.St} {H : Hp} {Q : VK} {D : Ends} {te tl : TE} {tt : TT} {ta : TA} {tb : TS} {j : Nat} {g : TG} {a : Addr} {xs : List V} {z : List Nat} {vs : List Nat}
/-- for j in range(n) -/
theorem f_rng1 (n : Nat) (ha : ∀ R : List V → Hp → Prop, R [.int (n : Int)] H → ta σ H R) (hn : n ≤ 100000000) (Pv : Nat → L2.St → Hp → Prop) (h0 : Pv 0 σ H)
    (hs : ∀ i σ' H', i < n → Pv i σ' H' → g (.int (i : Int)) σ' H' fun σ2 H2 => tb { D with nx := Pv (i + 1), ct := Pv (i + 1), bk := D.nx } σ2 H2) (hd : ∀ σ' H', Pv n σ' H' → D.nx σ' H') : tFor (iRng1 ta) g tb D σ H := by
  refine ha _ ⟨(n : Int), rfl, by omega, by omega, ?_⟩
  rw [Int.toNat_natCast]
  refine for_range Pv h0 (fun i σ' H' hi p => ?_) hd
  rw [Int.zero_add]
  exact hs i σ' H' hi p
/-- for j in range(lo, n) -/
theorem f_rng2 (lo n : Nat) (ha : ∀ R : List V → Hp → Prop, R [.int (lo : Int), .int (n : Int)] H → ta σ H R) (hn : lo ≤ 100000 ∧ n ≤ 100000000) (Pv : Nat → L2.St → Hp → Prop) (h0 : Pv 0 σ H)
    (hs : ∀ i σ' H', lo + i < n → Pv i σ' H' → g (.int ((lo + i : Nat) : Int)) σ' H' fun σ2 H2 => tb { D with nx := Pv (i + 1), ct := Pv (i + 1), bk := D.nx } σ2 H2) (hd : ∀ σ' H', Pv (n - lo) σ' H' → D.nx σ' H') : tFor (iRng2 ta) g tb D σ H := by
  refine ha _ ⟨(lo : Int), (n : Int), rfl, ⟨by omega, by omega, by omega, by omega⟩, ?_⟩
  have e : ((n : Int) - (lo : Int)).toNat = n - lo := by omega
  rw [e]
  refine for_range Pv h0 (fun i σ' H' hi p => ?_) hd
  rw [← Int.natCast_add]
  exact hs i σ' H' (by omega) p
theorem f_lst (ha : ∀ R : VK, R (.ref a) H → te σ H R) (hx : SqL K H a xs) (Pv : Nat → L2.St → Hp → Prop) (h0 : Pv 0 σ H) (hl : ∀ i σ' H', i ≤ xs.length → Pv i σ' H' → SqL K H' a xs)
    (hs : ∀ i x σ' H', xs[i]? = some x → Pv i σ' H' → g x σ' H' fun σ2 H2 => tb { D with nx := Pv (i + 1), ct := Pv (i + 1), bk := D.nx } σ2 H2) (hd : ∀ σ' H', Pv xs.length σ' H' → D.nx σ' H') : tFor (iAny K te) g tb D σ H :=
  ha _ (.inl ⟨a, xs, rfl, hx, for_list Pv h0 hl hs hd⟩)
theorem f_tup (ha : ∀ R : VK, R (.ref a) H → te σ H R) (hx : SqT K H a xs) (Pv : Nat → L2.St → Hp → Prop) (h0 : Pv 0 σ H) (hl : ∀ i σ' H', i ≤ xs.length → Pv i σ' H' → SqT K H' a xs)
    (hs : ∀ i x σ' H', xs[i]? = some x → Pv i σ' H' → g x σ' H' fun σ2 H2 => tb { D with nx := Pv (i + 1), ct := Pv (i + 1), bk := D.nx } σ2 H2) (hd : ∀ σ' H', Pv xs.length σ' H' → D.nx σ' H') : tFor (iAny K te) g tb D σ H :=
  ha _ (.inr (.inl ⟨a, xs, rfl, hx, for_tup Pv h0 hl hs hd⟩))
theorem f_str (ha : ∀ R : VK, R (S z) H → te σ H R) (Pv : Nat → L2.St → Hp → Prop) (h0 : Pv 0 σ H)
    (hs : ∀ i c σ' H', z[i]? = some c → Pv i σ' H' → g (S [c]) σ' H' fun σ2 H2 => tb { D with nx := Pv (i + 1), ct := Pv (i + 1), bk := D.nx } σ2 H2) (hd : ∀ σ' H', Pv z.length σ' H' → D.nx σ' H') : tFor (iAny K te) g tb D σ H := by
  have e : (⟨z.toArray⟩ : Str).cps.size = z.length := str_len z
  refine ha _ (.inr (.inr ⟨_, rfl, for_it walk_str Pv h0 (fun _ _ _ _ _ => True.intro) (fun i x σ' H' H2 hi p y => ?_) (by rw [e]; exact hd)⟩))
  obtain ⟨rfl, c, hc, rfl⟩ := y
  exact hs i c σ' _ (by simpa using hc) p
/-- for i, c in enumerate(text) -/
theorem f_enumS {i1 i2 : Nat} (ha : ∀ R : List V → Hp → Prop, R [S z] H → ta σ H R) (Pv : Nat → L2.St → Hp → Prop) (h0 : Pv 0 σ H)
    (hs : ∀ i c σ' H' T, z[i]? = some c → Pv i σ' H' → H' T = none → tb { D with nx := Pv (i + 1), ct := Pv (i + 1), bk := D.nx } ((σ'.set i1 (some (.int (i : Int)))).set i2 (some (S [c]))) (upd H' T (.tup [.int (i : Int), S [c]]))) (hd : ∀ σ' H', Pv z.length σ' H' → D.nx σ' H') :
    tFor (iEnumP K ta) (gTup K 2 (gCons (gName i1) (gCons (gName i2) gNil))) tb D σ H := by
  have e : (⟨z.toArray⟩ : Str).cps.size = z.length := str_len z
  refine ha _ (.inr ⟨⟨z.toArray⟩, rfl, ?_⟩)
  have w : Walk (Ites ⟨z.toArray⟩) z.length (fun _ => True) (fun i Ha v Hb => ∃ T c, v = .ref T ∧ Ha T = none ∧ Hb = upd Ha T (.tup [.int (i : Nat), S [c]]) ∧ z[i]? = some c) := by
    refine ⟨fun i H' hi _ => by show i < (⟨z.toArray⟩ : Str).cps.size; rw [e]; exact hi, fun H' _ => e.symm, fun i H' x H2 hi _ y => ?_⟩
    obtain ⟨T, c, h1, h2, h3, h4⟩ := y
    exact ⟨T, c, h1, h2, h3, by simpa using h4⟩
  refine for_it w Pv h0 (fun _ _ _ _ _ => True.intro) (fun i x σ' H' H2 hi p y => ?_) hd
  obtain ⟨T, c, rfl, nT, rfl, hc⟩ := y
  exact ⟨T, _, rfl, SqT.of upd_same, rfl, _, _, rfl, _, _, rfl, rfl, hs i c σ' H' T hc p nT⟩
/-! comprehensions whose elements leave what stood -/
def Lw (H1 : Hp) (Dl : Addr) (l : Nat → List V) (i : Nat) (H' : Hp) : Prop := H1 Dl = none ∧ Same H1 H' ∧ H' Dl = some (.lst (l i))
/-- the kept ones among the first n -/
def kept (f : Nat → Bool) (v : Nat → V) (n : Nat) : List V := ((List.range n).filter f).map v
theorem kept_yes {f : Nat → Bool} {v : Nat → V} {n : Nat} (h : f n = true) : kept f v (n + 1) = kept f v n ++ [v n] := by
  unfold kept
  rw [List.range_succ, List.filter_append, List.map_append, List.filter_cons_of_pos h] <;> rfl
theorem kept_no {f : Nat → Bool} {v : Nat → V} {n : Nat} (h : f n = false) : kept f v (n + 1) = kept f v n := by
  unfold kept
  rw [List.range_succ, List.filter_append, List.map_append, List.filter_cons_of_neg (by rw [h]; decide)]
  simp
theorem kept_len (f : Nat → Bool) (v : Nat → V) (n : Nat) : (kept f v n).length ≤ n := by
  unfold kept
  rw [List.length_map]
  exact Nat.le_trans (List.length_filter_le _ _) (by rw [List.length_range]; exact Nat.le_refl _)
theorem kept_all (v : Nat → V) (n : Nat) : kept (fun _ => true) v n = (List.range n).map v := by
  unfold kept
  rw [List.filter_eq_self.mpr (fun _ _ => rfl)]
theorem lw_turn {H1 H' : Hp} {Dl : Addr} {f : Nat → Bool} {v : Nat → V} {i : Nat} {σ2 : L2.St} (p : Lw H1 Dl (kept f v) i H') (hi : i < 100000)
    (ht : ∀ H2, Same H1 H2 → ∀ QB : Bool → Hp → Prop, (∀ H3, Same H2 H3 → QB (f i) H3) → tt σ2 H2 QB) (he : ∀ H2, Same H1 H2 → f i = true → ∀ QV : VK, (∀ H3, Same H2 H3 → QV (v i) H3) → te σ2 H2 QV) :
    tt σ2 H' fun b H3 => if b = true then te σ2 H3 fun y H4 => ∃ acc, H4 Dl = some (.lst acc) ∧ acc.length < sizeLine ∧ Lw H1 Dl (kept f v) (i + 1) (upd H4 Dl (.lst (acc ++ [y]))) else Lw H1 Dl (kept f v) (i + 1) H3 := by
  obtain ⟨n1, s1, d1⟩ := p
  refine ht H' s1 _ fun H3 s3 => ?_
  cases hf : f i with
  | true =>
    rw [if_pos rfl]
    refine he H3 (s1.trans s3) hf _ fun H4 s4 => ⟨kept f v i, s4 _ _ (s3 _ _ d1), ?_, n1, ?_, ?_⟩
    · exact Nat.lt_of_le_of_lt (kept_len f v i) (Nat.lt_trans hi (by decide))
    · exact Same.upd ((s1.trans s3).trans s4) n1
    · rw [kept_yes hf]; exact upd_same
  | false =>
    rw [if_neg (by decide)]
    exact ⟨n1, s1.trans s3, by rw [kept_no hf]; exact s3 _ _ d1⟩
/-- [te for j in range(n) if tt] -/
theorem c_rng1 (n : Nat) (ha : ∀ R : List V → Hp → Prop, R [.int (n : Int)] H → ta σ H R) (hn : n ≤ 100000) (f : Nat → Bool) (v : Nat → V) (hw : ∀ x, wipe ((wipe σ vs).set j (some x)) vs = wipe σ vs)
    (ht : ∀ i H2, i < n → Same H H2 → ∀ QB : Bool → Hp → Prop, (∀ H3, Same H2 H3 → QB (f i) H3) → tt ((wipe σ vs).set j (some (.int (i : Int)))) H2 QB)
    (he : ∀ i H2, i < n → Same H H2 → f i = true → ∀ QV : VK, (∀ H3, Same H2 H3 → QV (v i) H3) → te ((wipe σ vs).set j (some (.int (i : Int)))) H2 QV)
    (q : ∀ Dl H2, H Dl = none → Same H H2 → H2 Dl = some (.lst (kept f v n)) → Q (.ref Dl) H2) : tLc (iRng1 ta) (gName j) tt te vs σ H Q := by
  refine ha _ ⟨(n : Int), rfl, by omega, by omega, fun Dl nD => ?_⟩
  rw [Int.toNat_natCast]
  refine lc_range (Lw H Dl (kept f v)) ⟨nD, same_upd nD, upd_same⟩ (fun i H' hi p => ?_) (fun H' p => q Dl H' p.1 p.2.1 p.2.2)
  rw [Int.zero_add]
  exact ⟨hw _, lw_turn p (by omega) (fun H2 s2 => ht i H2 hi s2) (fun H2 s2 => he i H2 hi s2)⟩
/-- .. every one -/
theorem c_rng1A (n : Nat) (ha : ∀ R : List V → Hp → Prop, R [.int (n : Int)] H → ta σ H R) (hn : n ≤ 100000) (v : Nat → V) (hw : ∀ x, wipe ((wipe σ vs).set j (some x)) vs = wipe σ vs)
    (he : ∀ i H2, i < n → Same H H2 → ∀ QV : VK, (∀ H3, Same H2 H3 → QV (v i) H3) → te ((wipe σ vs).set j (some (.int (i : Int)))) H2 QV)
    (q : ∀ Dl H2, H Dl = none → Same H H2 → H2 Dl = some (.lst ((List.range n).map v)) → Q (.ref Dl) H2) : tLc (iRng1 ta) (gName j) tYes te vs σ H Q :=
  c_rng1 n ha hn (fun _ => true) v hw (fun i H2 hi s2 QB k => k H2 (L2.Same.refl H2)) (fun i H2 hi s2 _ => he i H2 hi s2) (fun Dl H2 n1 s1 d1 => q Dl H2 n1 s1 (by rw [kept_all] at d1; exact d1))
/-- [te for j in a list if tt] -/
theorem c_lst (ha : ∀ R : VK, R (.ref a) H → tl σ H R) (hx : SqL K H a xs) (hn : xs.length ≤ 100000) (f : Nat → Bool) (v : Nat → V) (hw : ∀ x, wipe ((wipe σ vs).set j (some x)) vs = wipe σ vs)
    (ht : ∀ i x H2, xs[i]? = some x → Same H H2 → ∀ QB : Bool → Hp → Prop, (∀ H3, Same H2 H3 → QB (f i) H3) → tt ((wipe σ vs).set j (some x)) H2 QB)
    (he : ∀ i x H2, xs[i]? = some x → Same H H2 → f i = true → ∀ QV : VK, (∀ H3, Same H2 H3 → QV (v i) H3) → te ((wipe σ vs).set j (some x)) H2 QV)
    (q : ∀ Dl H2, H Dl = none → Same H H2 → H2 Dl = some (.lst (kept f v xs.length)) → Q (.ref Dl) H2) : tLc (iAny K tl) (gName j) tt te vs σ H Q := by
  refine ha _ (.inl ⟨a, xs, rfl, hx, fun Dl nD => ?_⟩)
  refine lc_list (Lw H Dl (kept f v)) ⟨nD, same_upd nD, upd_same⟩ (fun i H' hi p => p.2.1.seq hx) (fun i x H' hi p => ?_) (fun H' p => q Dl H' p.1 p.2.1 p.2.2)
  have hlt := (List.getElem?_eq_some_iff.mp hi).1
  exact ⟨hw _, lw_turn p (by omega) (fun H2 s2 => ht i x H2 hi s2) (fun H2 s2 => he i x H2 hi s2)⟩
/-- [te for j in a tuple if tt] -/
theorem c_tup (ha : ∀ R : VK, R (.ref a) H → tl σ H R) (hx : SqT K H a xs) (hn : xs.length ≤ 100000) (f : Nat → Bool) (v : Nat → V) (hw : ∀ x, wipe ((wipe σ vs).set j (some x)) vs = wipe σ vs)
    (ht : ∀ i x H2, xs[i]? = some x → Same H H2 → ∀ QB : Bool → Hp → Prop, (∀ H3, Same H2 H3 → QB (f i) H3) → tt ((wipe σ vs).set j (some x)) H2 QB)
    (he : ∀ i x H2, xs[i]? = some x → Same H H2 → f i = true → ∀ QV : VK, (∀ H3, Same H2 H3 → QV (v i) H3) → te ((wipe σ vs).set j (some x)) H2 QV)
    (q : ∀ Dl H2, H Dl = none → Same H H2 → H2 Dl = some (.lst (kept f v xs.length)) → Q (.ref Dl) H2) : tLc (iAny K tl) (gName j) tt te vs σ H Q := by
  refine ha _ (.inr (.inl ⟨a, xs, rfl, hx, fun Dl nD => ?_⟩))
  refine lc_tup (Lw H Dl (kept f v)) ⟨nD, same_upd nD, upd_same⟩ (fun i H' hi p => Same.tup p.2.1 hx) (fun i x H' hi p => ?_) (fun H' p => q Dl H' p.1 p.2.1 p.2.2)
  have hlt := (List.getElem?_eq_some_iff.mp hi).1
  exact ⟨hw _, lw_turn p (by omega) (fun H2 s2 => ht i x H2 hi s2) (fun H2 s2 => he i x H2 hi s2)⟩
end
/-! a loop over what the text makes anew -/
def LoopG (g : TG) (tb : TS) (D : Ends) (σ : L2.St) : It → Hp → Prop := fun J H1 => tFor (fun _ _ R => R J H1) g tb D σ H1
section
variable {K : PySem.W.Frag} {σ : L2.St} {H : Hp} {D : Ends} {te : TE} {tb : TS} {g : TG} {a : Addr} {xs : List V}
theorem i_for (q : te σ H fun x H1 => (∃ a xs, x = .ref a ∧ SqL K H1 a xs ∧ LoopG g tb D σ (Itl K a) H1) ∨ (∃ a xs, x = .ref a ∧ SqT K H1 a xs ∧ LoopG g tb D σ (Itt K a) H1) ∨ (∃ z, x = .str z ∧ LoopG g tb D σ (Its z) H1)) : tFor (iAny K te) g tb D σ H := q
theorem i_forL {B : Prop} (hx : SqL K H a xs) (Pv : Nat → L2.St → Hp → Prop) (h0 : Pv 0 σ H) (hl : ∀ i σ' H', i ≤ xs.length → Pv i σ' H' → SqL K H' a xs)
    (hs : ∀ i x σ' H', xs[i]? = some x → Pv i σ' H' → g x σ' H' fun σ2 H2 => tb { D with nx := Pv (i + 1), ct := Pv (i + 1), bk := D.nx } σ2 H2) (hd : ∀ σ' H', Pv xs.length σ' H' → D.nx σ' H') :
    (∃ a' xs', V.ref a = .ref a' ∧ SqL K H a' xs' ∧ LoopG g tb D σ (Itl K a') H) ∨ B := .inl ⟨a, xs, rfl, hx, for_list Pv h0 hl hs hd⟩
end
/-! a loop over a range whose end the text makes anew; lists put together, cut -/
section
variable {K : PySem.W.Frag} {σ : L2.St} {H : Hp} {Q : VK} {D : Ends} {ta : TA} {tb : TS} {g : TG} {a b : Addr} {xs ys : List V}
theorem i_forR (q : ta σ H fun vs H1 => ∃ j : Int, vs = [.int j] ∧ -(2 ^ 62) ≤ j ∧ j < 2 ^ 62 ∧ LoopG g tb D σ (Itr 0 j.toNat) H1) : tFor (iRng1 ta) g tb D σ H := q
theorem i_rngD {n : Int} (h0 : 0 ≤ n) (h : n ≤ 100000000) (Pv : Nat → L2.St → Hp → Prop) (hp : Pv 0 σ H)
    (hs : ∀ (i : Nat) σ' H', (i : Int) < n → Pv i σ' H' → g (.int (i : Int)) σ' H' fun σ2 H2 => tb { D with nx := Pv (i + 1), ct := Pv (i + 1), bk := D.nx } σ2 H2) (hd : ∀ σ' H', Pv n.toNat σ' H' → D.nx σ' H') :
    ∃ j : Int, [V.int n] = [.int j] ∧ -(2 ^ 62) ≤ j ∧ j < 2 ^ 62 ∧ LoopG g tb D σ (Itr 0 j.toNat) H := by
  refine ⟨n, rfl, by omega, by omega, ?_⟩
  refine for_range Pv hp (fun i σ' H' hi p => ?_) hd
  rw [Int.zero_add]
  exact hs i σ' H' (by omega) p
theorem i_catL (h1 : H a = some (.lst xs)) (h2 : H b = some (.lst ys)) (hz : xs.length + ys.length ≤ 100000) (q : ∀ p, H p = none → Q (.ref p) (upd H p (.lst (xs ++ ys)))) : addP K (.ref a) (.ref b) H Q :=
  .inr (.inr (.inl ⟨a, b, xs, ys, rfl, rfl, h1, h2, Nat.le_trans hz (by decide), q⟩))
theorem i_slL {lo hi : Option Int} (h : SqL K H a xs) (q : ∀ p, H p = none → Q (.ref p) (upd H p (.lst (cutV xs lo hi)))) : slP K (.ref a) lo hi H Q := .inl ⟨a, xs, rfl, h, q⟩
theorem cutV_init (xs : List V) : cutV xs none (some (-1)) = xs.dropLast := by
  unfold cutV
  rw [HT.sIx_none, List.drop_zero, Nat.sub_zero, List.dropLast_eq_take]
  have e : HT.sIx xs.length xs.length (some (-1)) = xs.length - 1 := by
    unfold HT.sIx
    dsimp only
    rw [if_pos (by decide)]
    omega
  rw [e]
theorem cutV_to {xs : List V} (k : Nat) : cutV xs none (some (k : Int)) = xs.take k := by
  unfold cutV
  rw [HT.sIx_none, List.drop_zero, Nat.sub_zero, HT.sIx_nat]
  by_cases h : k ≤ xs.length
  · rw [Nat.min_eq_left h]
  · rw [Nat.min_eq_right (by omega), List.take_length, List.take_of_length_le (by omega)]
theorem atI_last {xs : List V} {v : V} : atI (xs ++ [v]) (-1) = some v := by
  unfold atI ixN
  rw [if_neg (by decide), if_pos (by rw [List.length_append, List.length_singleton]; omega), Option.bind_some]
  have e : (-1 + ((xs ++ [v]).length : Int)).toNat = xs.length := by rw [List.length_append, List.length_singleton]; omega
  rw [e, List.getElem?_append_right (Nat.le_refl _), Nat.sub_self]
  rfl
end
end Fg
/-! The reader of rhythm texts, in plain Lean. -/
namespace Fg
open PySem PySem.Spec PyProof.Rows L2
abbrev SG : List Nat := [46, 103, 114, 119]
abbrev DG : List Nat := [48, 49, 50, 51, 52, 53, 54, 55, 56, 57]
def Row (l : List Nat) : Prop := ∀ c ∈ l, c ∈ SG
def rpt (n : Nat) (l : List Nat) : List Nat := (List.replicate n l).flatten
theorem rpt_len (n : Nat) (l : List Nat) : (rpt n l).length = n * l.length := by simp [rpt, List.length_flatten]
theorem rpt_succ (k : Nat) (t : List Nat) : rpt (k + 1) t = t ++ rpt k t := by unfold rpt; rw [List.replicate_succ, List.flatten_cons]
theorem rpt_get : ∀ (k : Nat) (t : List Nat) (j : Nat), j < k * t.length → (rpt k t)[j]? = t[j % t.length]?
  | 0, t, j, h => by rw [Nat.zero_mul] at h; omega
  | k + 1, t, j, h => by
    rw [rpt_succ]
    by_cases hj : j < t.length
    · rw [List.getElem?_append_left hj, Nat.mod_eq_of_lt hj]
    · rw [List.getElem?_append_right (by omega), rpt_get k t (j - t.length) (by rw [Nat.succ_mul] at h; omega)]
      rw [← Nat.mod_eq_sub_mod (by omega)]
/-- the first lit one -/
def firstLit : List Nat → Nat
  | [] => 46
  | c :: r => if c = 46 then firstLit r else c
/-- a stretch as the reader has it -/
def Sv (n : Nat) (r : List Nat) : HO := .tup [.int (n : Int), if n ≤ 24 then S r else .non]
abbrev Stv := Nat × List Nat
def lcmL (ps : List Stv) : Nat := ps.foldl (fun b p => Nat.lcm b p.1) 1
theorem lcmL_snoc (ps : List Stv) (p : Stv) : lcmL (ps ++ [p]) = Nat.lcm (lcmL ps) p.1 := by
  unfold lcmL
  rw [List.foldl_append]
  rfl
def showN (ps : List Stv) (n : Nat) : List Nat := (List.range n).map fun i => firstLit (ps.map fun p => (rpt (n / p.1) p.2).getD i 0)
theorem showN_len (ps : List Stv) (n : Nat) : (showN ps n).length = n := by simp [showN]
theorem dvd_fold (ps : List Stv) : ∀ b, (b ∣ ps.foldl (fun b p => Nat.lcm b p.1) b) ∧ ∀ p ∈ ps, p.1 ∣ ps.foldl (fun b p => Nat.lcm b p.1) b := by
  induction ps with
  | nil => exact fun b => ⟨Nat.dvd_refl _, by simp⟩
  | cons q r ih =>
    intro b
    obtain ⟨h1, h2⟩ := ih (Nat.lcm b q.1)
    refine ⟨Nat.dvd_trans (Nat.dvd_lcm_left _ _) h1, fun p hp => ?_⟩
    rcases List.mem_cons.mp hp with rfl | hp
    · exact Nat.dvd_trans (Nat.dvd_lcm_right _ _) h1
    · exact h2 p hp
theorem dvd_lcmL {ps : List Stv} {p : Stv} (h : p ∈ ps) : p.1 ∣ lcmL ps := (dvd_fold ps 1).2 p h
theorem fold_pos (ps : List Stv) (h : ∀ p ∈ ps, 1 ≤ p.1) : ∀ b, 1 ≤ b → 1 ≤ ps.foldl (fun b p => Nat.lcm b p.1) b := by
  induction ps with
  | nil => exact fun b hb => hb
  | cons q r ih => exact fun b hb => ih (fun p hp => h p (List.mem_cons_of_mem _ hp)) _ (Nat.lcm_pos hb (h q List.mem_cons_self))
theorem lcmL_pos {ps : List Stv} (h : ∀ p ∈ ps, 1 ≤ p.1) : 1 ≤ lcmL ps := fold_pos ps h 1 (Nat.le_refl _)
/-! ### digits -/
def run (z : List Nat) (a : Nat) : List Nat := (z.drop a).takeWhile fun c => decide (c ∈ DG)
def bd (z : List Nat) (a : Nat) : Nat := a + (run z a).length
theorem run_step {z : List Nat} {m c : Nat} (h : z[m]? = some c) (hc : c ∈ DG) : run z m = c :: run z (m + 1) := by
  obtain ⟨hl, rfl⟩ := List.getElem?_eq_some_iff.mp h
  unfold run
  rw [List.drop_eq_getElem_cons hl, List.takeWhile_cons_of_pos (by simpa using hc)]
theorem run_stop {z : List Nat} {m : Nat} (h : ∀ c, z[m]? = some c → c ∉ DG) : run z m = [] := by
  unfold run
  by_cases hl : m < z.length
  · rw [List.drop_eq_getElem_cons hl, List.takeWhile_cons_of_neg (by simpa using h _ (List.getElem?_eq_getElem hl))]
  · rw [List.drop_of_length_le (by omega)]
    rfl
theorem bd_step {z : List Nat} {m c : Nat} (h : z[m]? = some c) (hc : c ∈ DG) : bd z (m + 1) = bd z m := by
  unfold bd
  rw [run_step h hc, List.length_cons]
  omega
theorem bd_stop {z : List Nat} {m : Nat} (h : ∀ c, z[m]? = some c → c ∉ DG) : bd z m = m := by
  unfold bd
  rw [run_stop h]
  rfl
theorem bd_le {z : List Nat} {a : Nat} (h : a ≤ z.length) : bd z a ≤ z.length := by
  unfold bd run
  have := (List.takeWhile_prefix (fun c => decide (c ∈ DG)) (l := z.drop a)).length_le
  rw [List.length_drop] at this
  omega
theorem bd_ge (z : List Nat) (a : Nat) : a ≤ bd z a := Nat.le_add_right _ _
theorem bd_eq {z : List Nat} {a : Nat} : bd z a = a ↔ run z a = [] := by
  unfold bd
  constructor
  · intro h
    exact List.length_eq_zero_iff.mp (by omega)
  · intro h
    rw [h]; rfl
theorem run_digits (z : List Nat) (a : Nat) : ∀ c ∈ run z a, c ∈ DG := fun c hc => by
  unfold run at hc
  generalize z.drop a = l at hc
  induction l with
  | nil => simp at hc
  | cons x r ih =>
    by_cases h : x ∈ DG
    · rw [List.takeWhile_cons_of_pos (by simpa using h)] at hc
      rcases List.mem_cons.mp hc with rfl | hc
      · exact h
      · exact ih hc
    · rw [List.takeWhile_cons_of_neg (by simpa using h)] at hc
      simp at hc
theorem cutN_run {z : List Nat} {a : Nat} (h : a ≤ z.length) : cutN z (some (a : Int)) (some (bd z a : Nat)) = run z a := by
  unfold cutN
  rw [HT.sIx_nat, HT.sIx_nat, Nat.min_eq_left h, Nat.min_eq_left (bd_le h)]
  have e : bd z a - a = (run z a).length := by unfold bd; omega
  rw [e]
  unfold run
  exact (List.prefix_iff_eq_take.mp (List.takeWhile_prefix _)).symm
def num (l : List Nat) : Nat := l.foldl (fun n c => 10 * n + (c - 48)) 0
def within (l : List Nat) (lo hi : Nat) : Bool := decide (1 ≤ l.length) && decide (l.length ≤ 2) && decide (lo ≤ num l) && decide (num l ≤ hi)
theorem within_iff {l : List Nat} {lo hi : Nat} : within l lo hi = true ↔ (1 ≤ l.length ∧ l.length ≤ 2 ∧ lo ≤ num l ∧ num l ≤ hi) := by
  unfold within
  simp only [Bool.and_eq_true, decide_eq_true_eq, and_assoc]
/-! ### the reader -/
abbrev Res := Except Nat (Stv × Nat)
def rep (s : Stv) (t : Nat) : Stv := (s.1 * t, rpt t s.2)
def beh (s u : Stv) : Stv := (s.1 + u.1, s.2 ++ u.2)
def shown (ps : List Stv) : Stv := (lcmL ps, showN ps (lcmL ps))
def fillTo (p : Stv) (b : Nat) : Stv := (b, p.2 ++ List.replicate (b - p.1) 46)
def isStart (c : Nat) : Bool := decide (c ∈ SG) || decide (c ∈ DG)
def timesOf (r : List Nat) : Nat := if r = [] then 1 else num r
def close (z : List Nat) (t : Nat) : Res → Res
  | .error k => .error k
  | .ok (s, e) => if z[e]? = some 41 then .ok (rep s t, e + 1) else .error e
def item (rp : Option (Nat → Res)) (z : List Nat) (a : Nat) : Res :=
  if (run z a).take 1 = [48] then .error a
  else match z[bd z a]? with
    | none => .error (bd z a)
    | some c =>
      if c ∉ SG ∧ c ≠ 40 then .error (bd z a)
      else if run z a ≠ [] ∧ within (run z a) 2 24 = false then .error a
      else if c ≠ 40 then .ok (rep (1, [c]) (timesOf (run z a)), bd z a + 1)
      else match rp with
        | none => .error (bd z a)
        | some f => close z (timesOf (run z a)) (f (bd z a + 1))
def goOn (k : Stv → Nat → Res) : Res → Res
  | .error k => .error k
  | .ok (s, e) => k s e
def items (ri : Nat → Res) (z : List Nat) : Nat → Nat → Stv → Res
  | 0, a, p => .ok (p, a)
  | f + 1, a, p => match z[a]? with
    | none => .ok (p, a)
    | some c => if isStart c = true then goOn (fun s e => items ri z f e (beh p s)) (ri a) else .ok (p, a)
def filled (z : List Nat) (a : Nat) (p : Stv) : Res :=
  if run z a = [] then .error a
  else if (run z a).take 1 = [48] ∨ within (run z a) (max 1 p.1) 24 = false then .error a
  else .ok (fillTo p (num (run z a)), bd z a)
def partEnd (z : List Nat) (p : Stv) (e : Nat) : Res := if p.1 = 0 then .error e else if z[e]? = some 64 then filled z (e + 1) p else .ok (p, e)
def part (ri : Nat → Res) (z : List Nat) (a : Nat) : Res := goOn (partEnd z) (items ri z (z.length + 1 - a) a (0, []))
def more (rq : Nat → Res) (z : List Nat) : Nat → Nat → List Stv → Res
  | 0, a, ps => .ok (shown ps, a)
  | f + 1, a, ps => if z[a]? = some 38 then goOn (fun s e => more rq z f e (ps ++ [s])) (rq (a + 1)) else .ok (shown ps, a)
def parts (ri : Nat → Res) (z : List Nat) (a : Nat) : Res := goOn (fun s e => more (part ri z) z (z.length + 1 - e) e [s]) (part ri z a)
mutual
/-- an item, so many more may be opened -/
def rdItem (z : List Nat) : Nat → Nat → Res
  | 0 => item none z
  | d + 1 => item (some (rd z d)) z
def rd (z : List Nat) : Nat → Nat → Res
  | d => parts (rdItem z d) z
end
/-! ### what the reader hands back is small, and has its length -/
def Gb (s : Stv) (w : Nat) : Prop := s.1 + 1 ≤ 2 ^ (5 * w) ∧ (s.1 ≤ 24 → s.2.length = s.1)
def Gd (z : List Nat) (f : Nat → Res) : Prop := ∀ a s e, a ≤ z.length → f a = .ok (s, e) → a < e ∧ e ≤ z.length ∧ 1 ≤ s.1 ∧ Gb s (e - a)
theorem pow_mono5 {x y : Nat} (h : x ≤ y) : 2 ^ (5 * x) ≤ 2 ^ (5 * y) := Nat.pow_le_pow_right (by decide) (by omega)
theorem pow32 {w : Nat} (h : 1 ≤ w) : 32 ≤ 2 ^ (5 * w) := Nat.le_trans (by decide : 32 ≤ 2 ^ (5 * 1)) (pow_mono5 h)
theorem Gb.small {s : Stv} {w : Nat} (h : s.1 ≤ 24) (hw : 1 ≤ w) (hl : s.2.length = s.1) : Gb s w := ⟨by have := pow32 hw; omega, fun _ => hl⟩
theorem Gb.beh {p s : Stv} {x y : Nat} (hp : Gb p x) (hs : Gb s y) : Gb (beh p s) (x + y) := by
  refine ⟨?_, fun h => ?_⟩
  · show p.1 + s.1 + 1 ≤ _
    rw [Nat.mul_add, Nat.pow_add]
    refine Nat.le_trans ?_ (Nat.mul_le_mul hp.1 hs.1)
    rw [Nat.add_mul, Nat.mul_add]
    omega
  · have h : p.1 + s.1 ≤ 24 := h
    show (p.2 ++ s.2).length = p.1 + s.1
    rw [List.length_append, hp.2 (by omega), hs.2 (by omega)]
theorem Gb.rep {s : Stv} {x y t : Nat} (hs : Gb s x) (h1 : 1 ≤ s.1) (t1 : 1 ≤ t) (t2 : t ≤ 24) (hy : x + 1 ≤ y) : Gb (rep s t) y := by
  refine ⟨?_, fun h => ?_⟩
  · show s.1 * t + 1 ≤ _
    refine Nat.le_trans ?_ (pow_mono5 hy)
    rw [Nat.mul_add, Nat.pow_add]
    have := Nat.mul_le_mul hs.1 (show 24 ≤ 2 ^ (5 * 1) by decide)
    have h2 : s.1 * t ≤ s.1 * 24 := Nat.mul_le_mul_left _ t2
    omega
  · have h : s.1 * t ≤ 24 := h
    have : s.1 ≤ s.1 * t := Nat.le_mul_of_pos_right _ t1
    show (rpt t s.2).length = s.1 * t
    rw [rpt_len, hs.2 (by omega), Nat.mul_comm]
theorem times_ok {r : List Nat} (h : ¬ (r ≠ [] ∧ within r 2 24 = false)) : 1 ≤ timesOf r ∧ timesOf r ≤ 24 ∧ (r ≠ [] → 1 ≤ r.length) := by
  unfold timesOf
  by_cases e : r = []
  · rw [if_pos e]; exact ⟨by decide, by decide, fun z => absurd e z⟩
  · rw [if_neg e]
    have : within r 2 24 = true := by
      cases hw : within r 2 24 with
      | true => rfl
      | false => exact absurd ⟨e, hw⟩ h
    have := within_iff.mp this
    exact ⟨by omega, this.2.2.2, fun _ => this.1⟩
theorem item_gd {z : List Nat} {rp : Option (Nat → Res)} (hp : ∀ f, rp = some f → Gd z f) : Gd z (item rp z) := by
  intro a s e ha h
  unfold item at h
  split at h
  · cases h
  · split at h
    · cases h
    · rename_i c hc
      have hl := (List.getElem?_eq_some_iff.mp hc).1
      have hb := bd_ge z a
      split at h
      · cases h
      · split at h
        · cases h
        · rename_i ht
          obtain ⟨t1, t2, t3⟩ := times_ok ht
          split at h
          · cases h
            refine ⟨by omega, by omega, ?_, ?_⟩
            · show 1 ≤ 1 * _; omega
            · refine Gb.small (by show 1 * _ ≤ 24; omega) (by omega) ?_
              show (rpt _ [c]).length = 1 * _
              rw [rpt_len, List.length_singleton]; omega
          · split at h
            · cases h
            · rename_i f
              have g := hp f rfl
              unfold close at h
              split at h
              · cases h
              · rename_i s' e' hf
                obtain ⟨g1, g2, g3, g4⟩ := g _ _ _ (by omega) hf
                split at h
                · rename_i h41
                  have := (List.getElem?_eq_some_iff.mp h41).1
                  cases h
                  refine ⟨by omega, by omega, Nat.mul_pos g3 t1, g4.rep g3 t1 t2 (by omega)⟩
                · cases h
theorem items_gd {z : List Nat} {ri : Nat → Res} (hi : Gd z ri) {a0 : Nat} : ∀ (f a : Nat) (p s : Stv) (e : Nat), a0 ≤ a → a ≤ z.length → Gb p (a - a0) → items ri z f a p = .ok (s, e) → a ≤ e ∧ e ≤ z.length ∧ Gb s (e - a0) ∧ (s.1 = 0 ∨ a < e ∨ s = p)
  | 0, a, p, s, e, h0, ha, hp, h => by
    unfold items at h
    cases h
    exact ⟨by omega, ha, hp, .inr (.inr rfl)⟩
  | f + 1, a, p, s, e, h0, ha, hp, h => by
    unfold items at h
    split at h
    · cases h
      exact ⟨by omega, ha, hp, .inr (.inr rfl)⟩
    · split at h
      · unfold goOn at h
        split at h
        · cases h
        · rename_i s' e' hf
          obtain ⟨g1, g2, g3, g4⟩ := hi _ _ _ ha hf
          have := items_gd hi (a0 := a0) f e' (beh p s') s e (by omega) g2 (by
            have := hp.beh g4
            rw [show a - a0 + (e' - a) = e' - a0 by omega] at this
            exact this) h
          exact ⟨by omega, this.2.1, this.2.2.1, .inr (.inl (by omega))⟩
      · cases h
        exact ⟨by omega, ha, hp, .inr (.inr rfl)⟩
theorem filled_gd {z : List Nat} {a e : Nat} {p s : Stv} (ha : a ≤ z.length) (hp : p.1 ≤ 24 → p.2.length = p.1) (h : filled z a p = .ok (s, e)) : a < e ∧ e ≤ z.length ∧ 1 ≤ s.1 ∧ s.1 ≤ 24 ∧ s.2.length = s.1 := by
  unfold filled at h
  split at h
  · cases h
  · rename_i hr
    split at h
    · cases h
    · rename_i hw
      have : within (run z a) (max 1 p.1) 24 = true := by
        cases hc : within (run z a) (max 1 p.1) 24 with
        | true => rfl
        | false => exact absurd (.inr hc) hw
      obtain ⟨w1, w2, w3, w4⟩ := within_iff.mp this
      cases h
      refine ⟨by unfold bd; omega, bd_le ha, by show 1 ≤ num _; omega, w4, ?_⟩
      show (p.2 ++ List.replicate _ 46).length = num _
      rw [List.length_append, List.length_replicate, hp (by omega)]
      omega
theorem part_gd {z : List Nat} {ri : Nat → Res} (hi : Gd z ri) : Gd z (part ri z) := by
  intro a s e ha h
  unfold part goOn at h
  split at h
  · cases h
  · rename_i p e' hf
    obtain ⟨g1, g2, g3, g4⟩ := items_gd hi (a0 := a) _ a (0, []) p e' (Nat.le_refl _) ha ⟨by rw [Nat.sub_self]; decide, fun _ => rfl⟩ hf
    unfold partEnd at h
    split at h
    · cases h
    · rename_i hp0
      have hlt : a < e' := by
        rcases g4 with g | g | g
        · exact absurd g hp0
        · exact g
        · rw [g] at hp0; exact absurd rfl hp0
      split at h
      · rename_i h64
        have := (List.getElem?_eq_some_iff.mp h64).1
        obtain ⟨f1, f2, f3, f4, f5⟩ := filled_gd (by omega) g3.2 h
        exact ⟨by omega, f2, f3, Gb.small f4 (by omega) f5⟩
      · cases h
        exact ⟨hlt, g2, by omega, g3⟩
def Gps (ps : List Stv) (w : Nat) : Prop := lcmL ps + 1 ≤ 2 ^ (5 * w) ∧ ∀ p ∈ ps, 1 ≤ p.1 ∧ (p.1 ≤ 24 → p.2.length = p.1)
theorem lcm_le_mul {a b : Nat} (ha : 1 ≤ a) (hb : 1 ≤ b) : Nat.lcm a b ≤ a * b := Nat.le_of_dvd (Nat.mul_pos ha hb) (Nat.lcm_dvd_mul a b)
theorem Gps.snoc {ps : List Stv} {s : Stv} {x y : Nat} (h : Gps ps x) (h1 : 1 ≤ s.1) (hs : Gb s y) : Gps (ps ++ [s]) (x + y) := by
  refine ⟨?_, fun p hp => ?_⟩
  · rw [lcmL_snoc, Nat.mul_add, Nat.pow_add]
    refine Nat.le_trans ?_ (Nat.mul_le_mul h.1 hs.1)
    have := lcm_le_mul (lcmL_pos fun p hp => (h.2 p hp).1) h1
    rw [Nat.add_mul, Nat.mul_add]
    omega
  · rcases List.mem_append.mp hp with hp | hp
    · exact h.2 p hp
    · rw [List.mem_singleton.mp hp]; exact ⟨h1, hs.2⟩
theorem Gps.shown {ps : List Stv} {w : Nat} (h : Gps ps w) : 1 ≤ (shown ps).1 ∧ Gb (shown ps) w :=
  ⟨lcmL_pos fun p hp => (h.2 p hp).1, h.1, fun _ => showN_len _ _⟩
theorem Gps.one {s : Stv} {w : Nat} (h1 : 1 ≤ s.1) (h : Gb s w) : Gps [s] w := by
  refine ⟨?_, fun p hp => ?_⟩
  · show Nat.lcm 1 s.1 + 1 ≤ _
    rw [show Nat.lcm 1 s.1 = s.1 by simp [Nat.lcm]]; exact h.1
  · rw [List.mem_singleton.mp hp]; exact ⟨h1, h.2⟩
theorem Gps.mono {ps : List Stv} {x y : Nat} (h : Gps ps x) (e : x ≤ y) : Gps ps y := ⟨Nat.le_trans h.1 (pow_mono5 e), h.2⟩
theorem more_gd {z : List Nat} {rq : Nat → Res} (hi : Gd z rq) {a0 : Nat} : ∀ (f a : Nat) (ps : List Stv) (s : Stv) (e : Nat), a0 ≤ a → a ≤ z.length → Gps ps (a - a0) → more rq z f a ps = .ok (s, e) → a ≤ e ∧ e ≤ z.length ∧ 1 ≤ s.1 ∧ Gb s (e - a0)
  | 0, a, ps, s, e, h0, ha, hp, h => by
    unfold more at h
    cases h
    exact ⟨by omega, ha, hp.shown⟩
  | f + 1, a, ps, s, e, h0, ha, hp, h => by
    unfold more at h
    split at h
    · rename_i h38
      have hl := (List.getElem?_eq_some_iff.mp h38).1
      unfold goOn at h
      split at h
      · cases h
      · rename_i s' e' hf
        obtain ⟨g1, g2, g3, g4⟩ := hi _ _ _ (by omega) hf
        have := more_gd hi (a0 := a0) f e' (ps ++ [s']) s e (by omega) g2 ((hp.snoc g3 g4).mono (by omega)) h
        exact ⟨by omega, this.2⟩
    · cases h
      exact ⟨by omega, ha, hp.shown⟩
theorem parts_gd {z : List Nat} {ri : Nat → Res} (hi : Gd z ri) : Gd z (parts ri z) := by
  intro a s e ha h
  unfold parts goOn at h
  split at h
  · cases h
  · rename_i s' e' hf
    obtain ⟨g1, g2, g3, g4⟩ := part_gd hi _ _ _ ha hf
    have := more_gd (part_gd hi) (a0 := a) _ e' [s'] s e (by omega) g2 (Gps.one g3 g4) h
    exact ⟨by omega, this.2⟩
theorem rdItem_zero (z : List Nat) : rdItem z 0 = item none z := by unfold rdItem; rfl
theorem rdItem_succ (z : List Nat) (d : Nat) : rdItem z (d + 1) = item (some (rd z d)) z := by conv => lhs; unfold rdItem
theorem rd_eq (z : List Nat) (d : Nat) : rd z d = parts (rdItem z d) z := by unfold rd; rfl
theorem rdItem_gd (z : List Nat) : ∀ d, Gd z (rdItem z d)
  | 0 => by rw [rdItem_zero]; exact item_gd fun f e => nomatch e
  | d + 1 => by
    rw [rdItem_succ]
    refine item_gd fun f e => ?_
    cases e
    rw [rd_eq]
    exact parts_gd (rdItem_gd z d)
theorem rd_gd (z : List Nat) (d : Nat) : Gd z (rd z d) := by rw [rd_eq]; exact parts_gd (rdItem_gd z d)
end Fg
/-! What the walk of the reader asks. -/
namespace Fg
open PySem PySem.Spec PyProof.Rows L2
theorem range_getD_map {α β : Type} (xs : List α) (d : α) (g : α → β) : (List.range xs.length).map (fun i => g (xs.getD i d)) = xs.map g := by
  refine List.ext_getElem? fun i => ?_
  rw [List.getElem?_map, List.getElem?_map]
  by_cases h : i < xs.length
  · rw [List.getElem?_range h, Option.map_some, List.getD_eq_getElem?_getD, List.getElem?_eq_getElem h]
    rfl
  · rw [List.getElem?_eq_none (by simpa using h), List.getElem?_eq_none (by omega)]
    rfl
def PartsAt (H : Hp) (qs : List Addr) (ps : List Stv) : Prop := qs.length = ps.length ∧ ∀ (i : Nat) (q : Addr) (p : Stv), qs[i]? = some q → ps[i]? = some p → H q = some (Sv p.1 p.2)
theorem PartsAt.mono {H H' : Hp} {qs : List Addr} {ps : List Stv} (h : PartsAt H qs ps) (s : Same H H') : PartsAt H' qs ps := ⟨h.1, fun i q p a b => s _ _ (h.2 i q p a b)⟩
/-- below some thousand bits -/
def Big (n : Nat) : Prop := n < 2 ^ 8600
theorem Big.le {n m : Nat} (h : Big n) (e : m ≤ n) : Big m := Nat.lt_of_le_of_lt e h
theorem Big.div {n : Nat} {a : Int} (h : Big n) (h0 : (0 : Int) < (n : Int)) : CDivW a (n : Int) := wide_div (b := 8600) h0 (by rw [Int.natAbs_natCast]; exact h) (by decide) (by decide)
theorem Big.mul {n m : Nat} (h : Big n) (h' : Big m) : IntMulOk (n : Int) (m : Int) := CMulW.ok (wide_mul (a := 8600) (b := 8600) (by rw [Int.natAbs_natCast]; exact h) (by rw [Int.natAbs_natCast]; exact h') (by decide) (by decide) (by decide))
theorem Gb.big {s : Stv} {w : Nat} (h : Gb s w) (hw : w ≤ 1700) : Big s.1 := Nat.lt_of_lt_of_le (Nat.lt_of_lt_of_le (Nat.lt_succ_self _) h.1) (Nat.pow_le_pow_right (by decide) (by omega))
theorem Gps.big {ps : List Stv} {w : Nat} (h : Gps ps w) (hw : w ≤ 1700) : Big (lcmL ps) := Nat.lt_of_lt_of_le (Nat.lt_of_lt_of_le (Nat.lt_succ_self _) h.1) (Nat.pow_le_pow_right (by decide) (by omega))
theorem lcmL_take {ps : List Stv} (h : ∀ p ∈ ps, 1 ≤ p.1) (i : Nat) : lcmL (ps.take i) ≤ lcmL ps := by
  refine Nat.le_of_dvd (lcmL_pos h) ?_
  conv => rhs; rw [← List.take_append_drop i ps]
  unfold lcmL
  rw [List.foldl_append]
  exact (dvd_fold _ _).1
/-- int(text) -/
def rIntTx : RC := fun xs H Q => ∃ a n, xs = [.str a] ∧ PySem.intText? a = some n ∧ a.length ≤ 640 ∧ Q (.int n) H
theorem call_intTx {X : Cx} : CallR X (.type "int") rIntTx := call_int_str
theorem int1 : ∀ c ∈ DG, PySem.intText? ⟨#[c]⟩ = some ((num [c] : Nat) : Int) := by decide +kernel
theorem int2 : ∀ c ∈ DG, ∀ d ∈ DG, PySem.intText? ⟨#[c, d]⟩ = some ((num [c, d] : Nat) : Int) := by decide +kernel
theorem i_intTx {r : List Nat} {H : Hp} {Q : VK} (h1 : 1 ≤ r.length) (h2 : r.length ≤ 2) (hd : ∀ c ∈ r, c ∈ DG) (q : Q (.int ((num r : Nat) : Int)) H) : rIntTx [S r] H Q := by
  match r, h1, h2, hd, q with
  | [c], _, _, hd, q => exact ⟨_, _, rfl, int1 c (hd c (by simp)), (show 1 ≤ 640 by omega), q⟩
  | [c, d], _, _, hd, q => exact ⟨_, _, rfl, int2 c (hd c (by simp)) d (hd d (by simp)), (show 2 ≤ 640 by omega), q⟩
/-- str(int), of small ones -/
def dec (n : Nat) : List Nat := if n < 10 then [48 + n] else [48 + n / 10, 48 + n % 10]
theorem dec_str : ∀ n : Nat, n < 100 → (toString (n : Int) : Str) = ⟨(dec n).toArray⟩ := by decide +kernel
def rStrS : RC := fun xs H Q => ∃ n : Nat, xs = [.int (n : Int)] ∧ n < 100 ∧ Q (S (dec n)) H
theorem call_strS {X : Cx} : CallR X (.type "str") rStrS := by
  intro pins s σ H xs us Q I rs h
  obtain ⟨n, rfl, hn, q⟩ := h
  refine call_str_int pins s σ H _ us Q I rs ⟨(n : Int), rfl, ?_, ?_⟩
  · have : (n : Int).natAbs = n := Int.natAbs_natCast n
    rw [this]
    by_cases h0 : n = 0
    · subst h0; decide
    · exact Nat.lt_trans ((Nat.log2_lt h0).mpr (Nat.lt_trans hn (by decide : 100 < 2 ^ 7))) (by decide)
  · have e : V.str (toString (n : Int)) = S (dec n) := by unfold S; rw [dec_str n hn]
    rw [e]; exact q
def rpOf (z : List Nat) : Nat → Option (Nat → Res)
  | 0 => none
  | d + 1 => some (rd z d)
theorem rdItem_item (z : List Nat) (d : Nat) : rdItem z d = item (rpOf z d) z := by
  cases d with
  | zero => exact rdItem_zero z
  | succ d => exact rdItem_succ z d
/-- what is no string -/
def NoStr (H : Hp) (x : V) : Prop := x = .non ∨ (∃ b, x = .bl b) ∨ (∃ i, x = .int i) ∨ ∃ a xs, x = .ref a ∧ (H a = some (.tup xs) ∨ H a = some (.lst xs))
theorem NoStr.mono {H H' : Hp} {x : V} (h : NoStr H x) (s : Same H H') : NoStr H' x := by
  rcases h with h | h | h | ⟨a, xs, h, h2⟩
  · exact .inl h
  · exact .inr (.inl h)
  · exact .inr (.inr (.inl h))
  · exact .inr (.inr (.inr ⟨a, xs, h, h2.imp (s _ _) (s _ _)⟩))
end Fg
/-! A reader with a stack, and that it reads as the other. -/
namespace Fg
open PySem PySem.Spec PyProof.Rows L2
inductive Fin where
  | bad (k : Nat)
  | done (s : Stv)
abbrev Fr := Nat × List Stv × Stv
def lclose (st : List Fr) (ps : List Stv) (p : Stv) (c : Nat) : Option (List Fr × List Stv × Stv) :=
  if p.1 = 0 ∨ (c = 41 ∧ st = []) then none
  else if c = 38 then some (st, ps ++ [p], (0, []))
  else match st with
    | [] => none
    | (t, ps', p') :: rest => some (rest, ps', beh p' (rep (shown (ps ++ [p])) t))
def lfill (p : Stv) (r : List Nat) : Option Stv := if r.take 1 = [48] ∨ within r (max 1 p.1) 24 = false then none else some (fillTo p (num r))
abbrev OPS : List Nat := [46, 103, 114, 119, 40]
/-- none: wrong; some none: what follows is wrong -/
def ltimes (r : List Nat) (h : Option Nat) : Option (Option Nat) :=
  if r = [] then some (some 1)
  else if r.take 1 = [48] then none
  else if (match h with | none => true | some c => !decide (c ∈ OPS)) = true then some none
  else if within r 2 24 = false then none
  else some (some (num r))
def lread (z : List Nat) : Nat → List Fr → List Stv → Stv → Bool → Nat → Fin
  | 0, _, _, _, _, _ => .bad 0
  | f + 1, st, ps, p, fl, a =>
    match z[a]? with
    | none => if p.1 = 0 ∨ st ≠ [] then .bad z.length else .done (shown (ps ++ [p]))
    | some c =>
      if c = 38 ∨ c = 41 then
        match lclose st ps p c with
        | none => .bad a
        | some (st', ps', p') => lread z f st' ps' p' false (a + 1)
      else if c = 64 then
        if fl = true ∨ p.1 = 0 then .bad a
        else if run z (a + 1) = [] then .bad (a + 1)
        else match lfill p (run z (a + 1)) with
          | none => .bad (a + 1)
          | some p' => lread z f st ps p' true (bd z (a + 1))
      else if fl = true then .bad a
      else match ltimes (run z a) z[bd z a]? with
        | none => .bad a
        | some none => .bad (bd z a)
        | some (some t) => match z[bd z a]? with
          | none => .bad (bd z a)
          | some h =>
            if h ∉ OPS ∨ (h = 40 ∧ (run z a = [] ∨ st.length = 6)) then .bad (bd z a)
            else if h = 40 then lread z f ((t, ps, p) :: st) [] (0, []) false (bd z a + 1)
            else lread z f st ps (beh p (rep (1, [h]) t)) false (bd z a + 1)
/-! ### the other one, by what follows -/
theorem items_fuel {z : List Nat} {ri : Nat → Res} (hi : Gd z ri) : ∀ (f f' a : Nat) (p : Stv), a ≤ z.length → z.length + 1 ≤ f + a → z.length + 1 ≤ f' + a → items ri z f a p = items ri z f' a p
  | 0, _, a, _, ha, h, _ => by omega
  | _ + 1, 0, a, _, ha, _, h => by omega
  | f + 1, f' + 1, a, p, ha, h, h' => by
    unfold items
    split
    · rfl
    · split
      · cases hr : ri a with
        | error k => rfl
        | ok se =>
          obtain ⟨s, e⟩ := se
          obtain ⟨g1, g2, _, _⟩ := hi a s e ha hr
          exact items_fuel hi f f' e (beh p s) g2 (by omega) (by omega)
      · rfl
theorem more_fuel {z : List Nat} {rq : Nat → Res} (hi : Gd z rq) : ∀ (f f' a : Nat) (ps : List Stv), a ≤ z.length → z.length + 1 ≤ f + a → z.length + 1 ≤ f' + a → more rq z f a ps = more rq z f' a ps
  | 0, _, a, _, ha, h, _ => by omega
  | _ + 1, 0, a, _, ha, _, h => by omega
  | f + 1, f' + 1, a, ps, ha, h, h' => by
    unfold more
    split
    · rename_i h38
      have hl := (List.getElem?_eq_some_iff.mp h38).1
      cases hr : rq (a + 1) with
      | error k => rfl
      | ok se =>
        obtain ⟨s, e⟩ := se
        obtain ⟨g1, g2, _, _⟩ := hi (a + 1) s e (by omega) hr
        exact more_fuel hi f f' e (ps ++ [s]) g2 (by omega) (by omega)
    · rfl
theorem items_succ (ri : Nat → Res) (z : List Nat) (f a : Nat) (p : Stv) : items ri z (f + 1) a p = match z[a]? with
    | none => .ok (p, a)
    | some c => if isStart c = true then goOn (fun s e => items ri z f e (beh p s)) (ri a) else .ok (p, a) := by
  conv => lhs; unfold items
  try (generalize z[a]? = o; cases o <;> rfl)
theorem more_succ (rq : Nat → Res) (z : List Nat) (f a : Nat) (ps : List Stv) : more rq z (f + 1) a ps = if z[a]? = some 38 then goOn (fun s e => more rq z f e (ps ++ [s])) (rq (a + 1)) else .ok (shown ps, a) := by
  conv => lhs; unfold more
  try rfl
def F (z : List Nat) (a : Nat) : Nat := z.length + 1 - a
def rItems (z : List Nat) (d a : Nat) (p : Stv) : Res := items (rdItem z d) z (F z a) a p
def rMore (z : List Nat) (d a : Nat) (ps : List Stv) : Res := more (Fg.part (rdItem z d) z) z (F z a) a ps
theorem rItems_eq {z : List Nat} {d a : Nat} {p : Stv} (ha : a ≤ z.length) : rItems z d a p = match z[a]? with
    | none => .ok (p, a)
    | some c => if isStart c = true then goOn (fun s e => rItems z d e (beh p s)) (rdItem z d a) else .ok (p, a) := by
  have e : F z a = z.length - a + 1 := by unfold F; omega
  unfold rItems
  rw [e, items_succ]
  cases hz : z[a]? with
  | none => rfl
  | some c =>
    dsimp only
    by_cases hs : isStart c = true
    · rw [if_pos hs, if_pos hs]
      cases hr : rdItem z d a with
      | error k => rfl
      | ok se =>
        obtain ⟨s, e'⟩ := se
        obtain ⟨g1, g2, _, _⟩ := rdItem_gd z d a s e' ha hr
        exact items_fuel (rdItem_gd z d) (z.length - a) (F z e') e' _ g2 (by omega) (by unfold F; omega)
    · rw [if_neg hs, if_neg hs]
theorem rMore_eq {z : List Nat} {d a : Nat} {ps : List Stv} (ha : a ≤ z.length) : rMore z d a ps = if z[a]? = some 38 then goOn (fun s e => rMore z d e (ps ++ [s])) (Fg.part (rdItem z d) z (a + 1)) else .ok (shown ps, a) := by
  have e : F z a = z.length - a + 1 := by unfold F; omega
  unfold rMore
  rw [e, more_succ]
  by_cases hs : z[a]? = some 38
  · rw [if_pos hs, if_pos hs]
    have hl := (List.getElem?_eq_some_iff.mp hs).1
    cases hr : Fg.part (rdItem z d) z (a + 1) with
    | error k => rfl
    | ok se =>
      obtain ⟨s, e'⟩ := se
      obtain ⟨g1, g2, _, _⟩ := part_gd (rdItem_gd z d) (a + 1) s e' (by omega) hr
      exact more_fuel (part_gd (rdItem_gd z d)) (z.length - a) (F z e') e' _ g2 (by omega) (by unfold F; omega)
  · rw [if_neg hs, if_neg hs]
theorem rPart_eq (z : List Nat) (d a : Nat) : Fg.part (rdItem z d) z a = goOn (partEnd z) (rItems z d a (0, [])) := rfl
theorem rd_more (z : List Nat) (d a : Nat) : rd z d a = goOn (fun s e => rMore z d e [s]) (Fg.part (rdItem z d) z a) := by rw [rd_eq]; rfl
def kEnd (k : Stv → Nat → Fin) : Res → Fin
  | .error j => .bad j
  | .ok (s, e) => k s e
theorem kEnd_goOn (k : Stv → Nat → Fin) (g : Stv → Nat → Res) (r : Res) : kEnd k (goOn g r) = kEnd (fun s e => kEnd k (g s e)) r := by
  cases r with
  | error j => rfl
  | ok se => obtain ⟨s, e⟩ := se; rfl
/-- what follows the end of parts, under so many openings -/
def kP (z : List Nat) : List Fr → Stv → Nat → Fin
  | [], s, e => if e < z.length then .bad e else .done s
  | (t, ps, p) :: rest, s, e => if z[e]? = some 41 then
      kEnd (fun s' e' => kEnd (fun s'' e'' => kEnd (kP z rest) (rMore z (6 - rest.length) e'' (ps ++ [s'']))) (partEnd z s' e')) (rItems z (6 - rest.length) (e + 1) (beh p (rep s t)))
    else .bad e
def kM (z : List Nat) (st : List Fr) (ps : List Stv) (s : Stv) (e : Nat) : Fin := kEnd (kP z st) (rMore z (6 - st.length) e (ps ++ [s]))
def kI (z : List Nat) (st : List Fr) (ps : List Stv) (r : Res) : Fin := kEnd (fun s e => kEnd (kM z st ps) (partEnd z s e)) r
theorem kP_cons (z : List Nat) (t : Nat) (ps : List Stv) (p : Stv) (rest : List Fr) (s : Stv) (e : Nat) : kP z ((t, ps, p) :: rest) s e = if z[e]? = some 41 then kI z rest ps (rItems z (6 - rest.length) (e + 1) (beh p (rep s t))) else .bad e := rfl
theorem kP_stop (z : List Nat) (st : List Fr) (s : Stv) (a : Nat) (hl : a < z.length) (h : z[a]? ≠ some 41) : kP z st s a = .bad a := by
  match st with
  | [] => exact if_pos hl
  | (t, ps, p) :: rest => rw [kP_cons, if_neg h]
theorem kM_stop (z : List Nat) (st : List Fr) (ps : List Stv) (s : Stv) (a : Nat) (hl : a < z.length) (h : z[a]? ≠ some 41) (h' : z[a]? ≠ some 38) : kM z st ps s a = .bad a := by
  unfold kM
  rw [rMore_eq (by omega), if_neg h']
  exact kP_stop z st _ a hl h
theorem lread_both (z : List Nat) : ∀ (n : Nat) (st : List Fr) (ps : List Stv) (p : Stv) (a f : Nat), z.length - a ≤ n → a ≤ z.length → st.length ≤ 6 → z.length + 1 ≤ f + a →
    (lread z f st ps p false a = kI z st ps (rItems z (6 - st.length) a p)) ∧ (p.1 ≠ 0 → lread z f st ps p true a = kM z st ps p a) := by
  intro n
  induction n with
  | zero =>
    intro st ps p a f hn ha hst hf
    have e : a = z.length := by omega
    subst e
    have hz : z[z.length]? = none := List.getElem?_eq_none (Nat.le_refl _)
    obtain ⟨f', rfl⟩ : ∃ f', f = f' + 1 := ⟨f - 1, by omega⟩
    have two : p.1 ≠ 0 → ∀ fl, lread z (f' + 1) st ps p fl z.length = kM z st ps p z.length := fun hp fl => by
      unfold lread kM
      rw [rMore_eq ha, hz, if_neg (show ¬ ((none : Option Nat) = some 38) by simp)]
      dsimp only [kEnd]
      match st with
      | [] => rw [if_neg (by simp [hp])]; show _ = kP z [] _ _; unfold kP; rw [if_neg (Nat.lt_irrefl _)]
      | (t, ps', p') :: rest => rw [if_pos (by simp), kP_cons, hz, if_neg (by simp)]
    refine ⟨?_, fun hp => two hp true⟩
    rw [rItems_eq ha, hz]
    dsimp only
    unfold kI
    dsimp only [kEnd]
    unfold partEnd
    by_cases hp : p.1 = 0
    · rw [if_pos hp]
      unfold lread
      rw [hz]
      dsimp only [kEnd]
      rw [if_pos (.inl hp)]
    · rw [if_neg hp, hz, if_neg (by simp)]
      exact two hp false
  | succ n ih =>
    intro st ps p a f hn ha hst hf
    by_cases hl : a < z.length
    case neg => exact ih st ps p a f (by omega) ha hst hf
    obtain ⟨f', rfl⟩ : ∃ f', f = f' + 1 := ⟨f - 1, by omega⟩
    have hz : z[a]? = some z[a] := List.getElem?_eq_getElem hl
    generalize z[a] = c at hz
    -- & and )
    have amp : p.1 ≠ 0 → c = 38 ∨ c = 41 → ∀ fl, lread z (f' + 1) st ps p fl a = kM z st ps p a := fun hp hc fl => by
      unfold lread kM
      rw [rMore_eq ha, hz]
      dsimp only
      rw [if_pos hc]
      unfold lclose
      rcases hc with rfl | rfl
      · rw [if_neg (by simp [hp]), if_pos rfl, if_pos rfl]
        dsimp only
        rw [(ih st (ps ++ [p]) (0, []) (a + 1) f' (by omega) (by omega) hst (by omega)).1, kEnd_goOn, rPart_eq, kEnd_goOn]
        rfl
      · rw [if_neg (show ¬ (some 41 = some 38) by decide)]
        match st with
        | [] => rw [if_pos (.inr ⟨rfl, rfl⟩)]; show _ = kP z [] _ _; unfold kP; rw [if_pos hl]
        | (t, ps', p') :: rest =>
          rw [if_neg (by simp [hp]), if_neg (by decide)]
          dsimp only [kEnd]
          rw [kP_cons, hz, if_pos rfl]
          exact (ih rest ps' _ (a + 1) f' (by omega) (by omega) (by simp at hst; omega) (by omega)).1
    have pe : p.1 = 0 → partEnd z p a = .error a := fun hp => if_pos hp
    have pe2 : p.1 ≠ 0 → c ≠ 64 → partEnd z p a = .ok (p, a) := fun hp hc => by
      unfold partEnd
      rw [if_neg hp, hz, if_neg (fun e => hc (Option.some.inj e))]
    constructor
    · rw [rItems_eq ha, hz]
      dsimp only
      by_cases hc : c = 38 ∨ c = 41
      · have ns : ¬ isStart c = true := by rcases hc with rfl | rfl <;> decide
        rw [if_neg ns]
        show _ = kEnd (kM z st ps) (partEnd z p a)
        by_cases hp : p.1 = 0
        · rw [pe hp]
          unfold lread
          rw [hz]
          dsimp only
          rw [if_pos hc]
          unfold lclose
          rw [if_pos (.inl hp)]
          rfl
        · rw [pe2 hp (by rcases hc with rfl | rfl <;> decide)]
          exact amp hp hc false
      by_cases h64 : c = 64
      · subst h64
        rw [if_neg (by decide)]
        show _ = kEnd (kM z st ps) (partEnd z p a)
        unfold lread
        rw [hz]
        dsimp only
        rw [if_neg hc, if_pos rfl]
        by_cases hp : p.1 = 0
        · rw [if_pos (.inr hp), pe hp]
          rfl
        · rw [if_neg (by simp [hp])]
          unfold partEnd
          rw [if_neg hp, hz, if_pos rfl]
          unfold filled
          by_cases hr : run z (a + 1) = []
          · rw [if_pos hr, if_pos hr]
            rfl
          · rw [if_neg hr, if_neg hr]
            unfold lfill
            by_cases hw : (run z (a + 1)).take 1 = [48] ∨ within (run z (a + 1)) (max 1 p.1) 24 = false
            · rw [if_pos hw, if_pos hw]
              rfl
            · rw [if_neg hw, if_neg hw]
              have : within (run z (a + 1)) (max 1 p.1) 24 = true := by
                cases hx : within (run z (a + 1)) (max 1 p.1) 24 with
                | true => rfl
                | false => exact absurd (.inr hx) hw
              obtain ⟨w1, w2, w3, w4⟩ := within_iff.mp this
              have g := bd_ge z (a + 1)
              exact (ih st ps (fillTo p (num (run z (a + 1)))) (bd z (a + 1)) f' (by omega) (bd_le (by omega)) hst (by omega)).2 (by show num _ ≠ 0; omega)
      · unfold lread
        rw [hz]
        dsimp only
        rw [if_neg hc, if_neg h64, if_neg (by decide)]
        have stop : isStart c ≠ true → kI z st ps (.ok (p, a)) = .bad a := fun hs => by
          show kEnd (kM z st ps) (partEnd z p a) = _
          by_cases hp : p.1 = 0
          · rw [pe hp]; rfl
          · rw [pe2 hp h64]
            exact kM_stop z st ps p a hl (by rw [hz]; exact fun e => hc (.inr (Option.some.inj e))) (by rw [hz]; exact fun e => hc (.inl (Option.some.inj e)))
        by_cases hd : c ∈ DG
        case neg =>
          have r0 : run z a = [] := run_stop fun c' h' => by rw [hz] at h'; cases h'; exact hd
          have b0 : bd z a = a := bd_eq.mpr r0
          rw [r0, b0, hz]
          unfold ltimes
          rw [if_pos rfl]
          dsimp only
          by_cases hs : c ∈ SG
          · have st1 : isStart c = true := by unfold isStart; rw [decide_eq_true hs]; rfl
            have n40 : c ≠ 40 := fun e => by subst e; revert hs; decide
            have io : c ∈ OPS := by
              simp only [List.mem_cons, List.not_mem_nil, or_false] at hs ⊢
              omega
            rw [if_pos st1, if_neg (by simp [io, n40]), if_neg n40]
            rw [rdItem_item]
            unfold item
            rw [r0, b0, hz, if_neg (by simp)]
            dsimp only
            rw [if_neg (by simp [hs]), if_neg (by simp), if_pos n40]
            exact (ih st ps _ (a + 1) f' (by omega) (by omega) hst (by omega)).1
          · have st0 : isStart c ≠ true := by unfold isStart; rw [decide_eq_false hs, decide_eq_false hd]; decide
            rw [if_neg st0, stop st0]
            by_cases h40 : c = 40
            · rw [if_pos (.inr ⟨h40, .inl rfl⟩)]
            · have io : c ∉ OPS := by
                simp only [List.mem_cons, List.not_mem_nil, or_false] at hs ⊢
                omega
              rw [if_pos (.inl io)]
        · have st1 : isStart c = true := by unfold isStart; rw [decide_eq_true hd, Bool.or_true]
          have r1 : run z a ≠ [] := by rw [run_step hz hd]; simp
          have gb := bd_ge z a
          have lb := bd_le ha
          rw [if_pos st1]
          unfold ltimes
          rw [if_neg r1]
          have hitem : rdItem z (6 - st.length) a = item (rpOf z (6 - st.length)) z a := rdItem_item z _ ▸ rfl
          rw [hitem]
          unfold item
          by_cases h0 : (run z a).take 1 = [48]
          · rw [if_pos h0, if_pos h0]
            rfl
          rw [if_neg h0, if_neg h0]
          cases hb : z[bd z a]? with
          | none =>
            rw [if_pos rfl]
            rfl
          | some h =>
            dsimp only
            by_cases io : h ∈ OPS
            case neg =>
              have i1 : h ∉ SG ∧ h ≠ 40 := by
                simp only [List.mem_cons, List.not_mem_nil, or_false] at io ⊢
                omega
              rw [if_pos (show (!decide (h ∈ OPS)) = true by rw [decide_eq_false io]; rfl), if_pos i1]
              rfl
            have i1 : ¬ (h ∉ SG ∧ h ≠ 40) := by
              simp only [List.mem_cons, List.not_mem_nil, or_false] at io ⊢
              omega
            rw [if_neg (show ¬ (!decide (h ∈ OPS)) = true by rw [decide_eq_true io]; decide), if_neg i1]
            cases hw : within (run z a) 2 24 with
            | false =>
              rw [if_pos rfl, if_pos ⟨r1, rfl⟩]
              rfl
            | true =>
              rw [if_neg (show ¬ true = false by decide), if_neg (fun z => by cases z.2)]
              dsimp only
              have et : timesOf (run z a) = num (run z a) := if_neg r1
              have hlb := (List.getElem?_eq_some_iff.mp hb).1
              rw [et]
              by_cases h40 : h = 40
              case neg =>
                rw [if_neg (by simp [io, h40]), if_neg h40, if_pos h40]
                exact (ih st ps _ (bd z a + 1) f' (by omega) (by omega) hst (by omega)).1
              rw [if_neg (show ¬ (h ≠ 40) from fun z => z h40)]
              by_cases h6 : st.length = 6
              · rw [if_pos (.inr ⟨h40, .inr h6⟩), h6]
                rfl
              · rw [if_neg (by simp [io, r1, h6]), if_pos h40]
                obtain ⟨d, hd'⟩ : ∃ d, 6 - st.length = d + 1 := ⟨5 - st.length, by omega⟩
                rw [(ih ((num (run z a), ps, p) :: st) [] (0, []) (bd z a + 1) f' (by omega) (by omega) (by simp; omega) (by omega)).1]
                have hd2 : 6 - ((num (run z a), ps, p) :: st).length = d := by simp; omega
                rw [hd2, hd']
                show _ = kEnd _ (goOn _ (close z (num (run z a)) (rd z d (bd z a + 1))))
                rw [kEnd_goOn, rd_more, rPart_eq]
                unfold kI
                have hcl : ∀ (r : Res) (k : Stv → Nat → Fin), kEnd k (close z (num (run z a)) r) = kEnd (fun s e => if z[e]? = some 41 then k (rep s (num (run z a))) (e + 1) else .bad e) r := fun r k => by
                  cases r with
                  | error j => rfl
                  | ok se =>
                    obtain ⟨s, e⟩ := se
                    show kEnd k (if z[e]? = some 41 then _ else _) = (if z[e]? = some 41 then _ else _)
                    split <;> rfl
                rw [hcl, kEnd_goOn, kEnd_goOn]
                congr 1
                funext s e
                congr 1
                funext s' e'
                unfold kM
                rw [hd2]
                congr 1
                funext s2 e2
                rw [kP_cons]
                unfold kI kM
                rw [hd']
    · intro hp
      by_cases hc : c = 38 ∨ c = 41
      · exact amp hp hc true
      have e1 : z[a]? ≠ some 41 := by rw [hz]; exact fun e => hc (.inr (Option.some.inj e))
      have e2 : z[a]? ≠ some 38 := by rw [hz]; exact fun e => hc (.inl (Option.some.inj e))
      rw [kM_stop z st ps p a hl e1 e2]
      unfold lread
      rw [hz]
      dsimp only
      rw [if_neg hc]
      by_cases h64 : c = 64
      · rw [if_pos h64, if_pos (.inl rfl)]
      · rw [if_neg h64, if_pos rfl]
/-- what the whole text tells -/
def told (z : List Nat) : Fin := match rd z 6 0 with
  | .error k => .bad k
  | .ok (s, e) => if e < z.length then .bad e else .done s
theorem lread_told (z : List Nat) (f : Nat) (hf : z.length + 1 ≤ f) : lread z f [] [] (0, []) false 0 = told z := by
  rw [(lread_both z z.length [] [] (0, []) 0 f (by omega) (by omega) (by decide) (by omega)).1]
  unfold told
  rw [rd_more, rPart_eq]
  show kEnd (fun s e => kEnd (kM z [] []) (partEnd z s e)) (rItems z 6 0 (0, [])) = _
  cases rItems z 6 0 (0, []) with
  | error k => rfl
  | ok se =>
    obtain ⟨s, e⟩ := se
    show kEnd (kM z [] []) (partEnd z s e) = match goOn (fun s e => rMore z 6 e [s]) (partEnd z s e) with
      | .error k => Fin.bad k
      | .ok (s, e) => if e < z.length then .bad e else .done s
    cases partEnd z s e with
    | error k => rfl
    | ok se =>
      obtain ⟨s, e⟩ := se
      show kEnd (kP z []) (rMore z 6 e [s]) = match rMore z 6 e [s] with
        | .error k => Fin.bad k
        | .ok (s, e) => if e < z.length then .bad e else .done s
      cases rMore z 6 e [s] with
      | error k => rfl
      | ok se => obtain ⟨s, e⟩ := se; rfl
end Fg
/-! What the walk of the reader with a stack asks. -/
namespace Fg
open PySem PySem.Spec PyProof.Rows L2
def Wf (ps : List Stv) (p : Stv) : Prop := (∀ x ∈ ps, 1 ≤ x.1 ∧ (x.1 ≤ 24 → x.2.length = x.1)) ∧ (p.1 ≤ 24 → p.2.length = p.1)
def wt (ps : List Stv) (p : Stv) : Nat := (lcmL ps + 1) * (p.1 + 1)
def WS : List Fr → Nat
  | [] => 1
  | (t, ps, p) :: r => t * wt ps p * WS r
structure WB (st : List Fr) (ps : List Stv) (p : Stv) (a : Nat) : Prop where
  wf : Wf ps p
  fr : ∀ f ∈ st, Wf f.2.1 f.2.2 ∧ 1 ≤ f.1 ∧ f.1 ≤ 24
  le : WS st * wt ps p ≤ 2 ^ (5 * a + 1)
theorem WS_pos {st : List Fr} (h : ∀ f ∈ st, Wf f.2.1 f.2.2 ∧ 1 ≤ f.1 ∧ f.1 ≤ 24) : 1 ≤ WS st := by
  induction st with
  | nil => exact Nat.le_refl _
  | cons f r ih =>
    obtain ⟨t, ps, p⟩ := f
    have h1 := (h _ List.mem_cons_self).2.1
    have h2 := ih fun f hf => h f (List.mem_cons_of_mem _ hf)
    have h3 : 1 ≤ wt ps p := Nat.mul_pos (Nat.succ_pos _) (Nat.succ_pos _)
    exact Nat.mul_pos (Nat.mul_pos h1 h3) h2
theorem pow_step {a b : Nat} (h : a < b) : 2 ^ (5 * a + 1) * 32 ≤ 2 ^ (5 * b + 1) := by
  have : 2 ^ (5 * a + 1) * 32 = 2 ^ (5 * (a + 1) + 1) := by rw [show 5 * (a + 1) + 1 = (5 * a + 1) + 5 by omega, Nat.pow_add _ _ 5]
  rw [this]
  exact Nat.pow_le_pow_right (by decide) (by omega)
/-- the weight grows by no more than the text -/
theorem WB.grow {st st' : List Fr} {ps ps' : List Stv} {p p' : Stv} {a b : Nat} (h : WB st ps p a) (hab : a < b) (h1 : Wf ps' p') (h2 : ∀ f ∈ st', Wf f.2.1 f.2.2 ∧ 1 ≤ f.1 ∧ f.1 ≤ 24)
    (h3 : WS st' * wt ps' p' ≤ WS st * wt ps p * 32) : WB st' ps' p' b :=
  ⟨h1, h2, Nat.le_trans h3 (Nat.le_trans (Nat.mul_le_mul_right _ h.le) (pow_step hab))⟩
theorem lcm_snoc_le {ps : List Stv} {p : Stv} (h : ∀ x ∈ ps, 1 ≤ x.1 ∧ (x.1 ≤ 24 → x.2.length = x.1)) (hp : p.1 ≠ 0) : lcmL (ps ++ [p]) + 1 ≤ wt ps p := by
  rw [lcmL_snoc]
  have := lcm_le_mul (lcmL_pos fun x hx => (h x hx).1) (show 1 ≤ p.1 by omega)
  unfold wt
  rw [Nat.add_mul, Nat.mul_add]
  omega
theorem wf_snoc {ps : List Stv} {p : Stv} (h : Wf ps p) (hp : p.1 ≠ 0) : ∀ x ∈ ps ++ [p], 1 ≤ x.1 ∧ (x.1 ≤ 24 → x.2.length = x.1) := fun x hx => by
  rcases List.mem_append.mp hx with hx | hx
  · exact h.1 x hx
  · rw [List.mem_singleton.mp hx]; exact ⟨by omega, h.2⟩
theorem WB.amp {st : List Fr} {ps : List Stv} {p : Stv} {a : Nat} (h : WB st ps p a) (hp : p.1 ≠ 0) : WB st (ps ++ [p]) (0, []) (a + 1) := by
  refine h.grow (Nat.lt_succ_self _) ⟨wf_snoc h.wf hp, fun _ => rfl⟩ h.fr ?_
  have := lcm_snoc_le h.wf.1 hp
  have e : wt (ps ++ [p]) (0, []) = lcmL (ps ++ [p]) + 1 := Nat.mul_one _
  rw [e]
  exact Nat.le_trans (Nat.mul_le_mul_left _ this) (Nat.le_mul_of_pos_right _ (by decide))
theorem beh_len {p s : Stv} (hp : p.1 ≤ 24 → p.2.length = p.1) (hs : s.1 ≤ 24 → s.2.length = s.1) : (beh p s).1 ≤ 24 → (beh p s).2.length = (beh p s).1 := fun h => by
  have h : p.1 + s.1 ≤ 24 := h
  show (p.2 ++ s.2).length = p.1 + s.1
  rw [List.length_append, hp (by omega), hs (by omega)]
theorem rep_lenS {s : Stv} {t : Nat} (hs : s.1 ≤ 24 → s.2.length = s.1) (t1 : 1 ≤ t) : (rep s t).1 ≤ 24 → (rep s t).2.length = (rep s t).1 := fun h => by
  have h : s.1 * t ≤ 24 := h
  have : s.1 ≤ s.1 * t := Nat.le_mul_of_pos_right _ t1
  show (rpt t s.2).length = s.1 * t
  rw [rpt_len, hs (by omega), Nat.mul_comm]
theorem WB.close {rest : List Fr} {ps ps' : List Stv} {p p' : Stv} {t a : Nat} (h : WB ((t, ps', p') :: rest) ps p a) (hp : p.1 ≠ 0) : WB rest ps' (beh p' (rep (shown (ps ++ [p])) t)) (a + 1) := by
  obtain ⟨f1, f2, f3⟩ := h.fr _ List.mem_cons_self
  refine h.grow (Nat.lt_succ_self _) ⟨f1.1, beh_len f1.2 (rep_lenS (fun _ => showN_len _ _) f2)⟩ (fun f hf => h.fr f (List.mem_cons_of_mem _ hf)) ?_
  have h1 := lcm_snoc_le h.wf.1 hp
  show WS rest * ((lcmL ps' + 1) * (p'.1 + lcmL (ps ++ [p]) * t + 1)) ≤ t * ((lcmL ps' + 1) * (p'.1 + 1)) * WS rest * wt ps p * 32
  generalize lcmL (ps ++ [p]) = L at *
  generalize wt ps p = W at *
  generalize WS rest = R
  generalize lcmL ps' + 1 = M
  have h2 : p'.1 + L * t + 1 ≤ t * (p'.1 + 1) * W := by
    have a1 : L * t + t ≤ t * W := by
      have := Nat.mul_le_mul_left t h1
      rw [Nat.mul_add, Nat.mul_one, Nat.mul_comm t L] at this
      exact this
    have a2 : t * W ≤ (p'.1 + 1) * (t * W) := Nat.le_mul_of_pos_left _ (Nat.succ_pos _)
    have a3 : (p'.1 + 1) * (t * W) = p'.1 * (t * W) + t * W := by rw [Nat.add_mul, Nat.one_mul]
    have a4 : p'.1 ≤ p'.1 * (t * W) := Nat.le_mul_of_pos_right _ (by have : t ≤ t * W := by omega
                                                                     omega)
    have a5 : t * (p'.1 + 1) * W = (p'.1 + 1) * (t * W) := by rw [Nat.mul_comm t, Nat.mul_assoc]
    rw [a5, a3]
    omega
  calc R * (M * (p'.1 + L * t + 1)) ≤ R * (M * (t * (p'.1 + 1) * W)) := Nat.mul_le_mul_left _ (Nat.mul_le_mul_left _ h2)
    _ = t * (M * (p'.1 + 1)) * R * W := by simp only [Nat.mul_comm, Nat.mul_left_comm, Nat.mul_assoc]
    _ ≤ t * (M * (p'.1 + 1)) * R * W * 32 := Nat.le_mul_of_pos_right _ (by decide)
theorem WB.part {st : List Fr} {ps : List Stv} {p p' : Stv} {a b : Nat} (h : WB st ps p a) (hab : a < b) (hl : p'.1 ≤ 24 → p'.2.length = p'.1) (h1 : p'.1 + 1 ≤ (p.1 + 1) * 32) : WB st ps p' b := by
  refine h.grow hab ⟨h.wf.1, hl⟩ h.fr ?_
  unfold wt
  calc WS st * ((lcmL ps + 1) * (p'.1 + 1)) ≤ WS st * ((lcmL ps + 1) * ((p.1 + 1) * 32)) := Nat.mul_le_mul_left _ (Nat.mul_le_mul_left _ h1)
    _ = WS st * ((lcmL ps + 1) * (p.1 + 1)) * 32 := by simp only [Nat.mul_assoc]
theorem WB.fill {st : List Fr} {ps : List Stv} {p : Stv} {a b n : Nat} (h : WB st ps p a) (hab : a < b) (h1 : p.1 ≤ n) (h2 : n ≤ 24) : WB st ps (fillTo p n) b := by
  refine h.part hab (fun _ => ?_) ?_
  · show (p.2 ++ List.replicate (n - p.1) 46).length = n
    rw [List.length_append, List.length_replicate, h.wf.2 (by omega)]
    omega
  · show n + 1 ≤ _
    rw [Nat.add_mul]; omega
theorem WB.sign {st : List Fr} {ps : List Stv} {p : Stv} {a b c t : Nat} (h : WB st ps p a) (hab : a < b) (t1 : 1 ≤ t) (t2 : t ≤ 24) : WB st ps (beh p (rep (1, [c]) t)) b := by
  refine h.part hab (beh_len h.wf.2 (rep_lenS (fun _ => rfl) t1)) ?_
  show p.1 + 1 * t + 1 ≤ _
  rw [Nat.add_mul]; omega
theorem WB.opn {st : List Fr} {ps : List Stv} {p : Stv} {a b t : Nat} (h : WB st ps p a) (hab : a + 2 ≤ b) (t1 : 1 ≤ t) (t2 : t ≤ 24) : WB ((t, ps, p) :: st) [] (0, []) b := by
  have h0 : WB st ps p (a + 1) := h.grow (Nat.lt_succ_self _) h.wf h.fr (Nat.le_mul_of_pos_right _ (by decide))
  refine ⟨⟨by simp, fun _ => rfl⟩, fun f hf => ?_, ?_⟩
  · rcases List.mem_cons.mp hf with rfl | hf
    · exact ⟨h.wf, t1, t2⟩
    · exact h.fr f hf
  · show t * wt ps p * WS st * 2 ≤ _
    have h1 : t * wt ps p * WS st * 2 = (WS st * wt ps p) * (t * 2) := by simp only [Nat.mul_comm, Nat.mul_left_comm, Nat.mul_assoc]
    rw [h1]
    have h2 : (WS st * wt ps p) * (t * 2) ≤ 2 ^ (5 * a + 1) * (32 * 32) := Nat.mul_le_mul h.le (by omega)
    have h3 : 2 ^ (5 * a + 1) * (32 * 32) = 2 ^ (5 * (a + 2) + 1) := by rw [show 5 * (a + 2) + 1 = (5 * a + 1) + 10 by omega, Nat.pow_add _ _ 10]
    exact Nat.le_trans h2 (h3 ▸ Nat.pow_le_pow_right (by decide) (by omega))
theorem WB.big {st : List Fr} {ps : List Stv} {p : Stv} {a : Nat} (h : WB st ps p a) (hp : p.1 ≠ 0) (ha : a ≤ 1700) : Big (lcmL (ps ++ [p])) := by
  have h1 := lcm_snoc_le h.wf.1 hp
  have h2 : wt ps p ≤ WS st * wt ps p := Nat.le_mul_of_pos_left _ (WS_pos h.fr)
  have h3 : 2 ^ (5 * a + 1) ≤ 2 ^ 8600 := Nat.pow_le_pow_right (by decide) (by omega)
  exact Nat.lt_of_lt_of_le (Nat.lt_of_succ_le (Nat.le_trans h1 (Nat.le_trans h2 h.le))) h3
theorem WB.start : WB [] [] (0, []) 0 := ⟨⟨by simp, fun _ => rfl⟩, by simp, by decide⟩
/-! ### how it stands in the heap -/
def PL (H : Hp) (D : Addr) (ps : List Stv) : Prop := ∃ qs : List Addr, H D = some (.lst (qs.map V.ref)) ∧ PartsAt H qs ps
theorem PL.mono {H H' : Hp} {D : Addr} {ps : List Stv} (h : PL H D ps) (s : Same H H') : PL H' D ps := by
  obtain ⟨qs, h1, h2⟩ := h
  exact ⟨qs, s _ _ h1, h2.mono s⟩
theorem PartsAt.snoc {H : Hp} {qs : List Addr} {ps : List Stv} {q : Addr} {p : Stv} (h : PartsAt H qs ps) (hq : H q = some (Sv p.1 p.2)) : PartsAt H (qs ++ [q]) (ps ++ [p]) := by
  have hl := h.1
  refine ⟨by rw [List.length_append, List.length_append, hl]; rfl, fun i x y h1 h2 => ?_⟩
  by_cases hi : i < qs.length
  · rw [List.getElem?_append_left hi] at h1
    rw [List.getElem?_append_left (by omega)] at h2
    exact h.2 i x y h1 h2
  · rw [List.getElem?_append_right (by omega)] at h1
    rw [List.getElem?_append_right (by omega)] at h2
    have e0 : i - qs.length = 0 := by
      have := (List.getElem?_eq_some_iff.mp h1).1
      rw [List.length_singleton] at this
      omega
    rw [e0] at h1
    rw [show i - ps.length = 0 by omega] at h2
    cases h1; cases h2
    exact hq
def FA (H : Hp) (a : Addr) (f : Fr) : Prop := ∃ D q, H a = some (.tup [.int (f.1 : Int), .ref D, .ref q]) ∧ PL H D f.2.1 ∧ H q = some (Sv f.2.2.1 f.2.2.2)
theorem FA.mono {H H' : Hp} {a : Addr} {f : Fr} (h : FA H a f) (s : Same H H') : FA H' a f := by
  obtain ⟨D, q, h1, h2, h3⟩ := h
  exact ⟨D, q, s _ _ h1, h2.mono s, s _ _ h3⟩
/-- the frames of a stack, the last opened one last -/
inductive FS (H : Hp) : List Addr → List Fr → Prop where
  | nil : FS H [] []
  | cons {as : List Addr} {st : List Fr} {a : Addr} {f : Fr} : FS H as st → FA H a f → FS H (as ++ [a]) (f :: st)
theorem FS.mono {H H' : Hp} {as : List Addr} {st : List Fr} (h : FS H as st) (s : Same H H') : FS H' as st := by
  induction h with
  | nil => exact .nil
  | cons _ h2 ih => exact .cons ih (h2.mono s)
theorem FS.len {H : Hp} {as : List Addr} {st : List Fr} (h : FS H as st) : as.length = st.length := by
  induction h with
  | nil => rfl
  | cons _ _ ih => rw [List.length_append, ih]; rfl
def SL (H : Hp) (D : Addr) (st : List Fr) : Prop := ∃ as : List Addr, H D = some (.lst (as.map V.ref)) ∧ FS H as st
theorem SL.mono {H H' : Hp} {D : Addr} {st : List Fr} (h : SL H D st) (s : Same H H') : SL H' D st := by
  obtain ⟨as, h1, h2⟩ := h
  exact ⟨as, s _ _ h1, h2.mono s⟩
end Fg
namespace Fg
open PySem PySem.Spec PyProof.Rows L2
/-! ### texts put together -/
theorem joinL_len (ls : List (List Nat)) : (TL.joinL [38] ls).length ≤ (ls.map fun l => l.length + 1).sum := by
  induction ls with
  | nil => exact Nat.le_refl _
  | cons p r ih =>
    cases r with
    | nil => show p.length ≤ _; rw [List.map_cons, List.sum_cons]; omega
    | cons q r =>
      show (p ++ ([38] ++ TL.joinL [38] (q :: r))).length ≤ _
      rw [List.map_cons, List.sum_cons, List.length_append, List.length_append]
      have : ([38] : List Nat).length = 1 := rfl
      omega
theorem joinL_len1 (ls : List (List Nat)) (h : ls ≠ []) : (TL.joinL [38] ls).length + 1 ≤ (ls.map fun l => l.length + 1).sum := by
  induction ls with
  | nil => exact absurd rfl h
  | cons p r ih =>
    cases r with
    | nil => show p.length + 1 ≤ _; rw [List.map_cons, List.sum_cons]; omega
    | cons q r =>
      have := ih (by simp)
      show (p ++ ([38] ++ TL.joinL [38] (q :: r))).length + 1 ≤ _
      rw [List.map_cons, List.sum_cons, List.length_append, List.length_append]
      have : ([38] : List Nat).length = 1 := rfl
      omega
theorem join_sep (sep : List Nat) (ls : List (List Nat)) : Txt.join ⟨sep.toArray⟩ (ls.map fun l => (⟨l.toArray⟩ : Str)) = ⟨(TL.joinL sep ls).toArray⟩ := by
  refine TL.ext_tl ?_
  rw [TL.join_eq, TL.tl_join, List.map_map]
  show TL.joinL sep.toArray.toList (ls.map fun l => l.toArray.toList) = (TL.joinL sep ls).toArray.toList
  simp
theorem i_joinG {K : PySem.W.Frag} {H : Hp} {Q : VK} {p : Addr} {sep : List Nat} {ls : List (List Nat)} (hs : SqL K H p (ls.map S)) (hz : (ls.map List.length).sum + ls.length * sep.length ≤ 100000) (q : Q (S (TL.joinL sep ls)) H) : rJoinP K (S sep) [.ref p] H Q := by
  refine ⟨⟨sep.toArray⟩, p, ls.map fun l => (⟨l.toArray⟩ : Str), rfl, rfl, .inl ?_, ?_, ?_⟩
  · rw [List.map_map]; exact hs
  · rw [List.map_map]
    have e : (ls.map ((·.length) ∘ fun l => (⟨l.toArray⟩ : Str))) = ls.map List.length := List.map_congr_left fun l _ => str_len l
    rw [e, List.length_map]
    have e2 : (⟨sep.toArray⟩ : Str).length = sep.length := str_len sep
    show (ls.map List.length).sum + ls.length * (⟨sep.toArray⟩ : Str).length ≤ _
    rw [e2]
    exact Nat.le_trans hz (by decide)
  · rw [join_sep]; exact q
theorem sum_len1 (ls : List (List Nat)) : (ls.map fun l => l.length + 1).sum = (ls.map List.length).sum + ls.length := by
  induction ls with
  | nil => rfl
  | cons p r ih => rw [List.map_cons, List.map_cons, List.sum_cons, List.sum_cons, ih, List.length_cons]; omega
theorem upd_comm {H : Hp} {a b : Addr} {o o' : HO} (h : a ≠ b) : upd (upd H a o) b o' = upd (upd H b o') a o := by
  funext c
  by_cases h1 : c = b
  · rw [h1, upd_same, upd_ne (Ne.symm h), upd_same]
  · rw [upd_ne h1]
    by_cases h2 : c = a
    · rw [h2, upd_same, upd_same]
    · rw [upd_ne h2, upd_ne h2, upd_ne h1]
def ones (n : Nat) : List V := List.replicate n (.int 1)
theorem ones_succ (n : Nat) : ones n ++ [.int 1] = ones (n + 1) := by
  unfold ones
  rw [List.replicate_succ', ]
theorem dec_len (n : Nat) : (dec n).length ≤ 2 := by
  unfold dec
  split <;> simp
end Fg
/-! Rhythm texts as trees: how they are written, what they stand for, that the reader reads them. -/
namespace Fg
open PySem PySem.Spec PyProof.Rows L2
abbrev Sg := Nat × Nat
/-- what stands in a group, of items of a level -/
def Gr : Nat → Type
  | 0 => Empty
  | d + 1 => List (List (Sg ⊕ (Nat × Gr d)) × Nat)
abbrev ItG (G : Type) := Sg ⊕ (Nat × G)
abbrev PtG (G : Type) := List (ItG G) × Nat
section
variable {G : Type} (sg : G → Stv) (wg : G → List Nat) (vg : G → Prop)
def stI : ItG G → Stv
  | .inl (t, c) => rep (1, [c]) (max 1 t)
  | .inr (t, g) => rep (sg g) (max 1 t)
def stIs (is : List (ItG G)) : Stv := is.foldl (fun p i => beh p (stI sg i)) (0, [])
def stP (p : PtG G) : Stv := if 0 < p.2 then fillTo (stIs sg p.1) p.2 else stIs sg p.1
def stPs (ps : List (PtG G)) : Stv := shown (ps.map (stP sg))
def wN (t : Nat) : List Nat := if 0 < t then dec t else []
def wI : ItG G → List Nat
  | .inl (t, c) => wN t ++ [c]
  | .inr (t, g) => wN t ++ ([40] ++ (wg g ++ [41]))
def wIs (is : List (ItG G)) : List Nat := (is.map (wI wg)).flatten
def wF (f : Nat) : List Nat := if 0 < f then 64 :: dec f else []
def wP (p : PtG G) : List Nat := wIs wg p.1 ++ wF p.2
def wPs (ps : List (PtG G)) : List Nat := TL.joinL [38] (ps.map (wP wg))
def vI : ItG G → Prop
  | .inl (t, c) => c ∈ SG ∧ (t = 0 ∨ (2 ≤ t ∧ t ≤ 24))
  | .inr (t, g) => 2 ≤ t ∧ t ≤ 24 ∧ vg g
def vP (p : PtG G) : Prop := p.1 ≠ [] ∧ (∀ i ∈ p.1, vI vg i) ∧ (p.2 = 0 ∨ ((stIs sg p.1).1 ≤ p.2 ∧ p.2 ≤ 24))
def vPs (ps : List (PtG G)) : Prop := ps ≠ [] ∧ ∀ p ∈ ps, vP sg vg p
end
def stG : (d : Nat) → Gr d → Stv
  | 0, _ => (0, [])
  | d + 1, ps => stPs (stG d) ps
def wG : (d : Nat) → Gr d → List Nat
  | 0, _ => []
  | d + 1, ps => wPs (wG d) ps
def vG : (d : Nat) → Gr d → Prop
  | 0, _ => False
  | d + 1, ps => vPs (stG d) (vG d) ps
/-! ### positive, and of their length -/
def Pos (s : Stv) : Prop := 1 ≤ s.1 ∧ (s.1 ≤ 24 → s.2.length = s.1)
section
variable {G : Type} {sg : G → Stv} {wg : G → List Nat} {vg : G → Prop}
theorem Pos.rep {s : Stv} {t : Nat} (h : Pos s) (ht : 1 ≤ t) : Pos (rep s t) := by
  refine ⟨Nat.mul_pos h.1 ht, fun e => ?_⟩
  have e : s.1 * t ≤ 24 := e
  have : s.1 ≤ s.1 * t := Nat.le_mul_of_pos_right _ ht
  show (rpt t s.2).length = s.1 * t
  rw [rpt_len, h.2 (by omega), Nat.mul_comm]
theorem stI_pos (hg : ∀ g, vg g → Pos (sg g)) {i : ItG G} (h : vI vg i) : Pos (stI sg i) := by
  cases i with
  | inl x => exact Pos.rep (s := (1, [x.2])) ⟨Nat.le_refl _, fun _ => rfl⟩ (by omega)
  | inr x => exact (hg _ h.2.2).rep (by omega)
theorem foldl_beh (is : List (ItG G)) : ∀ p : Stv, is.foldl (fun p i => beh p (stI sg i)) p = beh p (stIs sg is) := by
  induction is with
  | nil => intro p; show p = beh p (0, []); simp [beh]
  | cons i r ih =>
    intro p
    unfold stIs
    rw [List.foldl_cons, List.foldl_cons, ih, ih]
    simp [beh, Nat.add_assoc]
theorem stIs_cons (i : ItG G) (r : List (ItG G)) : stIs sg (i :: r) = beh (stI sg i) (stIs sg r) := by
  conv => lhs; unfold stIs
  rw [List.foldl_cons, foldl_beh]
  simp [beh]
theorem stIs_len (hg : ∀ g, vg g → Pos (sg g)) : ∀ {is : List (ItG G)}, (∀ i ∈ is, vI vg i) → ((stIs sg is).1 ≤ 24 → (stIs sg is).2.length = (stIs sg is).1) ∧ (is ≠ [] → 1 ≤ (stIs sg is).1)
  | [], _ => ⟨fun _ => rfl, fun h => absurd rfl h⟩
  | i :: r, h => by
    rw [stIs_cons]
    have h1 := stI_pos hg (h i List.mem_cons_self)
    have h2 := stIs_len hg (is := r) fun i hi => h i (List.mem_cons_of_mem _ hi)
    refine ⟨fun e => ?_, fun _ => Nat.le_trans h1.1 (Nat.le_add_right _ _)⟩
    have e : (stI sg i).1 + (stIs sg r).1 ≤ 24 := e
    show ((stI sg i).2 ++ (stIs sg r).2).length = (stI sg i).1 + (stIs sg r).1
    rw [List.length_append, h1.2 (by omega), h2.1 (by omega)]
theorem stP_pos (hg : ∀ g, vg g → Pos (sg g)) {p : PtG G} (h : vP sg vg p) : Pos (stP sg p) := by
  obtain ⟨h1, h2, h3⟩ := h
  have hs := stIs_len hg h2
  unfold stP
  by_cases hf : 0 < p.2
  · rw [if_pos hf]
    have h4 : (stIs sg p.1).1 ≤ p.2 ∧ p.2 ≤ 24 := h3.resolve_left (by omega)
    refine ⟨hf, fun _ => ?_⟩
    show ((stIs sg p.1).2 ++ List.replicate _ 46).length = p.2
    rw [List.length_append, List.length_replicate, hs.1 (by omega)]
    omega
  · rw [if_neg hf]
    exact ⟨hs.2 h1, hs.1⟩
theorem stPs_pos (hg : ∀ g, vg g → Pos (sg g)) {ps : List (PtG G)} (h : vPs sg vg ps) : Pos (stPs sg ps) := by
  refine ⟨lcmL_pos fun p hp => ?_, fun _ => showN_len _ _⟩
  obtain ⟨q, hq, rfl⟩ := List.mem_map.mp hp
  exact (stP_pos hg (h.2 q hq)).1
end
theorem stG_pos : ∀ d (g : Gr d), vG d g → Pos (stG d g)
  | 0, g, h => nomatch g
  | d + 1, ps, h => stPs_pos (stG_pos d) h
/-! ### a text that stands at a place -/
def Tx (z : List Nat) (a : Nat) (w : List Nat) : Prop := ∀ i < w.length, z[a + i]? = w[i]?
theorem Tx.left {z u v : List Nat} {a : Nat} (h : Tx z a (u ++ v)) : Tx z a u := fun i hi => by
  rw [h i (by rw [List.length_append]; omega), List.getElem?_append_left hi]
theorem Tx.right {z u v : List Nat} {a : Nat} (h : Tx z a (u ++ v)) : Tx z (a + u.length) v := fun i hi => by
  rw [Nat.add_assoc, h (u.length + i) (by rw [List.length_append]; omega), List.getElem?_append_right (by omega)]
  congr 1
  omega
theorem Tx.head {z r : List Nat} {a c : Nat} (h : Tx z a (c :: r)) : z[a]? = some c := h 0 (by rw [List.length_cons]; omega)
theorem Tx.tail {z r : List Nat} {a c : Nat} (h : Tx z a (c :: r)) : Tx z (a + 1) r := fun i hi => by
  rw [Nat.add_assoc, Nat.add_comm 1 i, h (i + 1) (by rw [List.length_cons]; omega)]
  rfl
theorem Tx.le {z w : List Nat} {a : Nat} (h : Tx z a w) (ha : a ≤ z.length) : a + w.length ≤ z.length := by
  by_cases hw : w.length = 0
  · omega
  · have := h (w.length - 1) (by omega)
    rw [List.getElem?_eq_getElem (show w.length - 1 < w.length by omega)] at this
    have := (List.getElem?_eq_some_iff.mp this).1
    omega
theorem run_tx {z : List Nat} : ∀ {u : List Nat} {a : Nat}, (∀ c ∈ u, c ∈ DG) → Tx z a u → (∀ c, z[a + u.length]? = some c → c ∉ DG) → run z a = u
  | [], a, _, _, h => run_stop (by simpa using h)
  | c :: r, a, hd, ht, h => by
    rw [run_step ht.head (hd c List.mem_cons_self), run_tx (fun c hc => hd c (List.mem_cons_of_mem _ hc)) ht.tail (by
      intro c' hc'
      exact h c' (by rw [List.length_cons, ← hc']; congr 1; omega))]
theorem dec_facts : ∀ t : Nat, t ≤ 24 → (∀ c ∈ dec t, c ∈ DG) ∧ (1 ≤ t → (dec t).take 1 ≠ [48]) ∧ num (dec t) = t ∧ 1 ≤ (dec t).length ∧ (dec t).length ≤ 2 := by decide
/-! ### the reader at such a text -/
section
variable {G : Type} {sg : G → Stv} {wg : G → List Nat} {vg : G → Prop} {z : List Nat} {k : Nat}
/-- groups are read -/
def GrOk (sg : G → Stv) (wg : G → List Nat) (vg : G → Prop) (z : List Nat) (k : Nat) : Prop := ∀ g, vg g → ∀ a, Tx z a (wg g) → z[a + (wg g).length]? = some 41 → ∃ f, rpOf z k = some f ∧ f a = .ok (sg g, a + (wg g).length)
theorem item_tx (hg : GrOk sg wg vg z k) {i : ItG G} {a : Nat} (hv : vI vg i) (ht : Tx z a (wI wg i)) : rdItem z k a = .ok (stI sg i, a + (wI wg i).length) := by
  rw [rdItem_item]
  -- the number ahead
  have numb : ∀ (t c : Nat) (r : List Nat), (t = 0 ∨ (2 ≤ t ∧ t ≤ 24)) → c ∉ DG → Tx z a (wN t ++ (c :: r)) → run z a = wN t ∧ bd z a = a + (wN t).length ∧ z[bd z a]? = some c ∧ Tx z (bd z a + 1) r ∧ ¬ (run z a).take 1 = [48] ∧ ¬ (run z a ≠ [] ∧ within (run z a) 2 24 = false) ∧ timesOf (run z a) = max 1 t := fun t c r h hc htx => by
    have h0 : z[a + (wN t).length]? = some c := htx.right.head
    have hr : run z a = wN t := by
      refine run_tx (fun x hx => ?_) htx.left (fun x hx => by rw [h0] at hx; cases hx; exact hc)
      unfold wN at hx
      split at hx
      · exact (dec_facts t (by omega)).1 x hx
      · simp at hx
    have hb : bd z a = a + (wN t).length := by unfold bd; rw [hr]
    refine ⟨hr, hb, by rw [hb, h0], by rw [hb]; exact htx.right.tail, ?_, ?_, ?_⟩
    · rw [hr]
      unfold wN
      split
      · exact (dec_facts t (by omega)).2.1 (by omega)
      · simp
    · rw [hr]
      unfold wN
      split
      · obtain ⟨_, _, h3, h4, h5⟩ := dec_facts t (by omega)
        have : within (dec t) 2 24 = true := within_iff.mpr ⟨h4, h5, by omega, by omega⟩
        rw [this]; simp
      · simp
    · rw [hr]
      unfold wN timesOf
      split
      · obtain ⟨_, _, h3, h4, h5⟩ := dec_facts t (by omega)
        rw [if_neg (fun e => by rw [e] at h4; exact absurd h4 (by decide)), h3]
        omega
      · rw [if_pos rfl]; omega
  cases i with
  | inl x =>
    obtain ⟨t, c⟩ := x
    obtain ⟨hc, h⟩ := hv
    have hd : c ∉ DG := by
      revert hc
      simp only [List.mem_cons, List.not_mem_nil, or_false]
      omega
    have h40 : c ≠ 40 := fun e => by subst e; revert hc; decide
    obtain ⟨n1, n2, n3, n4, n5, n6, n7⟩ := numb t c [] h hd ht
    unfold item
    rw [if_neg n5, n3]
    dsimp only
    rw [if_neg (fun z => z.1 hc), if_neg n6, if_pos h40, n7, n2]
    show Except.ok (stI sg (.inl (t, c)), _) = _
    have : (wI wg (.inl (t, c))).length = (wN t).length + 1 := by show (wN t ++ [c]).length = _; rw [List.length_append]; rfl
    rw [this, Nat.add_assoc]
  | inr x =>
    obtain ⟨t, g⟩ := x
    obtain ⟨h1, h2, h3⟩ := hv
    obtain ⟨n1, n2, n3, n4, n5, n6, n7⟩ := numb t 40 (wg g ++ [41]) (.inr ⟨h1, h2⟩) (by decide) ht
    obtain ⟨f, e1, e2⟩ := hg g h3 (bd z a + 1) n4.left n4.right.head
    unfold item
    rw [if_neg n5, n3]
    dsimp only
    rw [if_neg (fun z => z.2 rfl), if_neg n6, if_neg (fun z => z rfl), n7, e1]
    dsimp only
    rw [e2]
    unfold close
    dsimp only
    rw [if_pos n4.right.head]
    have : (wI wg (.inr (t, g))).length = (wN t).length + 1 + (wg g).length + 1 := by
      show (wN t ++ ([40] ++ (wg g ++ [41]))).length = _
      simp only [List.length_append, List.length_singleton]
      omega
    rw [this, n2]
    show Except.ok (stI sg (.inr (t, g)), _) = _
    congr 2
    omega
theorem wI_start {i : ItG G} (hv : vI vg i) : ∃ c r, wI wg i = c :: r ∧ isStart c = true := by
  have key : ∀ (t : Nat) (x : Nat) (r : List Nat), (t = 0 ∨ (2 ≤ t ∧ t ≤ 24)) → (t = 0 → isStart x = true) → ∃ c r', wN t ++ (x :: r) = c :: r' ∧ isStart c = true := fun t x r h hx => by
    unfold wN
    split
    · obtain ⟨d1, _, _, h4, _⟩ := dec_facts t (by omega)
      cases hd : dec t with
      | nil => rw [hd] at h4; exact absurd h4 (by decide)
      | cons c r' =>
        refine ⟨c, _, rfl, ?_⟩
        have := d1 c (by rw [hd]; exact List.mem_cons_self)
        unfold isStart
        rw [decide_eq_true this, Bool.or_true]
    · exact ⟨x, r, rfl, hx (by omega)⟩
  cases i with
  | inl x =>
    refine key x.1 x.2 [] hv.2 fun _ => ?_
    unfold isStart
    rw [decide_eq_true hv.1]
    rfl
  | inr x => exact key x.1 40 _ (.inr ⟨hv.1, hv.2.1⟩) fun e => by have := hv.1; omega
theorem items_tx (hg : GrOk sg wg vg z k) : ∀ {is : List (ItG G)} {a : Nat} (p : Stv), a ≤ z.length → (∀ i ∈ is, vI vg i) → Tx z a (wIs wg is) → rItems z k a p = rItems z k (a + (wIs wg is).length) (is.foldl (fun p i => beh p (stI sg i)) p)
  | [], a, p, ha, _, _ => rfl
  | i :: r, a, p, ha, hv, ht => by
    have hi := hv i List.mem_cons_self
    have e : wIs wg (i :: r) = wI wg i ++ wIs wg r := by unfold wIs; rw [List.map_cons, List.flatten_cons]
    rw [e] at ht ⊢
    obtain ⟨c, r', hc, hs⟩ := wI_start (wg := wg) hi
    have hz : z[a]? = some c := by have := ht.left; rw [hc] at this; exact this.head
    rw [rItems_eq ha, hz]
    dsimp only
    rw [if_pos hs, item_tx hg hi ht.left]
    show rItems z k (a + (wI wg i).length) (beh p (stI sg i)) = _
    rw [items_tx hg _ (Tx.le ht.left ha) (fun i hi => hv i (List.mem_cons_of_mem _ hi)) ht.right, List.length_append, List.foldl_cons, Nat.add_assoc]
/-- what may stand behind a part -/
def Beh (o : Option Nat) : Prop := o = none ∨ o = some 38 ∨ o = some 41
theorem part_tx (hg : GrOk sg wg vg z k) (hpos : ∀ g, vg g → Pos (sg g)) {p : PtG G} {a : Nat} (ha : a ≤ z.length) (hv : vP sg vg p) (ht : Tx z a (wP wg p)) (hb : Beh z[a + (wP wg p).length]?) : Fg.part (rdItem z k) z a = .ok (stP sg p, a + (wP wg p).length) := by
  obtain ⟨h1, h2, h3⟩ := hv
  have hs := stIs_len hpos h2
  have hne := hs.2 h1
  rw [rPart_eq]
  unfold wP at ht hb ⊢
  have he : a + (wIs wg p.1).length ≤ z.length := Tx.le ht.left ha
  rw [items_tx hg (0, []) ha h2 ht.left]
  have eI : p.1.foldl (fun p i => beh p (stI sg i)) (0, []) = stIs sg p.1 := rfl
  rw [eI, rItems_eq he]
  have htr := ht.right
  unfold stP
  unfold wF at htr hb ⊢
  by_cases hf : 0 < p.2
  · rw [if_pos hf] at htr hb ⊢
    have hz := htr.head
    rw [hz]
    dsimp only
    rw [if_neg (by decide)]
    show partEnd z (stIs sg p.1) (a + (wIs wg p.1).length) = _
    unfold partEnd
    rw [if_neg (by omega), hz, if_pos rfl]
    have h4 : (stIs sg p.1).1 ≤ p.2 ∧ p.2 ≤ 24 := h3.resolve_left (by omega)
    obtain ⟨d1, d2, d3, d4, d5⟩ := dec_facts p.2 h4.2
    have hr : run z (a + (wIs wg p.1).length + 1) = dec p.2 := run_tx d1 htr.tail (fun c hc => by
      have e : a + (wIs wg p.1).length + 1 + (dec p.2).length = a + (wIs wg p.1 ++ 64 :: dec p.2).length := by rw [List.length_append, List.length_cons]; omega
      rw [e] at hc
      rcases hb with hb | hb | hb <;> rw [hb] at hc <;> cases hc <;> decide)
    unfold filled
    have w1 : within (dec p.2) (max 1 (stIs sg p.1).1) 24 = true := within_iff.mpr ⟨d4, d5, by omega, by omega⟩
    rw [hr, if_neg (fun e => by rw [e] at d4; exact absurd d4 (by decide)), if_neg (fun e => e.elim (d2 hf) (fun e => by rw [w1] at e; cases e)), d3, if_pos hf]
    have e : bd z (a + (wIs wg p.1).length + 1) = a + (wIs wg p.1 ++ 64 :: dec p.2).length := by unfold bd; rw [hr, List.length_append, List.length_cons]; omega
    rw [e]
  · rw [if_neg hf] at hb ⊢
    rw [if_neg hf, List.append_nil] at *
    rcases hb with hb | hb | hb
    all_goals
      rw [hb]
      show partEnd z (stIs sg p.1) (a + (wIs wg p.1).length) = _
      unfold partEnd
      rw [if_neg (by omega), hb, if_neg (by decide)]
theorem more_tx (hg : GrOk sg wg vg z k) (hpos : ∀ g, vg g → Pos (sg g)) : ∀ {ps : List (PtG G)} {a : Nat} (acc : List Stv), a ≤ z.length → (∀ p ∈ ps, vP sg vg p) → Tx z a (ps.flatMap fun p => 38 :: wP wg p) → (z[a + (ps.flatMap fun p => 38 :: wP wg p).length]? = none ∨ z[a + (ps.flatMap fun p => 38 :: wP wg p).length]? = some 41) →
    rMore z k a acc = .ok (shown (acc ++ ps.map (stP sg)), a + (ps.flatMap fun p => 38 :: wP wg p).length)
  | [], a, acc, ha, _, _, he => by
    rw [rMore_eq ha, if_neg (fun e => by
      have he : z[a]? = none ∨ z[a]? = some 41 := he
      rcases he with h | h <;> rw [h] at e <;> cases e), List.map_nil, List.append_nil]
    rfl
  | p :: r, a, acc, ha, hv, ht, he => by
    rw [List.flatMap_cons] at ht he ⊢
    have h0 := ht.left
    have hr := ht.right
    rw [rMore_eq ha, if_pos h0.head]
    have hl := Tx.le h0 ha
    rw [List.length_cons] at hl
    have e1 : a + 1 + (wP wg p).length = a + (38 :: wP wg p).length := by rw [List.length_cons]; omega
    have hb : Beh z[a + 1 + (wP wg p).length]? := by
      rw [e1]
      cases r with
      | nil =>
        rw [List.flatMap_nil, List.append_nil] at he
        rcases he with h | h
        · exact .inl h
        · exact .inr (.inr h)
      | cons p' r' =>
        rw [List.flatMap_cons] at hr
        exact .inr (.inl hr.left.head)
    rw [part_tx hg hpos (by omega) (hv p List.mem_cons_self) h0.tail hb]
    show rMore z k (a + 1 + (wP wg p).length) (acc ++ [stP sg p]) = _
    rw [e1]
    have e2 : a + ((38 :: wP wg p) ++ r.flatMap fun p => 38 :: wP wg p).length = a + (38 :: wP wg p).length + (r.flatMap fun p => 38 :: wP wg p).length := by rw [List.length_append]; omega
    rw [e2] at he ⊢
    rw [more_tx hg hpos (acc ++ [stP sg p]) (by rw [← e1]; omega) (fun p hp => hv p (List.mem_cons_of_mem _ hp)) hr he, List.append_assoc]
    rfl
theorem wPs_cons (p : PtG G) (r : List (PtG G)) : wPs wg (p :: r) = wP wg p ++ r.flatMap fun p => 38 :: wP wg p := by
  induction r generalizing p with
  | nil => show wP wg p = _; rw [List.flatMap_nil, List.append_nil]
  | cons q r ih =>
    have : wPs wg (p :: q :: r) = wP wg p ++ ([38] ++ wPs wg (q :: r)) := rfl
    rw [this, ih, List.flatMap_cons]
    rfl
theorem parts_tx (hg : GrOk sg wg vg z k) (hpos : ∀ g, vg g → Pos (sg g)) {ps : List (PtG G)} {a : Nat} (ha : a ≤ z.length) (hv : vPs sg vg ps) (ht : Tx z a (wPs wg ps)) (he : z[a + (wPs wg ps).length]? = none ∨ z[a + (wPs wg ps).length]? = some 41) : rd z k a = .ok (stPs sg ps, a + (wPs wg ps).length) := by
  obtain ⟨h1, h2⟩ := hv
  cases ps with
  | nil => exact absurd rfl h1
  | cons p r =>
    rw [wPs_cons] at ht he ⊢
    have hr := ht.right
    have hb : Beh z[a + (wP wg p).length]? := by
      cases r with
      | nil =>
        rw [List.flatMap_nil, List.append_nil] at he
        rcases he with h | h
        · exact .inl h
        · exact .inr (.inr h)
      | cons p' r' =>
        rw [List.flatMap_cons] at hr
        exact .inr (.inl hr.left.head)
    rw [rd_more, part_tx hg hpos ha (h2 p List.mem_cons_self) ht.left hb]
    show rMore z k (a + (wP wg p).length) [stP sg p] = _
    rw [List.length_append, ← Nat.add_assoc] at he ⊢
    exact more_tx hg hpos [stP sg p] (Tx.le ht.left ha) (fun p hp => h2 p (List.mem_cons_of_mem _ hp)) hr he
end
/-- the reader reads what is written -/
theorem read_ok : ∀ (d k : Nat), d ≤ k → ∀ (ps : Gr (d + 1)), vG (d + 1) ps → ∀ (z : List Nat) (a : Nat), a ≤ z.length → Tx z a (wG (d + 1) ps) → (z[a + (wG (d + 1) ps).length]? = none ∨ z[a + (wG (d + 1) ps).length]? = some 41) → rd z k a = .ok (stG (d + 1) ps, a + (wG (d + 1) ps).length)
  | 0, k, hk, ps, hv, z, a, ha, ht, he => parts_tx (sg := stG 0) (wg := wG 0) (vg := vG 0) (fun g => nomatch g) (fun g => nomatch g) ha hv ht he
  | d + 1, k, hk, ps, hv, z, a, ha, ht, he => by
    obtain ⟨k', rfl⟩ : ∃ k', k = k' + 1 := ⟨k - 1, by omega⟩
    refine parts_tx (sg := stG (d + 1)) (wg := wG (d + 1)) (vg := vG (d + 1)) (fun g hg b hb hc => ⟨rd z k', rfl, ?_⟩) (stG_pos (d + 1)) ha hv ht he
    have hbl : b ≤ z.length := by
      have := (List.getElem?_eq_some_iff.mp hc).1
      omega
    exact read_ok d k' (by omega) g hg z b hbl hb (.inr hc)
theorem told_ok (d : Nat) (hd : d ≤ 6) (ps : Gr (d + 1)) (hv : vG (d + 1) ps) : told (wG (d + 1) ps) = .done (stG (d + 1) ps) := by
  unfold told
  rw [read_ok d 6 hd ps hv _ 0 (by omega) (fun i hi => by rw [Nat.zero_add]) (.inl (List.getElem?_eq_none (by omega)))]
  dsimp only
  rw [if_neg (by omega)]
/-- .. and so it stands for no more than its text -/
theorem big_ok (d : Nat) (hd : d ≤ 6) (ps : Gr (d + 1)) (hv : vG (d + 1) ps) (hl : (wG (d + 1) ps).length ≤ 1700) : Big (stG (d + 1) ps).1 := by
  have h := read_ok d 6 hd ps hv (wG (d + 1) ps) 0 (by omega) (fun i hi => by rw [Nat.zero_add]) (.inl (List.getElem?_eq_none (by omega)))
  exact (rd_gd _ _ _ _ _ (by omega) h).2.2.2.big (by omega)
end Fg
/-! Trees in the heap; the signs they show. -/
namespace Fg
open PySem PySem.Spec PyProof.Rows L2
inductive F2 {α β : Type} (R : α → β → Prop) : List α → List β → Prop where
  | nil : F2 R [] []
  | cons {a : α} {b : β} {as : List α} {bs : List β} : R a b → F2 R as bs → F2 R (a :: as) (b :: bs)
theorem F2.imp {α β : Type} {R R' : α → β → Prop} (h : ∀ a b, R a b → R' a b) : ∀ {as : List α} {bs : List β}, F2 R as bs → F2 R' as bs
  | _, _, .nil => .nil
  | _, _, .cons h1 h2 => .cons (h _ _ h1) (h2.imp h)
theorem F2.len {α β : Type} {R : α → β → Prop} : ∀ {as : List α} {bs : List β}, F2 R as bs → as.length = bs.length
  | _, _, .nil => rfl
  | _, _, .cons _ h2 => by rw [List.length_cons, List.length_cons, h2.len]
theorem F2.get {α β : Type} {R : α → β → Prop} : ∀ {as : List α} {bs : List β}, F2 R as bs → ∀ (i : Nat) (a : α), as[i]? = some a → ∃ b, bs[i]? = some b ∧ R a b
  | _, _, .nil, i, a, h => by simp at h
  | _, _, .cons h1 h2, 0, a, h => by cases h; exact ⟨_, rfl, h1⟩
  | _, _, .cons h1 h2, i + 1, a, h => h2.get i a h
theorem F2.snoc {α β : Type} {R : α → β → Prop} {a : α} {b : β} : ∀ {as : List α} {bs : List β}, F2 R as bs → R a b → F2 R (as ++ [a]) (bs ++ [b])
  | _, _, .nil, h => .cons h .nil
  | _, _, .cons h1 h2, h => .cons h1 (h2.snoc h)
theorem F2.app {α β : Type} {R : α → β → Prop} : ∀ {as : List α} {bs : List β} {cs : List α} {ds : List β}, F2 R as bs → F2 R cs ds → F2 R (as ++ cs) (bs ++ ds)
  | _, _, _, _, .nil, h => h
  | _, _, _, _, .cons h1 h2, h => .cons h1 (h2.app h)
section
variable {G : Type} (rg : Hp → V → G → Prop)
def RI (H : Hp) (v : V) : ItG G → Prop
  | .inl (t, c) => ∃ a, v = .ref a ∧ H a = some (.tup [.int (t : Int), S [c]])
  | .inr (t, g) => ∃ a w, v = .ref a ∧ H a = some (.tup [.int (t : Int), w]) ∧ rg H w g
def RIs (H : Hp) (v : V) (is : List (ItG G)) : Prop := ∃ a vs, v = .ref a ∧ H a = some (.lst vs) ∧ F2 (RI rg H) vs is
def RP (H : Hp) (v : V) (p : PtG G) : Prop := ∃ a w, v = .ref a ∧ H a = some (.tup [w, .int (p.2 : Int)]) ∧ RIs rg H w p.1
def RPs (H : Hp) (v : V) (ps : List (PtG G)) : Prop := ∃ a vs, v = .ref a ∧ H a = some (.lst vs) ∧ F2 (RP rg H) vs ps
def Mn : Prop := ∀ H H' v g, rg H v g → Same H H' → rg H' v g
end
section
variable {G : Type} {rg : Hp → V → G → Prop} {H H' : Hp} {v : V}
theorem RI.mono (m : Mn rg) {i : ItG G} (h : RI rg H v i) (s : Same H H') : RI rg H' v i := by
  cases i with
  | inl x => obtain ⟨a, h1, h2⟩ := h; exact ⟨a, h1, s _ _ h2⟩
  | inr x => obtain ⟨a, w, h1, h2, h3⟩ := h; exact ⟨a, w, h1, s _ _ h2, m _ _ _ _ h3 s⟩
theorem RIs.mono (m : Mn rg) {is : List (ItG G)} (h : RIs rg H v is) (s : Same H H') : RIs rg H' v is := by
  obtain ⟨a, vs, h1, h2, h3⟩ := h
  exact ⟨a, vs, h1, s _ _ h2, h3.imp fun _ _ h => h.mono m s⟩
theorem RP.mono (m : Mn rg) {p : PtG G} (h : RP rg H v p) (s : Same H H') : RP rg H' v p := by
  obtain ⟨a, w, h1, h2, h3⟩ := h
  exact ⟨a, w, h1, s _ _ h2, h3.mono m s⟩
theorem RPs.mono (m : Mn rg) {ps : List (PtG G)} (h : RPs rg H v ps) (s : Same H H') : RPs rg H' v ps := by
  obtain ⟨a, vs, h1, h2, h3⟩ := h
  exact ⟨a, vs, h1, s _ _ h2, h3.imp fun _ _ h => h.mono m s⟩
end
def RG : (d : Nat) → Hp → V → Gr d → Prop
  | 0, _, _, _ => False
  | d + 1, H, v, ps => RPs (RG d) H v ps
theorem RG_mono : ∀ d, Mn (RG d)
  | 0, _, _, _, _, h, _ => h.elim
  | d + 1, H, H', v, ps, h, s => RPs.mono (RG_mono d) h s
/-! ### lengths -/
section
variable {G : Type} {sg : G → Stv} {wg : G → List Nat}
theorem wI_group {t : Nat} {g : G} : (wg g).length ≤ (wI wg (.inr (t, g))).length := by
  show _ ≤ (wN t ++ ([40] ++ (wg g ++ [41]))).length
  simp only [List.length_append]
  omega
theorem wIs_item {is : List (ItG G)} {i : ItG G} (h : i ∈ is) : (wI wg i).length ≤ (wIs wg is).length := by
  unfold wIs
  induction is with
  | nil => simp at h
  | cons x r ih =>
    rw [List.map_cons, List.flatten_cons, List.length_append]
    rcases List.mem_cons.mp h with rfl | h
    · omega
    · have := ih h; omega
theorem wP_items {p : PtG G} : (wIs wg p.1).length ≤ (wP wg p).length := by
  unfold wP
  rw [List.length_append]; omega
theorem flat_part {r : List (PtG G)} {p : PtG G} (h : p ∈ r) : (wP wg p).length ≤ (r.flatMap fun p => 38 :: wP wg p).length := by
  induction r with
  | nil => simp at h
  | cons y r ih =>
    rw [List.flatMap_cons, List.length_append, List.length_cons]
    rcases List.mem_cons.mp h with rfl | h
    · omega
    · have := ih h; omega
theorem wPs_part {ps : List (PtG G)} {p : PtG G} (h : p ∈ ps) : (wP wg p).length ≤ (wPs wg ps).length := by
  cases ps with
  | nil => simp at h
  | cons x r =>
    rw [wPs_cons, List.length_append]
    rcases List.mem_cons.mp h with rfl | h
    · omega
    · have := flat_part (wg := wg) h
      omega
/-! ### counts -/
theorem stIs_sum (is : List (ItG G)) : (stIs sg is).1 = (is.map fun i => (stI sg i).1).sum := by
  induction is with
  | nil => rfl
  | cons i r ih => rw [stIs_cons, List.map_cons, List.sum_cons, ← ih]; rfl
theorem stIs_row (is : List (ItG G)) : (stIs sg is).2 = (is.map fun i => (stI sg i).2).flatten := by
  induction is with
  | nil => rfl
  | cons i r ih => rw [stIs_cons, List.map_cons, List.flatten_cons, ← ih]; rfl
/-! ### the sign at a beat -/
def sgn (sg : G → Stv) (ps : List (PtG G)) (k : Nat) : Nat := firstLit (ps.map fun p => (stP sg p).2.getD (k % (stP sg p).1) 0)
theorem sgn_row {vg : G → Prop} (hpos : ∀ g, vg g → Pos (sg g)) {ps : List (PtG G)} (hv : vPs sg vg ps) (h24 : (stPs sg ps).1 ≤ 24) (k : Nat) : (stPs sg ps).2.getD (k % (stPs sg ps).1) 0 = sgn sg ps k := by
  have hp := (stPs_pos hpos hv).1
  have hk : k % (stPs sg ps).1 < (stPs sg ps).1 := Nat.mod_lt _ hp
  show (showN (ps.map (stP sg)) (lcmL (ps.map (stP sg)))).getD _ 0 = _
  have e : (stPs sg ps).1 = lcmL (ps.map (stP sg)) := rfl
  rw [e] at hk h24 hp ⊢
  unfold showN
  rw [List.getD_eq_getElem?_getD, List.getElem?_map, List.getElem?_range hk]
  show firstLit _ = _
  unfold sgn
  rw [List.map_map]
  congr 1
  refine List.map_congr_left fun p hp' => ?_
  have pos := stP_pos hpos (hv.2 p hp')
  have hd : (stP sg p).1 ∣ lcmL (ps.map (stP sg)) := dvd_lcmL (List.mem_map_of_mem hp')
  have hle : (stP sg p).1 ≤ lcmL (ps.map (stP sg)) := Nat.le_of_dvd hp hd
  have hl := pos.2 (by omega)
  show (rpt (lcmL (ps.map (stP sg)) / (stP sg p).1) (stP sg p).2).getD (k % lcmL (ps.map (stP sg))) 0 = _
  rw [List.getD_eq_getElem?_getD, List.getD_eq_getElem?_getD, rpt_get _ _ _ (by rw [hl, Nat.div_mul_cancel hd]; exact hk), hl, Nat.mod_mod_of_dvd _ hd]
end
end Fg
/-! What stands, and what is new beside it. -/
namespace Fg
open PySem PySem.Spec PyProof.Rows L2
def un (H N : Hp) : Hp := fun a => match H a with
  | some o => some o
  | none => N a
def emp : Hp := fun _ => none
/-- N is new beside H -/
def Nw (H N : Hp) : Prop := ∀ a o, N a = some o → H a = none
section
variable {H N M H' : Hp} {a b : Addr} {o : HO}
theorem un_at (h : H a = some o) : un H N a = some o := by unfold un; rw [h]
theorem un_of (h : H a = none) : un H N a = N a := by unfold un; rw [h]
theorem un_none (h : H a = none) (h' : N a = none) : un H N a = none := by rw [un_of h, h']
theorem un_free (h : un H N a = none) : H a = none ∧ N a = none := by
  cases e : H a with
  | none => exact ⟨rfl, by rw [un_of e] at h; exact h⟩
  | some o => rw [un_at e] at h; cases h
theorem un_same : Same H (un H N) := fun _ _ e => un_at e
theorem un_new (h : Nw H N) : Same N (un H N) := fun a o e => (un_of (h a o e)).trans e
theorem un_emp : un H emp = H := by
  funext a
  cases e : H a with
  | none => rw [un_of e]; rfl
  | some o => rw [un_at e]
theorem un_updL : un (upd H a o) N = upd (un H N) a o := by
  funext b
  by_cases h : b = a
  · subst h
    rw [upd_same, un_at upd_same]
  · rw [upd_ne h]
    unfold un
    rw [upd_ne h]
theorem un_updR (h : H a = none) : un H (upd N a o) = upd (un H N) a o := by
  funext b
  by_cases hb : b = a
  · subst hb
    rw [un_of h, upd_same, upd_same]
  · rw [upd_ne hb]
    unfold un
    rw [upd_ne hb]
theorem un_assoc : un (un H N) M = un H (un N M) := by
  funext a
  cases e : H a with
  | none =>
    rw [un_of e]
    unfold un
    rw [e]
  | some o => rw [un_at e, un_at (un_at e)]
theorem nw_emp : Nw H emp := fun _ _ e => nomatch e
theorem Nw.upd (h : Nw H N) (n : H a = none) : Nw H (upd N a o) := fun b o' e => by
  by_cases hb : b = a
  · rw [hb]; exact n
  · rw [upd_ne hb] at e; exact h _ _ e
theorem Nw.more (h : Nw H N) (h' : Nw (un H N) M) : Nw H (un N M) := fun b o' e => by
  cases e1 : N b with
  | some x => exact h _ _ e1
  | none => rw [un_of e1] at e; exact (un_free (h' _ _ e)).1
theorem Nw.out (h : Nw (un H N) M) : Nw N M := fun b o' e => (un_free (h _ _ e)).2
theorem Nw.less (h : Nw (L2.upd H a o) N) : Nw H N := fun b o' e => by
  have := h _ _ e
  by_cases hb : b = a
  · rw [hb, upd_same] at this; cases this
  · rw [upd_ne hb] at this; exact this
theorem Nw.not (h : Nw H N) (e : H a = some o) : N a = none := by
  cases e1 : N a with
  | none => rfl
  | some x => rw [h _ _ e1] at e; cases e
theorem upd_swap {x y : HO} (h : a ≠ b) : upd (upd H a x) b y = upd (upd H b y) a x := by
  funext c
  by_cases h1 : c = b
  · rw [h1, upd_same, upd_ne (Ne.symm h), upd_same]
  · rw [upd_ne h1]
    by_cases h2 : c = a
    · rw [h2, upd_same, upd_same]
    · rw [upd_ne h2, upd_ne h2, upd_ne h1]
end
end Fg
namespace K04
open PySem PySem.Spec PyProof.Rows L2 Fg
def topS (i : Nat) : Stmt := PySem.Challenge.pw_falseglim_k04_rhythm_texts.main.body.getD i (.Pass ⟨0, 0, 0, 0⟩)
abbrev s_common_beats : Stmt := topS 9
theorem sc_common_beats : FnScope ["first", "second", "one", "two"] ["first", "second"] (defScope s_common_beats) := ⟨rfl, rfl, rfl, by decide +kernel, rfl, by decide +kernel, by decide +kernel⟩
abbrev s_repeated : Stmt := topS 10
theorem sc_repeated : FnScope ["stretch", "times", "beats"] ["stretch", "times"] (defScope s_repeated) := ⟨rfl, rfl, rfl, by decide +kernel, rfl, by decide +kernel, by decide +kernel⟩
abbrev s_put_behind : Stmt := topS 11
theorem sc_put_behind : FnScope ["stretch", "other", "beats"] ["stretch", "other"] (defScope s_put_behind) := ⟨rfl, rfl, rfl, by decide +kernel, rfl, by decide +kernel, by decide +kernel⟩
abbrev s_first_lit : Stmt := topS 12
theorem sc_first_lit : FnScope ["signs", "sign"] ["signs"] (defScope s_first_lit) := ⟨rfl, rfl, rfl, by decide +kernel, rfl, by decide +kernel, by decide +kernel⟩
abbrev s_shown_together : Stmt := topS 13
theorem sc_shown_together : FnScope ["parts", "beats", "part", "rows", "beat", "row"] ["parts"] (defScope s_shown_together) := ⟨rfl, rfl, rfl, by decide +kernel, rfl, by decide +kernel, by decide +kernel⟩
abbrev s_behind_digits : Stmt := topS 14
theorem sc_behind_digits : FnScope ["text", "at"] ["text", "at"] (defScope s_behind_digits) := ⟨rfl, rfl, rfl, by decide +kernel, rfl, by decide +kernel, by decide +kernel⟩
abbrev s_is_within : Stmt := topS 15
theorem sc_is_within : FnScope ["run", "low", "high"] ["run", "low", "high"] (defScope s_is_within) := ⟨rfl, rfl, rfl, by decide +kernel, rfl, by decide +kernel, by decide +kernel⟩
abbrev s_read_item : Stmt := topS 16
theorem sc_read_item : FnScope ["text", "at", "opened", "low", "run", "times", "stretch"] ["text", "at", "opened"] (defScope s_read_item) := ⟨rfl, rfl, rfl, by decide +kernel, rfl, by decide +kernel, by decide +kernel⟩
abbrev s_read_filled : Stmt := topS 17
theorem sc_read_filled : FnScope ["text", "at", "part", "behind", "run", "beats"] ["text", "at", "part"] (defScope s_read_filled) := ⟨rfl, rfl, rfl, by decide +kernel, rfl, by decide +kernel, by decide +kernel⟩
abbrev s_read_part : Stmt := topS 18
theorem sc_read_part : FnScope ["text", "at", "opened", "part", "item"] ["text", "at", "opened"] (defScope s_read_part) := ⟨rfl, rfl, rfl, by decide +kernel, rfl, by decide +kernel, by decide +kernel⟩
abbrev s_read_parts : Stmt := topS 19
theorem sc_read_parts : FnScope ["text", "at", "opened", "part", "parts"] ["text", "at", "opened"] (defScope s_read_parts) := ⟨rfl, rfl, rfl, by decide +kernel, rfl, by decide +kernel, by decide +kernel⟩
abbrev s_read_round : Stmt := topS 20
theorem sc_read_round : FnScope ["text", "stretch", "at"] ["text"] (defScope s_read_round) := ⟨rfl, rfl, rfl, by decide +kernel, rfl, by decide +kernel, by decide +kernel⟩
abbrev s_L_draw : Stmt := topS 22
theorem sc_L_draw : FnScope ["_law_script", "_law_cells", "_law_cell"] ["_law_script"] (defScope s_L_draw) := ⟨rfl, rfl, rfl, by decide +kernel, rfl, by decide +kernel, by decide +kernel⟩
abbrev s_L_mix : Stmt := topS 23
theorem sc_L_mix : FnScope ["_law_cell", "_law_turn", "_law_one", "_law_two"] ["_law_cell", "_law_turn"] (defScope s_L_mix) := ⟨rfl, rfl, rfl, by decide +kernel, rfl, by decide +kernel, by decide +kernel⟩
abbrev s_L_pick : Stmt := topS 24
theorem sc_L_pick : FnScope ["_law_draw_here", "_law_many", "_law_cell", "_law_digit", "_law_found"] ["_law_draw_here", "_law_many"] (defScope s_L_pick) := ⟨rfl, rfl, rfl, by decide +kernel, rfl, by decide +kernel, by decide +kernel⟩
abbrev s_L_is_int : Stmt := topS 25
theorem sc_L_is_int : FnScope ["_law_thing"] ["_law_thing"] (defScope s_L_is_int) := ⟨rfl, rfl, rfl, by decide +kernel, rfl, by decide +kernel, by decide +kernel⟩
abbrev s_L_sign : Stmt := topS 26
theorem sc_L_sign : FnScope ["_law_draw_here"] ["_law_draw_here"] (defScope s_L_sign) := ⟨rfl, rfl, rfl, by decide +kernel, rfl, by decide +kernel, by decide +kernel⟩
abbrev s_L_common : Stmt := topS 27
theorem sc_L_common : FnScope ["_law_one", "_law_two", "_law_first", "_law_second", "_law_third"] ["_law_one", "_law_two"] (defScope s_L_common) := ⟨rfl, rfl, rfl, by decide +kernel, rfl, by decide +kernel, by decide +kernel⟩
abbrev s_L_item_count : Stmt := topS 28
theorem sc_L_item_count : FnScope ["_law_item", "_law_times"] ["_law_item"] (defScope s_L_item_count) := ⟨rfl, rfl, rfl, by decide +kernel, rfl, by decide +kernel, by decide +kernel⟩
abbrev s_L_part_count : Stmt := topS 29
theorem sc_L_part_count : FnScope ["_law_part", "_law_item"] ["_law_part"] (defScope s_L_part_count) := ⟨rfl, rfl, rfl, by decide +kernel, rfl, by decide +kernel, by decide +kernel⟩
abbrev s_L_count : Stmt := topS 30
theorem sc_L_count : FnScope ["_law_parts", "_law_many", "_law_part"] ["_law_parts"] (defScope s_L_count) := ⟨rfl, rfl, rfl, by decide +kernel, rfl, by decide +kernel, by decide +kernel⟩
abbrev s_L_part_sign : Stmt := topS 31
theorem sc_L_part_sign : FnScope ["_law_part", "_law_spot", "_law_item", "_law_many"] ["_law_part", "_law_spot"] (defScope s_L_part_sign) := ⟨rfl, rfl, rfl, by decide +kernel, rfl, by decide +kernel, by decide +kernel⟩
abbrev s_L_sign_at : Stmt := topS 32
theorem sc_L_sign_at : FnScope ["_law_parts", "_law_spot", "_law_part", "_law_sign_here"] ["_law_parts", "_law_spot"] (defScope s_L_sign_at) := ⟨rfl, rfl, rfl, by decide +kernel, rfl, by decide +kernel, by decide +kernel⟩
abbrev s_L_write_item : Stmt := topS 33
theorem sc_L_write_item : FnScope ["_law_item", "_law_text_here"] ["_law_item"] (defScope s_L_write_item) := ⟨rfl, rfl, rfl, by decide +kernel, rfl, by decide +kernel, by decide +kernel⟩
abbrev s_L_write_part : Stmt := topS 34
theorem sc_L_write_part : FnScope ["_law_part", "_law_text_here", "_law_item"] ["_law_part"] (defScope s_L_write_part) := ⟨rfl, rfl, rfl, by decide +kernel, rfl, by decide +kernel, by decide +kernel⟩
abbrev s_L_write : Stmt := topS 35
theorem sc_L_write : FnScope ["_law_parts", "_law_part"] ["_law_parts"] (defScope s_L_write) := ⟨rfl, rfl, rfl, by decide +kernel, rfl, by decide +kernel, by decide +kernel⟩
abbrev s_L_room_part : Stmt := topS 36
theorem sc_L_room_part : FnScope ["_law_draw_here", "_law_room", "_law_depth", "_law_tally", "_law_items", "_law_used", "_law_turn", "_law_left", "_law_kind", "_law_times", "_law_item"] ["_law_draw_here", "_law_room", "_law_depth", "_law_tally"] (defScope s_L_room_part) := ⟨rfl, rfl, rfl, by decide +kernel, rfl, by decide +kernel, by decide +kernel⟩
abbrev s_L_room_text : Stmt := topS 37
theorem sc_L_room_text : FnScope ["_law_draw_here", "_law_room", "_law_depth", "_law_tally", "_law_parts", "_law_turn", "_law_many", "_law_shorts", "_law_short", "_law_number"] ["_law_draw_here", "_law_room", "_law_depth", "_law_tally"] (defScope s_L_room_text) := ⟨rfl, rfl, rfl, by decide +kernel, rfl, by decide +kernel, by decide +kernel⟩
abbrev s_L_edge_text : Stmt := topS 38
theorem sc_L_edge_text : FnScope ["_law_draw_here", "_law_items", "_law_left", "_law_item"] ["_law_draw_here"] (defScope s_L_edge_text) := ⟨rfl, rfl, rfl, by decide +kernel, rfl, by decide +kernel, by decide +kernel⟩
abbrev s_L_deep_text : Stmt := topS 39
theorem sc_L_deep_text : FnScope ["_law_draw_here", "_law_parts", "_law_turn", "_law_items", "_law_kind"] ["_law_draw_here"] (defScope s_L_deep_text) := ⟨rfl, rfl, rfl, by decide +kernel, rfl, by decide +kernel, by decide +kernel⟩
abbrev s_L_free_part : Stmt := topS 40
theorem sc_L_free_part : FnScope ["_law_draw_here", "_law_depth", "_law_tally", "_law_items", "_law_turn", "_law_kind", "_law_used", "_law_item"] ["_law_draw_here", "_law_depth", "_law_tally"] (defScope s_L_free_part) := ⟨rfl, rfl, rfl, by decide +kernel, rfl, by decide +kernel, by decide +kernel⟩
abbrev s_L_free_text : Stmt := topS 41
theorem sc_L_free_text : FnScope ["_law_draw_here", "_law_depth", "_law_tally", "_law_turn"] ["_law_draw_here", "_law_depth", "_law_tally"] (defScope s_L_free_text) := ⟨rfl, rfl, rfl, by decide +kernel, rfl, by decide +kernel, by decide +kernel⟩
abbrev s_L_text : Stmt := topS 42
theorem sc_L_text : FnScope ["_law_draw_here", "_law_kind"] ["_law_draw_here"] (defScope s_L_text) := ⟨rfl, rfl, rfl, by decide +kernel, rfl, by decide +kernel, by decide +kernel⟩
abbrev s_L_due : Stmt := topS 43
theorem sc_L_due : FnScope ["_law_parts", "_law_many", "_law_spot"] ["_law_parts"] (defScope s_L_due) := ⟨rfl, rfl, rfl, by decide +kernel, rfl, by decide +kernel, by decide +kernel⟩
abbrev s_L_told : Stmt := topS 44
theorem sc_L_told : FnScope ["_law_text_here", "e"] ["_law_text_here"] (defScope s_L_told) := ⟨rfl, rfl, rfl, by decide +kernel, rfl, by decide +kernel, by decide +kernel⟩
abbrev s_L_agree : Stmt := topS 45
theorem sc_L_agree : FnScope ["_law_told_here", "_law_due_here"] ["_law_told_here", "_law_due_here"] (defScope s_L_agree) := ⟨rfl, rfl, rfl, by decide +kernel, rfl, by decide +kernel, by decide +kernel⟩
abbrev s_law : Stmt := topS 46
theorem sc_law : FnScope ["_law_script", "_law_draw_here", "_law_first", "_law_second", "_law_parts", "_law_plain", "_law_turn", "_law_sign_here"] ["_law_script"] (defScope s_law) := ⟨rfl, rfl, rfl, by decide +kernel, rfl, by decide +kernel, by decide +kernel⟩
abbrev s_BadText : Stmt := inClass (topS 2) 0
theorem sc_BadText : FnScope ["self", "at"] ["self", "at"] (defScope s_BadText) := ⟨rfl, rfl, rfl, by decide +kernel, rfl, by decide +kernel, by decide +kernel⟩
abbrev s_TooLong : Stmt := inClass (topS 3) 0
theorem sc_TooLong : FnScope ["self", "number"] ["self", "number"] (defScope s_TooLong) := ⟨rfl, rfl, rfl, by decide +kernel, rfl, by decide +kernel, by decide +kernel⟩
/-- what the top has written -/
structure Txt (K : PySem.W.Frag) (mg : Str → Option Value) (C_GlimError : Addr) (C_BadText : Addr) (C_TooLong : Addr) : Prop where
  d_common_beats : DefIn K mg "common_beats" s_common_beats ["first", "second"]
  d_repeated : DefIn K mg "repeated" s_repeated ["stretch", "times"]
  d_put_behind : DefIn K mg "put_behind" s_put_behind ["stretch", "other"]
  d_first_lit : DefIn K mg "first_lit" s_first_lit ["signs"]
  d_shown_together : DefIn K mg "shown_together" s_shown_together ["parts"]
  d_behind_digits : DefIn K mg "behind_digits" s_behind_digits ["text", "at"]
  d_is_within : DefIn K mg "is_within" s_is_within ["run", "low", "high"]
  d_read_item : DefIn K mg "read_item" s_read_item ["text", "at", "opened"]
  d_read_filled : DefIn K mg "read_filled" s_read_filled ["text", "at", "part"]
  d_read_part : DefIn K mg "read_part" s_read_part ["text", "at", "opened"]
  d_read_parts : DefIn K mg "read_parts" s_read_parts ["text", "at", "opened"]
  d_read_round : DefIn K mg "read_round" s_read_round ["text"]
  d_L_draw : DefIn K mg "_law_draw" s_L_draw ["_law_script"]
  d_L_mix : DefIn K mg "_law_mix" s_L_mix ["_law_cell", "_law_turn"]
  d_L_pick : DefIn K mg "_law_pick" s_L_pick ["_law_draw_here", "_law_many"]
  d_L_is_int : DefIn K mg "_law_is_int" s_L_is_int ["_law_thing"]
  d_L_sign : DefIn K mg "_law_sign" s_L_sign ["_law_draw_here"]
  d_L_common : DefIn K mg "_law_common" s_L_common ["_law_one", "_law_two"]
  d_L_item_count : DefIn K mg "_law_item_count" s_L_item_count ["_law_item"]
  d_L_part_count : DefIn K mg "_law_part_count" s_L_part_count ["_law_part"]
  d_L_count : DefIn K mg "_law_count" s_L_count ["_law_parts"]
  d_L_part_sign : DefIn K mg "_law_part_sign" s_L_part_sign ["_law_part", "_law_spot"]
  d_L_sign_at : DefIn K mg "_law_sign_at" s_L_sign_at ["_law_parts", "_law_spot"]
  d_L_write_item : DefIn K mg "_law_write_item" s_L_write_item ["_law_item"]
  d_L_write_part : DefIn K mg "_law_write_part" s_L_write_part ["_law_part"]
  d_L_write : DefIn K mg "_law_write" s_L_write ["_law_parts"]
  d_L_room_part : DefIn K mg "_law_room_part" s_L_room_part ["_law_draw_here", "_law_room", "_law_depth", "_law_tally"]
  d_L_room_text : DefIn K mg "_law_room_text" s_L_room_text ["_law_draw_here", "_law_room", "_law_depth", "_law_tally"]
  d_L_edge_text : DefIn K mg "_law_edge_text" s_L_edge_text ["_law_draw_here"]
  d_L_deep_text : DefIn K mg "_law_deep_text" s_L_deep_text ["_law_draw_here"]
  d_L_free_part : DefIn K mg "_law_free_part" s_L_free_part ["_law_draw_here", "_law_depth", "_law_tally"]
  d_L_free_text : DefIn K mg "_law_free_text" s_L_free_text ["_law_draw_here", "_law_depth", "_law_tally"]
  d_L_text : DefIn K mg "_law_text" s_L_text ["_law_draw_here"]
  d_L_due : DefIn K mg "_law_due" s_L_due ["_law_parts"]
  d_L_told : DefIn K mg "_law_told" s_L_told ["_law_text_here"]
  d_L_agree : DefIn K mg "_law_agree" s_L_agree ["_law_told_here", "_law_due_here"]
  d_law : DefIn K mg "law" s_law ["_law_script"]
  b_ValueError : mg "ValueError" = none
  b_abs : mg "abs" = none
  b_bool : mg "bool" = none
  b_int : mg "int" = none
  b_isinstance : mg "isinstance" = none
  b_len : mg "len" = none
  b_max : mg "max" = none
  b_min : mg "min" = none
  b_range : mg "range" = none
  b_str : mg "str" = none
  b_sum : mg "sum" = none
  g_SIGNS : ∃ t, mg "SIGNS" = some (.str ⟨([46, 103, 114, 119] : List Nat).toArray⟩ t)
  g_MOST_ROUND : ∃ t, mg "MOST_ROUND" = some (.int 24 t)
  g_DIGITS : ∃ t, mg "DIGITS" = some (.str ⟨([48, 49, 50, 51, 52, 53, 54, 55, 56, 57] : List Nat).toArray⟩ t)
  g_MOST_OPEN : ∃ t, mg "MOST_OPEN" = some (.int 6 t)
  c_GlimError : mg "GlimError" = some (.ref C_GlimError)
  c_BadText : mg "BadText" = some (.ref C_BadText)
  c_TooLong : mg "TooLong" = some (.ref C_TooLong)
  o_BadText : OexC K C_BadText
  nf_BadText : PySem.W.findIn K (.ref C_BadText) "at" = some none
  i_BadText : ∃ fI fd, PySem.W.findIn K (.ref C_BadText) "__init__" = some (some (.ref fI)) ∧ PySem.W.typeIn K (.ref fI) = some (.type "function") ∧ Fun K "__init__" "BadText.__init__" s_BadText fI fd ∧ Binds K fd ["self", "at"] []
  e_BadText : ExcD K C_BadText
  o_TooLong : OexC K C_TooLong
  nf_TooLong : PySem.W.findIn K (.ref C_TooLong) "number" = some none
  i_TooLong : ∃ fI fd, PySem.W.findIn K (.ref C_TooLong) "__init__" = some (some (.ref fI)) ∧ PySem.W.typeIn K (.ref fI) = some (.type "function") ∧ Fun K "__init__" "TooLong.__init__" s_TooLong fI fd ∧ Binds K fd ["self", "number"] []
  e_TooLong : ExcD K C_TooLong
  k_TooLong_GlimError : PySem.W.kitOne K (.ref C_TooLong) (.ref C_GlimError) = some true
  k_TooLong_ValueError : PySem.W.kitOne K (.ref C_TooLong) (.type "ValueError") = some true
  k_TooLong_BadText : PySem.W.kitOne K (.ref C_TooLong) (.ref C_BadText) = some false
  m_TooLong_TooLong : PySem.W.exmOne K (.ref C_TooLong) (.ref C_TooLong) = some true
section
variable {P : Program} {w : World} {K : PySem.W.Frag} {mg : Str → Option Value} {base : Heap} {C_GlimError C_BadText C_TooLong : Addr}
theorem okx_BadText (T : Txt K mg C_GlimError C_BadText C_TooLong) : OKx P w K mg base "BadText" "at" C_BadText := by
  obtain ⟨fI, fd, h1, h2, F, hb⟩ := T.i_BadText
  exact ⟨T.c_BadText, T.o_BadText, T.nf_BadText, fI, fd, h1, h2, ini_ok F sc_BadText T.o_BadText T.nf_BadText (fun cdv A outer s H E => (pss_one (ps_ost (pv 0) (pv 1)))), hb⟩
theorem okx_TooLong (T : Txt K mg C_GlimError C_BadText C_TooLong) : OKx P w K mg base "TooLong" "number" C_TooLong := by
  obtain ⟨fI, fd, h1, h2, F, hb⟩ := T.i_TooLong
  exact ⟨T.c_TooLong, T.o_TooLong, T.nf_TooLong, fI, fd, h1, h2, ini_ok F sc_TooLong T.o_TooLong T.nf_TooLong (fun cdv A outer s H E => (pss_one (ps_ost (pv 0) (pv 1)))), hb⟩
end
end K04
namespace K04
open PySem PySem.Spec PyProof.Rows L2 Fg
local macro_rules | `(tactic| walk_at "sq") => `(tactic| first
  | assumption
  | exact .inl (.inl (by assumption))
  | exact .inl (.inl upd_same))
local macro_rules | `(tactic| walk_at "st") => `(tactic| first
  | assumption
  | exact .inl (.inl (by assumption))
  | exact .inl (.inl upd_same))
local macro_rules | `(tactic| walk_at "o") => `(tactic| first
  | omega
  | assumption
  | (simp only [List.length_append, List.length_take, List.length_drop, List.length_cons, List.length_nil, List.length_singleton, List.length_map, List.length_range, Int.toNat_natCast] ; omega))
local macro_rules | `(tactic| walk_at "s") => `(tactic| first
  | (with_reducible refine i_seq ?_)
  | (with_reducible refine i_asg ?_)
  | ((with_reducible refine' i_var ?h1 ?_); (case h1 => rfl))
  | (with_reducible refine i_c ?_)
  | ((with_reducible refine' i_gname' ?h1 ?_); (case h1 => (simp only [List.set_cons_zero, List.set_cons_succ]; rfl)))
  | (with_reducible refine i_op ?_)
  | (with_reducible refine i_ifS ?_)
  | (with_reducible refine i_for ?_)
  | (with_reducible refine i_test ?_)
  | (with_reducible refine i_B ?_)
  | (with_reducible refine i_exbl ?_)
  | (with_reducible refine i_exint ?_)
  | (with_reducible refine i_cb ?_)
  | (with_reducible refine i_nil ?_)
  | (with_reducible refine i_cons ?_)
  | (with_reducible refine i_ret ?_)
  | (with_reducible refine i_sl ?_)
  | (with_reducible refine i_nopart ?_)
  | (with_reducible refine i_part ?_)
  | (with_reducible refine i_add_int ?_)
  | (with_reducible refine i_sub ?_)
  | (with_reducible refine i_lt ?_)
  | ((with_reducible refine' i_mod ?h1 ?_); (case h1 => walk_at "o"))
  | ((with_reducible refine' i_fdiv ?h1 ?_); (case h1 => (refine cdiv_small ?_ ?_ <;> walk_at "o")))
  | ((with_reducible refine' i_sl_to ?h1 ?h2 ?_); (case h1 => walk_at "o"); (case h2 => walk_at "o"))
  | ((with_reducible refine' i_sl_from ?h1 ?h2 ?_); (case h1 => walk_at "o"); (case h2 => walk_at "o"))
  | ((with_reducible refine' i_add_str ?h1 ?_); (case h1 => walk_at "o"))
  | ((with_reducible refine' i_mul_int ?h1 ?_); (case h1 => first | (refine mul_small ?_ ?_ <;> walk_at "o") | (refine mul_smallR ?_ ?_ <;> walk_at "o")))
  | (with_reducible refine i_le ?_)
  | (with_reducible refine i_gt ?_)
  | (with_reducible refine i_ge ?_)
  | (with_reducible refine i_eq_int ?_)
  | (with_reducible refine i_eq_str ?_)
  | (with_reducible refine i_ne_int ?_)
  | (with_reducible refine i_ne_str ?_)
  | (with_reducible refine i_eq_bl ?_)
  | (with_reducible refine i_ne_bl ?_)
  | (with_reducible refine i_in_sg ?_)
  | (with_reducible refine i_notIn_sg ?_)
  | (with_reducible refine i_call ?_)
  | (with_reducible refine i_callS ?_)
  | (with_reducible refine i_sp1 ?_)
  | (with_reducible refine i_sp2 ?_)
  | (with_reducible refine i_sp3 ?_)
  | (with_reducible refine i_sp4 ?_)
  | (with_reducible refine i_sp1' ?_)
  | (with_reducible refine i_sp2' ?_)
  | (with_reducible refine i_sp3' ?_)
  | ((with_reducible refine' i_ix_lst ?h1 ?h2 ?_); (case h1 => walk_at "sq"); (case h2 => first | exact atI_nat rfl | rfl))
  | ((with_reducible refine' i_ix_tup ?h1 ?h2 ?_); (case h1 => walk_at "st"); (case h2 => first | exact atI_nat rfl | rfl))
  | (with_reducible refine i_gsub ?_)
  | (with_reducible refine i_par ?_)
  | (with_reducible refine i_lstRg1 ?_)
  | (with_reducible refine i_app ?_)
  | (with_reducible refine i_par2 ?_)
  | ((with_reducible refine' i_aug ?h1 ?_); (case h1 => rfl))
  | (with_reducible refine i_ipI ?_)
  | ((with_reducible refine' i_gtup2 ?h1 ?_); (case h1 => walk_at "st"))
  | (with_reducible refine i_int_bl ?_)
  | (with_reducible refine i_raise ?_)
  | (with_reducible refine i_mkE ?_)
  | (with_reducible refine i_ex1 ?_)
  | (with_reducible refine i_and ?_)
  | (with_reducible refine i_or ?_)
  | (with_reducible refine i_not ?_)
  | (with_reducible refine i_tt ?_)
  | (with_reducible refine i_ff ?_)
  | (with_reducible refine i_nott ?_)
  | (with_reducible refine i_notf ?_)
  | (with_reducible refine i_andV ?_)
  | (with_reducible refine i_orV ?_)
  | (with_reducible refine i_notV ?_)
  | (with_reducible refine i_ifE ?_)
  | (with_reducible refine i_tup ?_)
  | (with_reducible refine i_lst ?_)
  | (with_reducible refine i_un ?_)
  | (with_reducible refine i_neg ?_)
  | (with_reducible refine i_chain ?_)
  | (with_reducible refine i_next ?_)
  | (with_reducible refine i_retN ?_)
  | (with_reducible refine i_drop ?_)
  | (with_reducible refine i_int_int ?_)
  | (with_reducible refine i_abs ?_)
  | (with_reducible refine i_m1c ?_)
  | (with_reducible refine i_is_non ?_)
  | (with_reducible refine i_is_int ?_)
  | (with_reducible refine i_is_bl ?_)
  | (with_reducible refine i_isn_bl ?_)
  | (with_reducible refine i_is_str ?_)
  | (with_reducible refine i_is_ref ?_)
  | (with_reducible refine i_isn_non ?_)
  | (with_reducible refine i_isn_int ?_)
  | (with_reducible refine i_isn_str ?_)
  | (with_reducible refine i_isn_ref ?_)
  | (with_reducible refine i_len_str ?h1 ?_; (case h1 => walk_at "o"))
  | (with_reducible refine i_isi_int_int ?_) | (with_reducible refine i_isi_int_bool ?_) | (with_reducible refine i_isi_int_str ?_) | (with_reducible refine i_isi_int_tuple ?_) | (with_reducible refine i_isi_int_list ?_)
  | (with_reducible refine i_isi_bl_int ?_) | (with_reducible refine i_isi_bl_bool ?_) | (with_reducible refine i_isi_bl_str ?_) | (with_reducible refine i_isi_bl_tuple ?_) | (with_reducible refine i_isi_bl_list ?_)
  | (with_reducible refine i_isi_str_int ?_) | (with_reducible refine i_isi_str_bool ?_) | (with_reducible refine i_isi_str_str ?_) | (with_reducible refine i_isi_str_tuple ?_) | (with_reducible refine i_isi_str_list ?_)
  | (with_reducible refine i_isi_non_int ?_) | (with_reducible refine i_isi_non_bool ?_) | (with_reducible refine i_isi_non_str ?_) | (with_reducible refine i_isi_non_tuple ?_) | (with_reducible refine i_isi_non_list ?_))
local macro_rules | `(tactic| walk_at "go") => `(tactic| (repeat' (walk_at "s")))
local macro_rules | `(tactic| walk_at "n") => `(tactic| simp only [wipe, List.map_cons, List.map_nil, List.set_cons_zero, List.set_cons_succ])
/-! ### draws: the list at a holds a place in the script's cells (at c) and what is left of a great one -/
structure Dd where
  a : Addr
  c : Addr
  ns : List Int
/-- H0: what is known besides -/
def Dr (K : PySem.W.Frag) (d : Dd) (H0 H : Hp) : Prop := Same H0 H ∧ H0 d.a = none ∧ SqL K H0 d.c (d.ns.map V.int) ∧ d.ns.length ≤ 100 ∧ ∃ p b u x s : Int, H d.a = some (.lst [.ref d.c, .int p, .int b, .int u, .int x, .int s]) ∧ 0 ≤ p
section
variable {K : PySem.W.Frag} {d : Dd} {H0 H H' H1 : Hp} {q : Addr} {o o' : HO}
theorem Dr.same (h : Dr K d H0 H) (s : Same H H') : Dr K d H0 H' := by
  obtain ⟨s0, n0, hc, hl, p, b, u, x, sd, ha, hp⟩ := h
  exact ⟨s0.trans s, n0, hc, hl, p, b, u, x, sd, s _ _ ha, hp⟩
theorem Dr.new (h : Dr K d H0 H) (n : H q = none) : Dr K d (upd H0 q o) (upd H q o) := by
  obtain ⟨s0, n0, hc, hl, p, b, u, x, sd, ha, hp⟩ := h
  have nq : d.a ≠ q := ne_of_none ha n
  have s1 : Same H0 (upd H0 q o) := same_upd (s0.free n)
  refine ⟨fun b' o' e => ?_, by rw [upd_ne nq]; exact n0, s1.seq hc, hl, p, b, u, x, sd, by rw [upd_ne nq]; exact ha, hp⟩
  by_cases hb : b' = q
  · rw [hb, upd_same] at e
    rw [hb, upd_same]; exact e
  · rw [upd_ne hb] at e
    rw [upd_ne hb]; exact s0 _ _ e
/-- an object that is known changes -/
theorem Dr.put (h : Dr K d (upd H0 q o) H) (hc : SqL K H0 d.c (d.ns.map V.int)) (n : H0 q = none) : Dr K d (upd H0 q o') (upd H q o') := by
  obtain ⟨s0, n0, _, hl, p, b, u, x, sd, ha, hp⟩ := h
  have nq : d.a ≠ q := fun z => by rw [z, upd_same] at n0; cases n0
  have s1 : Same H0 (upd H0 q o') := same_upd n
  rw [upd_ne nq] at n0
  refine ⟨fun b' o' e => ?_, by rw [upd_ne nq]; exact n0, s1.seq hc, hl, p, b, u, x, sd, by rw [upd_ne nq]; exact ha, hp⟩
  by_cases hb : b' = q
  · rw [hb, upd_same] at e
    rw [hb, upd_same]; exact e
  · rw [upd_ne hb] at e
    rw [upd_ne hb]; exact s0 _ _ (by rw [upd_ne hb]; exact e)
/-- more, or less, is known -/
theorem Dr.know (h : Dr K d H0 H) (s0 : Same H0 H1) (s1 : Same H1 H) (n : H1 d.a = none) : Dr K d H1 H := by
  obtain ⟨_, n0, hc, hl, p, b, u, x, sd, ha, hp⟩ := h
  exact ⟨s1, n, s0.seq hc, hl, p, b, u, x, sd, ha, hp⟩
theorem Dr.less (h : Dr K d (upd H0 q o) H) (hc : SqL K H0 d.c (d.ns.map V.int)) (n : H0 q = none) : Dr K d H0 H := by
  obtain ⟨s0, n0, _, hl, p, b, u, x, sd, ha, hp⟩ := h
  have nq : d.a ≠ q := fun z => by rw [z, upd_same] at n0; cases n0
  rw [upd_ne nq] at n0
  exact ⟨(same_upd n).trans s0, n0, hc, hl, p, b, u, x, sd, ha, hp⟩
theorem Dr.old (h : Dr K d H0 H) (e : H0 q = some o) : H q = some o := h.1 _ _ e
theorem Dr.cells (h : Dr K d H0 H) : SqL K H0 d.c (d.ns.map V.int) := h.2.2.1
theorem Dr.free (h : Dr K d H0 H) (n : H q = none) : H0 q = none := h.1.free n
/-- what a call that leaves all as it was hands back new -/
theorem Dr.got (h : Dr K d H0 H) (n : H q = none) (s : Same H H') (e : H' q = some o) : Dr K d (upd H0 q o) H' := by
  obtain ⟨s0, n0, hc, hl, p, b, u, x, sd, ha, hp⟩ := h
  have nq : d.a ≠ q := ne_of_none ha n
  have s1 : Same H0 (upd H0 q o) := same_upd (s0.free n)
  refine ⟨fun b' o' e' => ?_, by rw [upd_ne nq]; exact n0, s1.seq hc, hl, p, b, u, x, sd, s _ _ ha, hp⟩
  by_cases hb : b' = q
  · rw [hb, upd_same] at e'
    rw [hb, e]; exact e'
  · rw [upd_ne hb] at e'
    exact s _ _ (s0 _ _ e')
end
theorem range_getD (xs : List V) : (List.range xs.length).map (fun i => xs.getD i .non) = xs := by
  refine List.ext_getElem? fun i => ?_
  rw [List.getElem?_map]
  by_cases h : i < xs.length
  · rw [List.getElem?_range h, Option.map_some, List.getD_eq_getElem?_getD, List.getElem?_eq_getElem h]
    rfl
  · rw [List.getElem?_eq_none (by simpa using h), List.getElem?_eq_none (by omega)]
    rfl
def Btw (n many : Int) : Prop := 0 ≤ n ∧ (2 ≤ many → n < many) ∧ (many < 2 → n = 0)
section
variable {P : Program} {w : World} {K : PySem.W.Frag} {mg : Str → Option Value} {base : Heap} {C_GlimError C_BadText C_TooLong : Addr}
def p_L_draw (K : PySem.W.Frag) : P1 := fun v H Q _ => ∃ (a0 : Addr) (ns : List Int), v = .ref a0 ∧ SqL K H a0 (ns.map V.int) ∧ ns.length ≤ 100 ∧ ∀ H0 d H', Same H H0 → Dr K d H0 H' → Q (.ref d.a) H'
theorem ok_L_draw (T : Txt K mg C_GlimError C_BadText C_TooLong) : OK P w K mg base CX0 1 "_law_draw" ["_law_script"] (sp1  (p_L_draw K)) := by
  refine OK.mk (k := 0) T.d_L_draw sc_L_draw len1 fun f cdv A outer s H vs Q E hr h => ?_
  obtain ⟨x, rfl, h⟩ := h
  refine ⟨_, (pss_cons (ps_setLc (i := 1) (own := [("_law_cell", 2)]) (g := gName 2) (tt := tYes) (by rfl) sc_L_draw.nd rfl rfl (sw_true rfl rfl rfl (by decide +kernel)) (piAny K (pv 0)) (blkOk_by (own := [("_law_cell", 2)]) (N := ["_law_script", "_law_cells", "_law_cell"]) (sc := (defScope s_L_draw)) (by decide +kernel)) (fun _ _ _ _ _ => (pg_name (i := 2) sc_L_draw.nd rfl (Or.inl rfl))) (fun _ _ _ _ _ => pts_nil) (fun _ _ _ _ _ => (pv 2))) (pss_one (ps_ret (pe_lst (pa_cons (pv 1) (pa_cons pe_int (pa_cons pe_int (pa_cons pe_int (pa_cons pe_int (pa_cons (pe_op (opAdd K) (pe_op op_modP (pe_callTy call_intP (by rfl) T.b_int (by decide +kernel) (pa_cons (pe_callB (cSum K rfl) (by rfl) T.b_sum (by decide +kernel) (pa_cons (pv 1) pa_nil)) pa_nil)) pe_int) (pe_op op_mulP pe_int (pe_callB (cLen K) (by rfl) T.b_len (by decide +kernel) (pa_cons (pv 1) pa_nil)))) pa_nil)))))))))), ?_⟩
  show (_ : TS) { nx := fun _ H' => Q .non H', rt := Q } [some x, none, none] H
  obtain ⟨a0, ns, rfl, hS, hl, q⟩ := h
  walk_at "go"
  refine c_lst (xs := ns.map V.int) (fun R k => by walk_at "go"; exact k) hS (by rw [List.length_map]; omega) (fun _ => true) (fun i => (ns.map V.int).getD i .non) (fun _ => rfl) (fun i v H2 hi s2 QB k => k H2 (Same.refl H2)) (fun i v H2 hi s2 _ QV k => ?_) (fun Dl H2 n2 s2 d2 => ?_)
  · show (_ : TE) [some (.ref a0), none, some v] H2 QV
    walk_at "go"
    have e : v = (ns.map V.int).getD i .non := by rw [List.getD_eq_getElem?_getD, hi]; rfl
    rw [e]
    exact k H2 (Same.refl H2)
  · rw [kept_all, range_getD] at d2
    walk_at "go"
    refine i_sum (ns := ns) (.inl (.inl d2)) ?_
    walk_at "go"
    refine i_len_lst (.inl (.inl d2)) ?_
    walk_at "go"
    refine i_new (by show 6 ≤ 100000; omega) fun a na => ?_
    walk_at "go"
    exact q H2 ⟨a, Dl, ns⟩ _ s2 ⟨same_upd na, na, .inl (.inl d2), hl, _, _, _, _, _, upd_same, Int.le_refl _⟩
def p_L_mix : P2 := fun x y H Q _ => ∃ a b : Int, x = .int a ∧ y = .int b ∧ ∀ r : Int, Q (.int r) H
theorem ok_L_mix (T : Txt K mg C_GlimError C_BadText C_TooLong) : OK P w K mg base CX0 1 "_law_mix" ["_law_cell", "_law_turn"] (sp2  p_L_mix) := by
  refine OK.mk (k := 0) T.d_L_mix sc_L_mix len2 fun f cdv A outer s H vs Q E hr h => ?_
  obtain ⟨x, y, rfl, h⟩ := h
  refine ⟨_, (pss_cons (ps_set (i := 2) sc_L_mix.nd rfl (Or.inl rfl) (pe_op op_modP (pe_callTy call_intP (by rfl) T.b_int (by decide +kernel) (pa_cons (pe_op (opAdd K) (pe_op (opAdd K) (pe_op op_mulP (pv 0) pe_int) (pe_op op_mulP (pv 1) pe_int)) pe_int) pa_nil)) pe_int)) (pss_cons (ps_set (i := 3) sc_L_mix.nd rfl (Or.inl rfl) (pe_op op_modP (pe_callTy call_intP (by rfl) T.b_int (by decide +kernel) (pa_cons (pe_op (opAdd K) (pe_op (opAdd K) (pe_op op_mulP (pv 2) (pv 2)) (pe_op op_mulP (pv 1) pe_int)) (pv 0)) pa_nil)) pe_int)) (pss_cons (ps_set (i := 3) sc_L_mix.nd rfl (Or.inl rfl) (pe_op op_modP (pe_callTy call_intP (by rfl) T.b_int (by decide +kernel) (pa_cons (pe_op (opAdd K) (pe_op op_mulP (pv 3) (pv 3)) (pv 2)) pa_nil)) pe_int)) (pss_one (ps_ret (pe_op op_fdivP (pv 3) pe_int)))))), ?_⟩
  show (_ : TS) { nx := fun _ H' => Q .non H', rt := Q } [some x, some y, none, none] H
  obtain ⟨c, t, rfl, rfl, q⟩ := h
  walk_at "go"
  have h1 : 0 ≤ (c * 48271 + t * 69621 + 12345) % 2147483647 := Int.emod_nonneg _ (by decide)
  have h2 : (c * 48271 + t * 69621 + 12345) % 2147483647 < 2147483647 := Int.emod_lt_of_pos _ (by decide)
  generalize (c * 48271 + t * 69621 + 12345) % 2147483647 = o at *
  walk_at "go"
  have h3 : 0 ≤ (o * o + t * 7919 + c) % 998244353 := Int.emod_nonneg _ (by decide)
  have h4 : (o * o + t * 7919 + c) % 998244353 < 998244353 := Int.emod_lt_of_pos _ (by decide)
  generalize (o * o + t * 7919 + c) % 998244353 = o2 at *
  walk_at "go"
  exact q _
/-- a number from 0 to less than so many; the draws go on -/
def p_L_pick (K : PySem.W.Frag) : P2 := fun x y H Q _ => ∃ (H0 : Hp) (d : Dd) (many : Int), x = .ref d.a ∧ y = .int many ∧ Dr K d H0 H ∧ many ≤ 10000000000000000000000000000000000000000 ∧ ∀ (n : Int) H', Dr K d H0 H' → Btw n many → Q (.int n) H'
theorem wide_many {b many : Int} (h : 0 < many) (h2 : many ≤ 10000000000000000000000000000000000000000) : CDivW b many := by
  refine wide_div (b := 140) h ?_ (by decide) (by decide)
  have e : (2 : Nat) ^ 140 = 1393796574908163946345982392040522594123776 := by decide +kernel
  rw [e]
  omega
theorem ok_L_pick (T : Txt K mg C_GlimError C_BadText C_TooLong) : OK P w K mg base CX0 2 "_law_pick" ["_law_draw_here", "_law_many"] (sp2  (p_L_pick K)) := by
  refine OK.mk (k := 1) T.d_L_pick sc_L_pick len2 fun f cdv A outer s H vs Q E hr h => ?_
  obtain ⟨x, y, rfl, h⟩ := h
  refine ⟨_, (pss_cons (ps_if (pt_cmpR op_ltP (pv 1) pe_int (nomark _)) (pss_one (ps_ret pe_int)) pss_nil) (Evl.pss_cut (ps_if (pw_and (pt_cmpR (opEq K hr.units) (pe_ix (ixK K) (pv 0) pe_int (fun _ _ => rfl)) pe_int (nomark _)) (pw_and (pt_cmpR op_ltP (pe_ix (ixK K) (pv 0) pe_int (fun _ _ => rfl)) (pe_callB (cLen K) (by rfl) T.b_len (by decide +kernel) (pa_cons (pe_ix (ixK K) (pv 0) pe_int (fun _ _ => rfl)) pa_nil)) (nomark _)) (pw_and1 (pt_cmpR (opEq K hr.units) (pe_ix (ixK K) (pv 0) pe_int (fun _ _ => rfl)) pe_int (nomark _))))).pt (pss_cons (ps_set (i := 2) sc_L_pick.nd rfl (Or.inl rfl) (pe_ix (ixK K) (pe_ix (ixK K) (pv 0) pe_int (fun _ _ => rfl)) (pe_ix (ixK K) (pv 0) pe_int (fun _ _ => rfl)) (fun _ _ => rfl))) (pss_one (ps_if (pw_or (pt_cmpR op_geP (pv 2) (pe_op op_powP pe_int pe_int) (nomark _)) (pw_or1 (pt_cmpR op_leP (pv 2) (pe_un un_neg (pe_op op_powP pe_int pe_int)) (nomark _)))).pt (pss_cons (ps_asg (pe_op op_modP (pe_callTy call_intP (by rfl) T.b_int (by decide +kernel) (pa_cons (pe_callB call_absP (by rfl) T.b_abs (by decide +kernel) (pa_cons (pv 2) pa_nil)) pa_nil)) (pe_op op_powP (pe_op op_powP pe_int pe_int) pe_int)) (pg_sub (pv 0) pe_int set_list)) (pss_one (ps_asg (pe_op (opAdd K) (pe_ix (ixK K) (pv 0) pe_int (fun _ _ => rfl)) pe_int) (pg_sub (pv 0) pe_int set_list)))) pss_nil))) pss_nil) (pss_cons (ps_if (pt_cmpR op_gtP (pe_ix (ixK K) (pv 0) pe_int (fun _ _ => rfl)) pe_int (nomark _)) (pss_cons (ps_set (i := 3) sc_L_pick.nd rfl (Or.inl rfl) (pe_op op_modP (pe_callTy call_intP (by rfl) T.b_int (by decide +kernel) (pa_cons (pe_ix (ixK K) (pv 0) pe_int (fun _ _ => rfl)) pa_nil)) (pv 1))) (pss_cons (ps_asg (pe_op op_fdivP (pe_ix (ixK K) (pv 0) pe_int (fun _ _ => rfl)) (pv 1)) (pg_sub (pv 0) pe_int set_list)) (pss_one (ps_ret (pv 3))))) pss_nil) (pss_cons (ps_if (pt_cmpR op_ltP (pe_ix (ixK K) (pv 0) pe_int (fun _ _ => rfl)) (pe_callB (cLen K) (by rfl) T.b_len (by decide +kernel) (pa_cons (pe_ix (ixK K) (pv 0) pe_int (fun _ _ => rfl)) pa_nil)) (nomark _)) (pss_cons (ps_set (i := 2) sc_L_pick.nd rfl (Or.inl rfl) (pe_ix (ixK K) (pe_ix (ixK K) (pv 0) pe_int (fun _ _ => rfl)) (pe_ix (ixK K) (pv 0) pe_int (fun _ _ => rfl)) (fun _ _ => rfl))) (pss_cons (ps_asg (pe_op (opAdd K) (pe_ix (ixK K) (pv 0) pe_int (fun _ _ => rfl)) pe_int) (pg_sub (pv 0) pe_int set_list)) (pss_cons (ps_set (i := 4) sc_L_pick.nd rfl (Or.inl rfl) (pe_op op_modP (pe_callTy call_intP (by rfl) T.b_int (by decide +kernel) (pa_cons (pe_f (ok_L_mix (K := K) T) (hr.mono (by decide)) pass0 (pa_cons (pe_op (opAdd K) (pv 2) (pe_op op_mulP pe_int (pe_ix (ixK K) (pv 0) pe_int (fun _ _ => rfl)))) (pa_cons (pe_ix (ixK K) (pv 0) pe_int (fun _ _ => rfl)) pa_nil))) pa_nil)) (pv 1))) (Evl.pss_cut (ps_if (pt_cmpR (opEq K hr.units) (pe_ix (ixK K) (pv 0) pe_int (fun _ _ => rfl)) pe_int (nomark _)) (pss_cons (ps_asg pe_int (pg_sub (pv 0) pe_int set_list)) (pss_one (ps_asg (pe_op (opAdd K) (pe_ix (ixK K) (pv 0) pe_int (fun _ _ => rfl)) pe_int) (pg_sub (pv 0) pe_int set_list)))) pss_nil) (pss_one (ps_ret (pv 4))))))) pss_nil) (pss_cons (ps_asg (pe_op (opAdd K) (pe_ix (ixK K) (pv 0) pe_int (fun _ _ => rfl)) pe_int) (pg_sub (pv 0) pe_int set_list)) (pss_one (ps_ret (pe_op op_modP (pe_callTy call_intP (by rfl) T.b_int (by decide +kernel) (pa_cons (pe_f (ok_L_mix (K := K) T) (hr.mono (by decide)) pass0 (pa_cons (pe_ix (ixK K) (pv 0) pe_int (fun _ _ => rfl)) (pa_cons (pe_op (opAdd K) (pe_ix (ixK K) (pv 0) pe_int (fun _ _ => rfl)) pe_int) pa_nil))) pa_nil)) (pv 1))))))))), ?_⟩
  show (_ : TS) { nx := fun _ H' => Q .non H', rt := Q } [some x, some y, none, none, none] H
  obtain ⟨H0, d, many, rfl, rfl, dr, hmax, q⟩ := h
  walk_at "go"
  refine i_dec (fun e => ?_) (fun e => ?_)
  · walk_at "go"
    exact q 0 H dr ⟨Int.le_refl _, fun z => by omega, fun _ => rfl⟩
  walk_at "go"
  have hpos : 0 < many := by omega
  -- a great cell is taken up
  refine i_cut (fun σ H' => ∃ v2 v3 v4, σ = [some (.ref d.a), some (.int many), v2, v3, v4] ∧ Dr K d H0 H') ?_ ?_
  · obtain ⟨a, c, ns⟩ := d
    obtain ⟨s0, n0, hC, hl, p, b, u, x, sd, hA, hp⟩ := id dr
    dsimp only at *
    have hC' : SqL K H c (ns.map V.int) := s0.seq hC
    have skip : ∃ v2 v3 v4, ([some (.ref a), some (.int many), none, none, none] : L2.St) = [some (.ref a), some (.int many), v2, v3, v4] ∧ Dr K ⟨a, c, ns⟩ H0 H := ⟨_, _, _, rfl, dr⟩
    walk_at "go"
    refine i_dec (fun e1 => ?_) (fun e1 => skip)
    walk_at "go"
    refine i_len_lst hC' ?_
    walk_at "go"
    refine i_dec (fun e2 => ?_) (fun e2 => skip)
    walk_at "go"
    refine i_dec (fun e3 => ?_) (fun e3 => skip)
    walk_at "go"
    rw [List.length_map] at e2
    have hpl : p.toNat < ns.length := by omega
    refine i_ix_lst (v := .int ns[p.toNat]) hC' (atI_int hp (by rw [List.getElem?_map, List.getElem?_eq_getElem hpl]; rfl)) ?_
    walk_at "go"
    refine i_pow (by decide +kernel) ?_
    walk_at "go"
    have fin : ∃ v2 v3 v4, ([some (.ref a), some (.int many), some (.int ns[p.toNat]), none, none] : L2.St) = [some (.ref a), some (.int many), v2, v3, v4] ∧ Dr K ⟨a, c, ns⟩ H0 H := ⟨_, _, _, rfl, dr⟩
    refine i_dec (fun e4 => ?_) (fun e4 => ?_)
    case' refine_2 =>
      walk_at "go"
      refine i_pow (by decide +kernel) ?_
      walk_at "go"
      refine i_dec (fun e5 => ?_) (fun e5 => fin)
    all_goals
      walk_at "go"
      refine i_pow (by decide +kernel) ?_
      walk_at "go"
      refine i_pow (by decide +kernel) ?_
      walk_at "go"
      refine i_mod (by decide +kernel) ?_
      walk_at "go"
      refine i_setL 2 hA rfl rfl ?_
      walk_at "go"
      refine i_setL 1 upd_same rfl rfl ?_
      walk_at "go"
      rw [upd_upd]
      exact ⟨_, _, _, rfl, Same.upd s0 n0, n0, hC, hl, _, _, _, _, _, upd_same, by omega⟩
  · rintro σ H1 ⟨v2, v3, v4, rfl, d1⟩
    obtain ⟨a, c, ns⟩ := d
    obtain ⟨s0, n0, hC, hl, p, b, u, x, sd, hA, hp⟩ := id d1
    dsimp only at *
    have hC' : SqL K H1 c (ns.map V.int) := s0.seq hC
    have put : ∀ {p' b' u' x' s' : Int}, 0 ≤ p' → Dr K ⟨a, c, ns⟩ H0 (upd H1 a (.lst [.ref c, .int p', .int b', .int u', .int x', .int s'])) := fun h => ⟨Same.upd s0 n0, n0, hC, hl, _, _, _, _, _, upd_same, h⟩
    have btw : ∀ r : Int, Btw (r % many) many := fun r => ⟨Int.emod_nonneg _ (by omega), fun _ => Int.emod_lt_of_pos _ hpos, fun z => by omega⟩
    walk_at "go"
    refine i_dec (fun e1 => ?_) (fun e1 => ?_)
    · -- a digit of the great one
      walk_at "go"
      refine i_fdiv (wide_many hpos hmax) ?_
      walk_at "go"
      refine i_setL 2 hA rfl rfl ?_
      walk_at "go"
      exact q _ _ (put hp) (btw _)
    walk_at "go"
    refine i_len_lst hC' ?_
    walk_at "go"
    rw [List.length_map]
    refine i_dec (fun e2 => ?_) (fun e2 => ?_)
    · have hpl : p.toNat < ns.length := by omega
      walk_at "go"
      refine i_ix_lst (v := .int ns[p.toNat]) hC' (atI_int hp (by rw [List.getElem?_map, List.getElem?_eq_getElem hpl]; rfl)) ?_
      walk_at "go"
      refine i_setL 3 hA rfl rfl ?_
      walk_at "go"
      refine ⟨_, _, rfl, rfl, fun r => ?_⟩
      walk_at "go"
      refine i_cut (fun σ H' => ∃ v3, σ = [some (.ref a), some (.int many), some (.int ns[p.toNat]), v3, some (.int (r % many))] ∧ Dr K ⟨a, c, ns⟩ H0 H') ?_ ?_
      · walk_at "go"
        refine i_dec (fun e3 => ?_) (fun e3 => ⟨_, rfl, put hp⟩)
        walk_at "go"
        refine i_setL 3 upd_same rfl rfl ?_
        walk_at "go"
        refine i_setL 1 upd_same rfl rfl ?_
        walk_at "go"
        rw [upd_upd, upd_upd]
        exact ⟨_, rfl, put (by omega)⟩
      · rintro σ H2 ⟨v3, rfl, d2⟩
        walk_at "go"
        exact q _ _ d2 (btw _)
    · walk_at "go"
      refine i_setL 4 hA rfl rfl ?_
      walk_at "go"
      refine ⟨_, _, rfl, rfl, fun r => ?_⟩
      walk_at "go"
      exact q _ _ (put hp) (btw _)
end
end K04
namespace K04
open PySem PySem.Spec PyProof.Rows L2 Fg
local macro_rules | `(tactic| walk_at "sq") => `(tactic| first
  | assumption
  | exact .inl (.inl (by assumption))
  | exact .inl (.inl upd_same))
local macro_rules | `(tactic| walk_at "st") => `(tactic| first
  | assumption
  | exact .inl (.inl (by assumption))
  | exact .inl (.inl upd_same))
local macro_rules | `(tactic| walk_at "o") => `(tactic| first
  | omega
  | assumption
  | (simp only [List.length_append, List.length_take, List.length_drop, List.length_cons, List.length_nil, List.length_singleton, List.length_map, List.length_range, Int.toNat_natCast] ; omega))
local macro_rules | `(tactic| walk_at "s") => `(tactic| first
  | (with_reducible refine i_seq ?_)
  | (with_reducible refine i_asg ?_)
  | ((with_reducible refine' i_var ?h1 ?_); (case h1 => rfl))
  | (with_reducible refine i_c ?_)
  | ((with_reducible refine' i_gname' ?h1 ?_); (case h1 => (simp only [List.set_cons_zero, List.set_cons_succ]; rfl)))
  | (with_reducible refine i_op ?_)
  | (with_reducible refine i_ifS ?_)
  | (with_reducible refine i_for ?_)
  | (with_reducible refine i_test ?_)
  | (with_reducible refine i_B ?_)
  | (with_reducible refine i_exbl ?_)
  | (with_reducible refine i_exint ?_)
  | (with_reducible refine i_cb ?_)
  | (with_reducible refine i_nil ?_)
  | (with_reducible refine i_cons ?_)
  | (with_reducible refine i_ret ?_)
  | (with_reducible refine i_sl ?_)
  | (with_reducible refine i_nopart ?_)
  | (with_reducible refine i_part ?_)
  | (with_reducible refine i_add_int ?_)
  | (with_reducible refine i_sub ?_)
  | (with_reducible refine i_lt ?_)
  | ((with_reducible refine' i_mod ?h1 ?_); (case h1 => walk_at "o"))
  | ((with_reducible refine' i_fdiv ?h1 ?_); (case h1 => (refine cdiv_small ?_ ?_ <;> walk_at "o")))
  | ((with_reducible refine' i_sl_to ?h1 ?h2 ?_); (case h1 => walk_at "o"); (case h2 => walk_at "o"))
  | ((with_reducible refine' i_sl_from ?h1 ?h2 ?_); (case h1 => walk_at "o"); (case h2 => walk_at "o"))
  | ((with_reducible refine' i_add_str ?h1 ?_); (case h1 => walk_at "o"))
  | ((with_reducible refine' i_mul_int ?h1 ?_); (case h1 => first | (refine mul_small ?_ ?_ <;> walk_at "o") | (refine mul_smallR ?_ ?_ <;> walk_at "o")))
  | (with_reducible refine i_le ?_)
  | (with_reducible refine i_gt ?_)
  | (with_reducible refine i_ge ?_)
  | (with_reducible refine i_eq_int ?_)
  | (with_reducible refine i_eq_str ?_)
  | (with_reducible refine i_ne_int ?_)
  | (with_reducible refine i_ne_str ?_)
  | (with_reducible refine i_eq_bl ?_)
  | (with_reducible refine i_ne_bl ?_)
  | (with_reducible refine i_in_sg ?_)
  | (with_reducible refine i_notIn_sg ?_)
  | (with_reducible refine i_call ?_)
  | (with_reducible refine i_callS ?_)
  | (with_reducible refine i_sp1 ?_)
  | (with_reducible refine i_sp2 ?_)
  | (with_reducible refine i_sp3 ?_)
  | (with_reducible refine i_sp4 ?_)
  | (with_reducible refine i_sp1' ?_)
  | (with_reducible refine i_sp2' ?_)
  | (with_reducible refine i_sp3' ?_)
  | ((with_reducible refine' i_ix_lst ?h1 ?h2 ?_); (case h1 => walk_at "sq"); (case h2 => first | exact atI_nat rfl | rfl))
  | ((with_reducible refine' i_ix_tup ?h1 ?h2 ?_); (case h1 => walk_at "st"); (case h2 => first | exact atI_nat rfl | rfl))
  | (with_reducible refine i_gsub ?_)
  | (with_reducible refine i_par ?_)
  | (with_reducible refine i_lstRg1 ?_)
  | (with_reducible refine i_app ?_)
  | (with_reducible refine i_par2 ?_)
  | ((with_reducible refine' i_aug ?h1 ?_); (case h1 => rfl))
  | (with_reducible refine i_ipI ?_)
  | ((with_reducible refine' i_gtup2 ?h1 ?_); (case h1 => walk_at "st"))
  | (with_reducible refine i_int_bl ?_)
  | (with_reducible refine i_raise ?_)
  | (with_reducible refine i_mkE ?_)
  | (with_reducible refine i_ex1 ?_)
  | (with_reducible refine i_and ?_)
  | (with_reducible refine i_or ?_)
  | (with_reducible refine i_not ?_)
  | (with_reducible refine i_tt ?_)
  | (with_reducible refine i_ff ?_)
  | (with_reducible refine i_nott ?_)
  | (with_reducible refine i_notf ?_)
  | (with_reducible refine i_andV ?_)
  | (with_reducible refine i_orV ?_)
  | (with_reducible refine i_notV ?_)
  | (with_reducible refine i_ifE ?_)
  | (with_reducible refine i_tup ?_)
  | (with_reducible refine i_lst ?_)
  | (with_reducible refine i_un ?_)
  | (with_reducible refine i_neg ?_)
  | (with_reducible refine i_chain ?_)
  | (with_reducible refine i_next ?_)
  | (with_reducible refine i_retN ?_)
  | (with_reducible refine i_drop ?_)
  | (with_reducible refine i_int_int ?_)
  | (with_reducible refine i_abs ?_)
  | (with_reducible refine i_m1c ?_)
  | (with_reducible refine i_is_non ?_)
  | (with_reducible refine i_is_int ?_)
  | (with_reducible refine i_is_bl ?_)
  | (with_reducible refine i_isn_bl ?_)
  | (with_reducible refine i_is_str ?_)
  | (with_reducible refine i_is_ref ?_)
  | (with_reducible refine i_isn_non ?_)
  | (with_reducible refine i_isn_int ?_)
  | (with_reducible refine i_isn_str ?_)
  | (with_reducible refine i_isn_ref ?_)
  | (with_reducible refine i_len_str ?h1 ?_; (case h1 => walk_at "o"))
  | (with_reducible refine i_isi_int_int ?_) | (with_reducible refine i_isi_int_bool ?_) | (with_reducible refine i_isi_int_str ?_) | (with_reducible refine i_isi_int_tuple ?_) | (with_reducible refine i_isi_int_list ?_)
  | (with_reducible refine i_isi_bl_int ?_) | (with_reducible refine i_isi_bl_bool ?_) | (with_reducible refine i_isi_bl_str ?_) | (with_reducible refine i_isi_bl_tuple ?_) | (with_reducible refine i_isi_bl_list ?_)
  | (with_reducible refine i_isi_str_int ?_) | (with_reducible refine i_isi_str_bool ?_) | (with_reducible refine i_isi_str_str ?_) | (with_reducible refine i_isi_str_tuple ?_) | (with_reducible refine i_isi_str_list ?_)
  | (with_reducible refine i_isi_non_int ?_) | (with_reducible refine i_isi_non_bool ?_) | (with_reducible refine i_isi_non_str ?_) | (with_reducible refine i_isi_non_tuple ?_) | (with_reducible refine i_isi_non_list ?_))
local macro_rules | `(tactic| walk_at "go") => `(tactic| (repeat' (walk_at "s")))
local macro_rules | `(tactic| walk_at "n") => `(tactic| simp only [wipe, List.map_cons, List.map_nil, List.set_cons_zero, List.set_cons_succ])
/-! ### comprehensions whose elements draw -/
section
variable {K : PySem.W.Frag} {σ : L2.St} {H H0 : Hp} {Q : VK} {te : TE} {ta : TA} {j : Nat} {vs : List Nat} {d : Dd}
theorem c_rngD (Pz : Int → Prop) (ha : ∀ R : List V → Hp → Prop, (∀ (z : Int) H1, Dr K d H0 H1 → Pz z → R [.int z] H1) → ta σ H R) (hz : ∀ z, Pz z → 0 ≤ z ∧ z ≤ 100000)
    (Pc : Nat → List V → Prop) (h0 : Pc 0 []) (hl : ∀ i acc, Pc i acc → acc.length ≤ 100000) (hw : ∀ x, wipe ((wipe σ vs).set j (some x)) vs = wipe σ vs)
    (he : ∀ (z : Int) (i : Nat) acc Hk H2, Pz z → (i : Int) < z → Pc i acc → Dr K d Hk H2 → ∀ QV : VK, (∀ y H3, Dr K d Hk H3 → Pc (i + 1) (acc ++ [y]) → QV y H3) → te ((wipe σ vs).set j (some (.int (i : Int)))) H2 QV)
    (q : ∀ (z : Int) Dl H3 acc, Pz z → H0 Dl = none → Pc z.toNat acc → Dr K d (upd H0 Dl (.lst acc)) H3 → Q (.ref Dl) H3) : tLc (iRng1 ta) (gName j) tYes te vs σ H Q := by
  refine ha _ fun z H1 dr pz => ⟨z, rfl, by have := hz z pz; omega, by have := hz z pz; omega, fun Dl nD => ?_⟩
  have n0 : H0 Dl = none := dr.free nD
  refine lc_range (fun i H' => ∃ acc, Pc i acc ∧ Dr K d (upd H0 Dl (.lst acc)) H') ⟨[], h0, dr.new nD⟩ (fun i H' hi p => ?_) (fun H' p => ?_)
  · obtain ⟨acc, pc, dr'⟩ := p
    rw [Int.zero_add]
    refine ⟨hw _, ?_⟩
    refine i_yes (i_tt ?_)
    refine he z i acc _ H' pz (by omega) pc dr' _ fun y H3 dr3 pc' => ⟨acc, dr3.old upd_same, Nat.lt_of_le_of_lt (hl i acc pc) (by decide), _, pc', dr3.put dr.cells n0⟩
  · obtain ⟨acc, pc, dr'⟩ := p
    exact q z Dl H' acc pz n0 pc dr'
end
section
variable {K : PySem.W.Frag} {σ : L2.St} {H H0 : Hp} {Q : VK} {te tl : TE} {j : Nat} {vs : List Nat} {d : Dd} {a : Addr} {xs : List V}
/-- a comprehension over a list that is known, whose elements draw -/
theorem c_lstD (dr : Dr K d H0 H) (hx : H0 a = some (.lst xs)) (ha : ∀ R : VK, R (.ref a) H → tl σ H R) (hn : xs.length ≤ 100000)
    (Pc : Nat → List V → Prop) (h0 : Pc 0 []) (hl : ∀ i acc, Pc i acc → acc.length ≤ 100000) (hw : ∀ x, wipe ((wipe σ vs).set j (some x)) vs = wipe σ vs)
    (he : ∀ (i : Nat) x acc Hk H2, xs[i]? = some x → Pc i acc → Dr K d Hk H2 → ∀ QV : VK, (∀ y H3, Dr K d Hk H3 → Pc (i + 1) (acc ++ [y]) → QV y H3) → te ((wipe σ vs).set j (some x)) H2 QV)
    (q : ∀ Dl H3 acc, H0 Dl = none → Pc xs.length acc → Dr K d (upd H0 Dl (.lst acc)) H3 → Q (.ref Dl) H3) : tLc (iAny K tl) (gName j) tYes te vs σ H Q := by
  refine ha _ (.inl ⟨a, xs, rfl, .inl (.inl (dr.old hx)), fun Dl nD => ?_⟩)
  have n0 : H0 Dl = none := dr.free nD
  have ne : a ≠ Dl := ne_of_none hx n0
  refine lc_list (xs := xs) (fun i H' => ∃ acc, Pc i acc ∧ Dr K d (upd H0 Dl (.lst acc)) H') ⟨[], h0, dr.new nD⟩ (fun i H' _ p => ?_) (fun i x H' hi p => ?_) (fun H' p => ?_)
  · obtain ⟨acc, _, dr'⟩ := p
    exact .inl (.inl (dr'.old ((upd_ne ne).trans hx)))
  · obtain ⟨acc, pc, dr'⟩ := p
    refine ⟨hw _, ?_⟩
    refine i_yes (i_tt ?_)
    refine he i x acc _ H' hi pc dr' _ fun y H3 dr3 pc' => ⟨acc, dr3.old upd_same, Nat.lt_of_le_of_lt (hl i acc pc) (by decide), _, pc', dr3.put dr.cells n0⟩
  · obtain ⟨acc, pc, dr'⟩ := p
    exact q Dl H' acc n0 pc dr'
end
section
variable {K : PySem.W.Frag} {d : Dd} {H0 H : Hp} {q : Addr} {o : HO}
theorem Dr.self (h : Dr K d H0 H) : ∃ o, H d.a = some o := by
  obtain ⟨s0, n0, hc, hl, p, b, u, x, sd, ha, hp⟩ := h
  exact ⟨_, ha⟩
theorem Dr.ne (h : Dr K d H0 H) (n : H q = none) : q ≠ d.a := fun z => by
  obtain ⟨o, e⟩ := h.self
  rw [← z, n] at e
  cases e
/-- what stands is known -/
theorem Dr.learn (h : Dr K d H0 H) (e : H q = some o) (ne : q ≠ d.a) : Dr K d (upd H0 q o) H := by
  obtain ⟨s0, n0, hc, hl, p, b, u, x, sd, ha, hp⟩ := h
  have s1 : Same H0 (upd H0 q o) := fun b' o' e' => by
    by_cases hb : b' = q
    · subst hb
      rw [upd_same]
      have := s0 _ _ e'
      rw [e] at this
      exact this
    · rw [upd_ne hb]; exact e'
  refine ⟨fun b' o' e' => ?_, by rw [upd_ne (Ne.symm ne)]; exact n0, s1.seq hc, hl, p, b, u, x, sd, ha, hp⟩
  by_cases hb : b' = q
  · subst hb
    rw [upd_same] at e'
    rw [e]; exact e'
  · rw [upd_ne hb] at e'
    exact s0 _ _ e'
end
/-- a new object, known or not -/
theorem Dr.skip {K : PySem.W.Frag} {d : Dd} {H0 H : Hp} {q : Addr} {o : HO} (h : Dr K d H0 H) (n : H q = none) : Dr K d H0 (upd H q o) := h.same (same_upd n)
theorem Dr.step {K : PySem.W.Frag} {d : Dd} {Hk H : Hp} {p : Addr} (o : HO) (h : Dr K d Hk H) (n : H p = none) : ∃ Hk', Same Hk Hk' ∧ Hk' p = some o ∧ Dr K d Hk' (upd H p o) := ⟨upd Hk p o, same_upd (h.free n), upd_same, h.new n⟩
theorem Dr.back {K : PySem.W.Frag} {d : Dd} {H0 H1 H H' : Hp} (h : Dr K d H1 H) (dr : Dr K d H0 H') (s : Same H0 H1) : Dr K d H0 H := by
  obtain ⟨s1, n1, hc1, hl, p, b, u, x, sd, ha, hp⟩ := h
  obtain ⟨s0, n0, hc, _⟩ := dr
  exact ⟨s.trans s1, n0, hc, hl, p, b, u, x, sd, ha, hp⟩
section
variable {P : Program} {w : World} {K : PySem.W.Frag} {mg : Str → Option Value} {base : Heap} {C_GlimError C_BadText C_TooLong : Addr}
/-- the kinds of values that laws show about -/
def Kn (H : Hp) (x : V) : Prop := (∃ l, x = S l) ∨ NoStr H x
def isI : V → Bool
  | .int _ => true
  | _ => false
def p_L_is_int : P1 := fun x H Q _ => Kn H x ∧ Q (.bl (isI x)) H
theorem ok_L_is_int (T : Txt K mg C_GlimError C_BadText C_TooLong) : OK P w K mg base CX0 1 "_law_is_int" ["_law_thing"] (sp1  p_L_is_int) := by
  refine OK.mk (k := 0) T.d_L_is_int sc_L_is_int len1 fun f cdv A outer s H vs Q E hr h => ?_
  obtain ⟨x, rfl, h⟩ := h
  refine ⟨_, (pss_one (ps_ret (pe_and (pe_callB (cIsi K) (by rfl) T.b_isinstance (by decide +kernel) (pa_cons (pv 0) (pa_cons (pe_bltn (v := .ty "int") (by rfl) T.b_int (by decide +kernel) rfl) pa_nil))) (pe_one (pe_not (pe_callB (cIsi K) (by rfl) T.b_isinstance (by decide +kernel) (pa_cons (pv 0) (pa_cons (pe_bltn (v := .ty "bool") (by rfl) T.b_bool (by decide +kernel) rfl) pa_nil)))))))), ?_⟩
  show (_ : TS) { nx := fun _ H' => Q .non H', rt := Q } [some x] H
  obtain ⟨h, q⟩ := h
  rcases h with ⟨l, rfl⟩ | rfl | ⟨b, rfl⟩ | ⟨i, rfl⟩ | ⟨a, xs, rfl, h | h⟩
  · walk_at "go"
    exact q
  · walk_at "go"
    exact q
  · walk_at "go"
    exact q
  · walk_at "go"
    exact q
  · walk_at "go"
    refine i_isi_tup_int h ?_
    walk_at "go"
    exact q
  · walk_at "go"
    refine i_isi_lst_int h ?_
    walk_at "go"
    exact q
def p_L_sign (K : PySem.W.Frag) : P1 := fun x H Q _ => ∃ (H0 : Hp) (d : Dd), x = .ref d.a ∧ Dr K d H0 H ∧ ∀ c H', Dr K d H0 H' → c ∈ SG → Q (S [c]) H'
theorem ok_L_sign (T : Txt K mg C_GlimError C_BadText C_TooLong) : OK P w K mg base CX0 3 "_law_sign" ["_law_draw_here"] (sp1  (p_L_sign K)) := by
  refine OK.mk (k := 2) T.d_L_sign sc_L_sign len1 fun f cdv A outer s H vs Q E hr h => ?_
  obtain ⟨x, rfl, h⟩ := h
  refine ⟨_, (pss_one (ps_ret (pe_ix (ixK K) (pe_S [46, 46, 46, 119, 119, 114, 103]) (pe_f (ok_L_pick (K := K) T) (hr.mono (by decide)) pass0 (pa_cons (pv 0) (pa_cons pe_int pa_nil))) (fun _ _ => rfl)))), ?_⟩
  show (_ : TS) { nx := fun _ H' => Q .non H', rt := Q } [some x] H
  obtain ⟨H0, d, rfl, dr, q⟩ := h
  walk_at "go"
  refine ⟨H0, d, 7, rfl, rfl, dr, by decide, fun n H1 dr1 b => ?_⟩
  have b0 := b.1
  have b1 := b.2.1 (by decide)
  have hn : n.toNat < 7 := by omega
  have key : ∀ i < 7, ∃ c, ([46, 46, 46, 119, 119, 114, 103] : List Nat)[i]? = some c ∧ c ∈ SG := by decide
  obtain ⟨c, hc, hs⟩ := key n.toNat hn
  refine i_ix_str (by decide) b0 hc ?_
  walk_at "go"
  exact q c H1 dr1 hs
end
end K04
namespace K04
open PySem PySem.Spec PyProof.Rows L2 Fg
local macro_rules | `(tactic| walk_at "sq") => `(tactic| first
  | assumption
  | exact .inl (.inl (by assumption))
  | exact .inl (.inl upd_same))
local macro_rules | `(tactic| walk_at "st") => `(tactic| first
  | assumption
  | exact .inl (.inl (by assumption))
  | exact .inl (.inl upd_same))
local macro_rules | `(tactic| walk_at "o") => `(tactic| first
  | omega
  | assumption
  | (simp only [List.length_append, List.length_take, List.length_drop, List.length_cons, List.length_nil, List.length_singleton, List.length_map, List.length_range, Int.toNat_natCast] ; omega))
local macro_rules | `(tactic| walk_at "s") => `(tactic| first
  | (with_reducible refine i_seq ?_)
  | (with_reducible refine i_asg ?_)
  | ((with_reducible refine' i_var ?h1 ?_); (case h1 => rfl))
  | (with_reducible refine i_c ?_)
  | ((with_reducible refine' i_gname' ?h1 ?_); (case h1 => (simp only [List.set_cons_zero, List.set_cons_succ]; rfl)))
  | (with_reducible refine i_op ?_)
  | (with_reducible refine i_ifS ?_)
  | (with_reducible refine i_for ?_)
  | (with_reducible refine i_test ?_)
  | (with_reducible refine i_B ?_)
  | (with_reducible refine i_exbl ?_)
  | (with_reducible refine i_exint ?_)
  | (with_reducible refine i_cb ?_)
  | (with_reducible refine i_nil ?_)
  | (with_reducible refine i_cons ?_)
  | (with_reducible refine i_ret ?_)
  | (with_reducible refine i_sl ?_)
  | (with_reducible refine i_nopart ?_)
  | (with_reducible refine i_part ?_)
  | (with_reducible refine i_add_int ?_)
  | (with_reducible refine i_sub ?_)
  | (with_reducible refine i_lt ?_)
  | ((with_reducible refine' i_mod ?h1 ?_); (case h1 => walk_at "o"))
  | ((with_reducible refine' i_fdiv ?h1 ?_); (case h1 => (refine cdiv_small ?_ ?_ <;> walk_at "o")))
  | ((with_reducible refine' i_sl_to ?h1 ?h2 ?_); (case h1 => walk_at "o"); (case h2 => walk_at "o"))
  | ((with_reducible refine' i_sl_from ?h1 ?h2 ?_); (case h1 => walk_at "o"); (case h2 => walk_at "o"))
  | ((with_reducible refine' i_add_str ?h1 ?_); (case h1 => walk_at "o"))
  | ((with_reducible refine' i_mul_int ?h1 ?_); (case h1 => first | (refine mul_small ?_ ?_ <;> walk_at "o") | (refine mul_smallR ?_ ?_ <;> walk_at "o")))
  | (with_reducible refine i_le ?_)
  | (with_reducible refine i_gt ?_)
  | (with_reducible refine i_ge ?_)
  | (with_reducible refine i_eq_int ?_)
  | (with_reducible refine i_eq_str ?_)
  | (with_reducible refine i_ne_int ?_)
  | (with_reducible refine i_ne_str ?_)
  | (with_reducible refine i_eq_bl ?_)
  | (with_reducible refine i_ne_bl ?_)
  | (with_reducible refine i_in_sg ?_)
  | (with_reducible refine i_notIn_sg ?_)
  | (with_reducible refine i_call ?_)
  | (with_reducible refine i_callS ?_)
  | (with_reducible refine i_sp1 ?_)
  | (with_reducible refine i_sp2 ?_)
  | (with_reducible refine i_sp3 ?_)
  | (with_reducible refine i_sp4 ?_)
  | (with_reducible refine i_sp1' ?_)
  | (with_reducible refine i_sp2' ?_)
  | (with_reducible refine i_sp3' ?_)
  | ((with_reducible refine' i_ix_lst ?h1 ?h2 ?_); (case h1 => walk_at "sq"); (case h2 => first | exact atI_nat rfl | rfl))
  | ((with_reducible refine' i_ix_tup ?h1 ?h2 ?_); (case h1 => walk_at "st"); (case h2 => first | exact atI_nat rfl | rfl))
  | (with_reducible refine i_gsub ?_)
  | (with_reducible refine i_par ?_)
  | (with_reducible refine i_lstRg1 ?_)
  | (with_reducible refine i_app ?_)
  | (with_reducible refine i_par2 ?_)
  | ((with_reducible refine' i_aug ?h1 ?_); (case h1 => rfl))
  | (with_reducible refine i_ipI ?_)
  | ((with_reducible refine' i_gtup2 ?h1 ?_); (case h1 => walk_at "st"))
  | (with_reducible refine i_int_bl ?_)
  | (with_reducible refine i_raise ?_)
  | (with_reducible refine i_mkE ?_)
  | (with_reducible refine i_ex1 ?_)
  | (with_reducible refine i_and ?_)
  | (with_reducible refine i_or ?_)
  | (with_reducible refine i_not ?_)
  | (with_reducible refine i_tt ?_)
  | (with_reducible refine i_ff ?_)
  | (with_reducible refine i_nott ?_)
  | (with_reducible refine i_notf ?_)
  | (with_reducible refine i_andV ?_)
  | (with_reducible refine i_orV ?_)
  | (with_reducible refine i_notV ?_)
  | (with_reducible refine i_ifE ?_)
  | (with_reducible refine i_tup ?_)
  | (with_reducible refine i_lst ?_)
  | (with_reducible refine i_un ?_)
  | (with_reducible refine i_neg ?_)
  | (with_reducible refine i_chain ?_)
  | (with_reducible refine i_next ?_)
  | (with_reducible refine i_retN ?_)
  | (with_reducible refine i_drop ?_)
  | (with_reducible refine i_int_int ?_)
  | (with_reducible refine i_abs ?_)
  | (with_reducible refine i_m1c ?_)
  | (with_reducible refine i_is_non ?_)
  | (with_reducible refine i_is_int ?_)
  | (with_reducible refine i_is_bl ?_)
  | (with_reducible refine i_isn_bl ?_)
  | (with_reducible refine i_is_str ?_)
  | (with_reducible refine i_is_ref ?_)
  | (with_reducible refine i_isn_non ?_)
  | (with_reducible refine i_isn_int ?_)
  | (with_reducible refine i_isn_str ?_)
  | (with_reducible refine i_isn_ref ?_)
  | (with_reducible refine i_len_str ?h1 ?_; (case h1 => walk_at "o"))
  | (with_reducible refine i_isi_int_int ?_) | (with_reducible refine i_isi_int_bool ?_) | (with_reducible refine i_isi_int_str ?_) | (with_reducible refine i_isi_int_tuple ?_) | (with_reducible refine i_isi_int_list ?_)
  | (with_reducible refine i_isi_bl_int ?_) | (with_reducible refine i_isi_bl_bool ?_) | (with_reducible refine i_isi_bl_str ?_) | (with_reducible refine i_isi_bl_tuple ?_) | (with_reducible refine i_isi_bl_list ?_)
  | (with_reducible refine i_isi_str_int ?_) | (with_reducible refine i_isi_str_bool ?_) | (with_reducible refine i_isi_str_str ?_) | (with_reducible refine i_isi_str_tuple ?_) | (with_reducible refine i_isi_str_list ?_)
  | (with_reducible refine i_isi_non_int ?_) | (with_reducible refine i_isi_non_bool ?_) | (with_reducible refine i_isi_non_str ?_) | (with_reducible refine i_isi_non_tuple ?_) | (with_reducible refine i_isi_non_list ?_))
local macro_rules | `(tactic| walk_at "go") => `(tactic| (repeat' (walk_at "s")))
local macro_rules | `(tactic| walk_at "n") => `(tactic| simp only [wipe, List.map_cons, List.map_nil, List.set_cons_zero, List.set_cons_succ])
section
variable {P : Program} {w : World} {K : PySem.W.Frag} {mg : Str → Option Value} {base : Heap} {C_GlimError C_BadText C_TooLong : Addr}
def p_common : P2 := fun x y H Q _ => ∃ a b : Nat, x = .int (a : Int) ∧ y = .int (b : Int) ∧ 1 ≤ a ∧ 1 ≤ b ∧ Big a ∧ Big b ∧ Q (.int ((Nat.lcm a b : Nat) : Int)) H
theorem ok_common_beats (T : Txt K mg C_GlimError C_BadText C_TooLong) : OK P w K mg base CX0 1 "common_beats" ["first", "second"] (sp2  p_common) := by
  refine OK.mk (k := 0) T.d_common_beats sc_common_beats len2 fun f cdv A outer s H vs Q E hr h => ?_
  obtain ⟨x, y, rfl, h⟩ := h
  refine ⟨_, (pss_cons (ps_par (i := 2) (j := 3) rfl sc_common_beats.nd rfl rfl (by decide) rfl rfl (pa_cons (pv 0) (pa_cons (pv 1) pa_nil)) (by rfl)) (pss_cons (ps_while PassesOwn.never (pt_cmpR op_gtP (pv 3) pe_int (nomark _)) (pss_one (ps_par (i := 2) (j := 3) rfl sc_common_beats.nd rfl rfl (by decide) rfl rfl (pa_cons (pv 3) (pa_cons (pe_op op_modP (pv 2) (pv 3)) pa_nil)) (by rfl)))) (pss_one (ps_ret (pe_op op_mulP (pe_op op_fdivP (pv 0) (pv 2)) (pv 1)))))), ?_⟩
  show (_ : TS) { nx := fun _ H' => Q .non H', rt := Q } [some x, some y, none, none] H
  obtain ⟨a, b, rfl, rfl, a1, b1, a2, b2, q⟩ := h
  walk_at "go"
  refine i_while (fun m σ H' => ∃ n : Nat, σ = [some (.int (a : Int)), some (.int (b : Int)), some (.int (n : Int)), some (.int (m : Int))] ∧ H' = H ∧ 1 ≤ n ∧ Nat.gcd n m = Nat.gcd a b) b ⟨a, rfl, rfl, a1, rfl⟩ ?_
  rintro m σ H' ⟨n, rfl, rfl, n1, hg⟩
  walk_at "go"
  refine i_dec (fun e => i_turn ?_) (fun e => ?_)
  · walk_at "go"
    refine ⟨n % m, Nat.mod_lt _ (by omega), m, ?_, rfl, by omega, ?_⟩
    · show [_, _, _, some (V.int ((n : Int) % (m : Int)))] = _
      rw [← Int.natCast_emod]
    · rw [← hg, Nat.gcd_comm m, ← Nat.gcd_rec, Nat.gcd_comm]
  · have e0 : m = 0 := by omega
    subst e0
    rw [Nat.gcd_zero_right] at hg
    subst hg
    have g1 : Nat.gcd a b ≤ a := Nat.gcd_le_left _ (by omega)
    have g2 : 1 ≤ Nat.gcd a b := Nat.gcd_pos_of_pos_left _ a1
    have g3 : Big (Nat.gcd a b) := a2.le g1
    walk_at "go"
    refine i_fdiv (g3.div (by omega)) ?_
    walk_at "go"
    rw [← Int.natCast_ediv]
    refine i_mul_int ((a2.le (Nat.div_le_self _ _)).mul b2) ?_
    have e : ((a / Nat.gcd a b : Nat) : Int) * (b : Int) = ((Nat.lcm a b : Nat) : Int) := by
      rw [← Int.natCast_mul]
      congr 1
      unfold Nat.lcm
      rw [Nat.mul_comm (a / _), ← Nat.mul_div_assoc _ (Nat.gcd_dvd_left a b), Nat.mul_comm]
    rw [e]
    exact q
def p_repeated : P2 := fun x y H Q _ => ∃ (a : Addr) (n : Nat) (r : List Nat) (t : Nat), x = .ref a ∧ y = .int (t : Int) ∧ H a = some (Sv n r) ∧ 1 ≤ n ∧ (n ≤ 24 → r.length = n) ∧ 1 ≤ t ∧ t ≤ 1000 ∧ ∀ p, H p = none → Q (.ref p) (upd H p (Sv (n * t) (rpt t r)))
theorem ok_repeated (T : Txt K mg C_GlimError C_BadText C_TooLong) : OK P w K mg base CX0 1 "repeated" ["stretch", "times"] (sp2  p_repeated) := by
  refine OK.mk (k := 0) T.d_repeated sc_repeated len2 fun f cdv A outer s H vs Q E hr h => ?_
  obtain ⟨x, y, rfl, h⟩ := h
  refine ⟨_, (pss_cons (ps_set (i := 2) sc_repeated.nd rfl (Or.inl rfl) (pe_op op_mulP (pe_ix (ixK K) (pv 0) pe_int (fun _ _ => rfl)) (pv 1))) (pss_cons (ps_if (pt_cmpR op_gtP (pv 2) (pe_gI 24 T.g_MOST_ROUND) (nomark _)) (pss_one (ps_ret (pe_tup (pa_cons (pv 2) (pa_cons pe_non pa_nil))))) pss_nil) (pss_one (ps_ret (pe_tup (pa_cons (pv 2) (pa_cons (pe_op op_mulP (pe_ix (ixK K) (pv 0) pe_int (fun _ _ => rfl)) (pv 1)) pa_nil))))))), ?_⟩
  show (_ : TS) { nx := fun _ H' => Q .non H', rt := Q } [some x, some y, none] H
  obtain ⟨a, n, r, t, rfl, rfl, ha, n1, hr, t1, t2, q⟩ := h
  walk_at "go"
  have e : (n : Int) * (t : Int) = ((n * t : Nat) : Int) := (Int.natCast_mul _ _).symm
  rw [e]
  have nt : n ≤ n * t := Nat.le_mul_of_pos_right _ t1
  have tt : t ≤ n * t := Nat.le_mul_of_pos_left _ n1
  unfold Sv at q
  generalize hm : n * t = m at *
  walk_at "go"
  refine i_dec (fun e => ?_) (fun e => ?_)
  · walk_at "go"
    refine i_new (by show 2 ≤ 100000; omega) fun p np => ?_
    rw [if_neg (by omega)] at q
    exact q p np
  · walk_at "go"
    have hn : n ≤ 24 := by omega
    rw [if_pos hn]
    refine i_mul_str ⟨by rw [hr hn]; omega, by omega⟩ ?_
    walk_at "go"
    refine i_new (by show 2 ≤ 100000; omega) fun p np => ?_
    rw [if_pos (by omega)] at q
    exact q p np
def p_behind : P2 := fun x y H Q _ => ∃ (a b : Addr) (n m : Nat) (r s : List Nat), x = .ref a ∧ y = .ref b ∧ H a = some (Sv n r) ∧ H b = some (Sv m s) ∧ (n ≤ 24 → r.length = n) ∧ (m ≤ 24 → s.length = m) ∧ ∀ p, H p = none → Q (.ref p) (upd H p (Sv (n + m) (r ++ s)))
theorem ok_put_behind (T : Txt K mg C_GlimError C_BadText C_TooLong) : OK P w K mg base CX0 1 "put_behind" ["stretch", "other"] (sp2  p_behind) := by
  refine OK.mk (k := 0) T.d_put_behind sc_put_behind len2 fun f cdv A outer s H vs Q E hr h => ?_
  obtain ⟨x, y, rfl, h⟩ := h
  refine ⟨_, (pss_cons (ps_set (i := 2) sc_put_behind.nd rfl (Or.inl rfl) (pe_op (opAdd K) (pe_ix (ixK K) (pv 0) pe_int (fun _ _ => rfl)) (pe_ix (ixK K) (pv 1) pe_int (fun _ _ => rfl)))) (pss_cons (ps_if (pt_cmpR op_gtP (pv 2) (pe_gI 24 T.g_MOST_ROUND) (nomark _)) (pss_one (ps_ret (pe_tup (pa_cons (pv 2) (pa_cons pe_non pa_nil))))) pss_nil) (pss_one (ps_ret (pe_tup (pa_cons (pv 2) (pa_cons (pe_op (opAdd K) (pe_ix (ixK K) (pv 0) pe_int (fun _ _ => rfl)) (pe_ix (ixK K) (pv 1) pe_int (fun _ _ => rfl))) pa_nil))))))), ?_⟩
  show (_ : TS) { nx := fun _ H' => Q .non H', rt := Q } [some x, some y, none] H
  obtain ⟨a, b, n, m, r, s', rfl, rfl, ha, hb, hr, hs, q⟩ := h
  walk_at "go"
  have e : (n : Int) + (m : Int) = ((n + m : Nat) : Int) := (Int.natCast_add _ _).symm
  rw [e]
  unfold Sv at q
  walk_at "go"
  refine i_dec (fun e => ?_) (fun e => ?_)
  · walk_at "go"
    refine i_new (by show 2 ≤ 100000; omega) fun p np => ?_
    rw [if_neg (by omega)] at q
    exact q p np
  · walk_at "go"
    have hn : n ≤ 24 := by omega
    have hm : m ≤ 24 := by omega
    rw [if_pos hn, if_pos hm]
    refine i_add_str (by rw [hr hn, hs hm]; omega) ?_
    walk_at "go"
    refine i_new (by show 2 ≤ 100000; omega) fun p np => ?_
    rw [if_pos (by omega)] at q
    exact q p np
def p_first_lit (K : PySem.W.Frag) : P1 := fun x H Q _ => ∃ (a : Addr) (cs : List Nat), x = .ref a ∧ SqL K H a (cs.map fun c => S [c]) ∧ Q (S [firstLit cs]) H
theorem ok_first_lit (T : Txt K mg C_GlimError C_BadText C_TooLong) : OK P w K mg base CX0 1 "first_lit" ["signs"] (sp1  (p_first_lit K)) := by
  refine OK.mk (k := 0) T.d_first_lit sc_first_lit len1 fun f cdv A outer s H vs Q E hr h => ?_
  obtain ⟨x, rfl, h⟩ := h
  refine ⟨_, (pss_cons (ps_for PassesOwn.never rfl (piAny K (pv 0)) (pg_name (i := 1) sc_first_lit.nd rfl (Or.inl rfl)) (pss_one (ps_if (pt_cmpR (opNe K hr.units) (pv 1) (pe_S [46]) (nomark _)) (pss_one (ps_ret (pv 1))) pss_nil))) (pss_one (ps_ret (pe_S [46])))), ?_⟩
  show (_ : TS) { nx := fun _ H' => Q .non H', rt := Q } [some x, none] H
  obtain ⟨a, cs, rfl, ha, q⟩ := h
  walk_at "go"
  refine i_forL ha (fun i σ H' => ∃ v, σ = [some (.ref a), v] ∧ H' = H ∧ firstLit cs = firstLit (cs.drop i)) ⟨_, rfl, rfl, rfl⟩ ?_ ?_ ?_
  · rintro i σ H' _ ⟨v, rfl, rfl, _⟩
    exact ha
  · rintro i x σ H' hi ⟨v, rfl, rfl, hf⟩
    rw [List.getElem?_map] at hi
    obtain ⟨c, hc, rfl⟩ := Option.map_eq_some_iff.mp hi
    obtain ⟨hl, rfl⟩ := List.getElem?_eq_some_iff.mp hc
    rw [List.drop_eq_getElem_cons hl] at hf
    walk_at "go"
    refine i_decN (fun e => ?_) (fun e => ?_)
    · walk_at "go"
      have e' : cs[i] ≠ 46 := fun z => e (by rw [z])
      rw [show firstLit (cs[i] :: cs.drop (i + 1)) = cs[i] from if_neg e'] at hf
      rw [hf] at q
      exact q
    · walk_at "go"
      have e' : cs[i] = 46 := by simpa using e
      refine ⟨_, rfl, rfl, ?_⟩
      rw [hf]
      exact if_pos e'
  · rintro σ H' ⟨v, rfl, rfl, hf⟩
    walk_at "go"
    rw [List.length_map, List.drop_length] at hf
    rw [hf] at q
    exact q
def p_shown (K : PySem.W.Frag) : P1 := fun x H Q _ => ∃ (a : Addr) (qs : List Addr) (ps : List (Nat × List Nat)), x = .ref a ∧ SqL K H a (qs.map V.ref) ∧ PartsAt H qs ps ∧ ps.length ≤ 90000 ∧ (∀ p ∈ ps, 1 ≤ p.1 ∧ (p.1 ≤ 24 → p.2.length = p.1)) ∧
  Big (lcmL ps) ∧ ∀ p H', Same H H' → H' p = some (Sv (lcmL ps) (showN ps (lcmL ps))) → Q (.ref p) H'
theorem ok_shown_together (T : Txt K mg C_GlimError C_BadText C_TooLong) : OK P w K mg base CX0 2 "shown_together" ["parts"] (sp1  (p_shown K)) := by
  refine OK.mk (k := 1) T.d_shown_together sc_shown_together len1 fun f cdv A outer s H vs Q E hr h => ?_
  obtain ⟨x, rfl, h⟩ := h
  refine ⟨_, (pss_cons (ps_set (i := 1) sc_shown_together.nd rfl (Or.inr rfl) pe_int) (pss_cons (ps_for PassesOwn.never rfl (piAny K (pv 0)) (pg_name (i := 2) sc_shown_together.nd rfl (Or.inl rfl)) (pss_one (ps_set (i := 1) sc_shown_together.nd rfl (Or.inr rfl) (pe_f (ok_common_beats (K := K) T) (hr.mono (by decide)) pass0 (pa_cons (pv 1) (pa_cons (pe_ix (ixK K) (pv 2) pe_int (fun _ _ => rfl)) pa_nil)))))) (pss_cons (ps_if (pt_cmpR op_gtP (pv 1) (pe_gI 24 T.g_MOST_ROUND) (nomark _)) (pss_one (ps_ret (pe_tup (pa_cons (pv 1) (pa_cons pe_non pa_nil))))) pss_nil) (pss_cons (ps_set (i := 3) sc_shown_together.nd rfl (Or.inr rfl) (pe_lc (own := [("part", 2)]) (g := gName 2) (tt := tYes) (by rfl) sc_shown_together.nd (piAny K (pv 0)) (blkOk_by (own := [("part", 2)]) (N := ["parts", "beats", "part", "rows", "beat", "row"]) (sc := (defScope s_shown_together)) (by decide +kernel)) (fun _ _ _ _ _ => (pg_name (i := 2) sc_shown_together.nd rfl (Or.inl rfl))) (fun _ _ _ _ _ => pts_nil) (fun _ _ _ _ _ => (pe_op op_mulP (pe_ix (ixK K) (pv 2) pe_int (fun _ _ => rfl)) (pe_op op_fdivP (pv 1) (pe_ix (ixK K) (pv 2) pe_int (fun _ _ => rfl))))))) (pss_one (ps_ret (pe_tup (pa_cons (pv 1) (pa_cons (peJoin K (pe_S []) (pe_lc (own := [("beat", 4)]) (g := gName 4) (tt := tYes) (by rfl) sc_shown_together.nd (pi_range1 rfl T.b_range (pa_cons (pv 1) pa_nil)) (blkOk_by (own := [("beat", 4)]) (N := ["parts", "beats", "part", "rows", "beat", "row"]) (sc := (defScope s_shown_together)) (by decide +kernel)) (fun _ _ _ _ _ => (pg_name (i := 4) sc_shown_together.nd rfl (Or.inr rfl))) (fun _ _ _ _ _ => pts_nil) (fun _ _ _ _ _ => (pe_f (ok_first_lit (K := K) T) (hr.mono (by decide)) pass0 (pa_cons (pe_lc (own := [("row", 5)]) (g := gName 5) (tt := tYes) (by rfl) sc_shown_together.nd (piAny K (pv 3)) (Fg.blkOk_in (own := [("row", 5)]) (N := ["parts", "beats", "part", "rows", "beat", "row"]) (sc := (defScope s_shown_together)) (by rfl) (by rfl) (by decide +kernel)) (fun _ _ _ _ _ => (pg_name (i := 5) sc_shown_together.nd rfl (Or.inl rfl))) (fun _ _ _ _ _ => pts_nil) (fun _ _ _ _ _ => (pe_ix (ixK K) (pv 5) (pv 4) (fun _ _ => rfl)))) pa_nil))))) pa_nil))))))))), ?_⟩
  show (_ : TS) { nx := fun _ H' => Q .non H', rt := Q } [some x, none, none, none, none, none] H
  obtain ⟨a, qs, ps, rfl, ha, ⟨hlen, hat⟩, h100, hok, hsm, q⟩ := h
  walk_at "go"
  refine i_forL ha (fun i σ H' => ∃ v, σ = [some (.ref a), some (.int ((lcmL (ps.take i) : Nat) : Int)), v, none, none, none] ∧ H' = H) ⟨_, rfl, rfl⟩ ?_ ?_ ?_
  · rintro i σ H' _ ⟨v, rfl, rfl⟩
    exact ha
  · rintro i x σ H' hi ⟨v, rfl, rfl⟩
    rw [List.getElem?_map] at hi
    obtain ⟨qa, hqa, rfl⟩ := Option.map_eq_some_iff.mp hi
    obtain ⟨hl, e⟩ := List.getElem?_eq_some_iff.mp hqa
    have hp : ps[i]? = some ps[i] := List.getElem?_eq_getElem (by omega)
    have hq := hat i qa _ hqa hp
    have ok := hok _ (List.mem_of_getElem? hp)
    have e2 : ps.take (i + 1) = ps.take i ++ [ps[i]] := by rw [List.take_succ, hp]; rfl
    walk_at "go"
    refine ⟨lcmL (ps.take i), ps[i].1, rfl, rfl, lcmL_pos fun p hp => (hok p (List.mem_of_mem_take hp)).1, ok.1, hsm.le (lcmL_take (fun p hp => (hok p hp).1) i), hsm.le (Nat.le_of_dvd (lcmL_pos fun p hp => (hok p hp).1) (dvd_lcmL (List.mem_of_getElem? hp))), ?_⟩
    rw [← lcmL_snoc, ← e2]
    walk_at "go"
    exact ⟨_, rfl, rfl⟩
  · rintro σ H' ⟨v, rfl, rfl⟩
    rw [List.length_map, hlen, List.take_length]
    clear hsm
    have hL1 : 1 ≤ lcmL ps := lcmL_pos fun p hp => (hok p hp).1
    have hdv : ∀ p ∈ ps, p.1 ∣ lcmL ps := fun p hp => dvd_lcmL hp
    unfold Sv at q
    generalize lcmL ps = L at *
    walk_at "go"
    refine i_dec (fun e => ?_) (fun e => ?_)
    · walk_at "go"
      refine i_new (by show 2 ≤ 100000; omega) fun p np => ?_
      rw [if_neg (by omega)] at q
      exact q p _ (same_upd np) upd_same
    have hL : L ≤ 24 := by omega
    rw [if_pos hL] at q
    walk_at "go"
    refine c_lst (K := K) (a := a) (xs := qs.map V.ref) (fun R k => by walk_at "go"; exact k) ha (by rw [List.length_map]; omega) (fun _ => true) (fun i => S (rpt (L / (ps.getD i (1, [])).1) (ps.getD i (1, [])).2)) (fun _ => rfl) (fun i x H2 hi s2 QB k => k H2 (Same.refl H2)) (fun i x H2 hi s2 _ QV k => ?_) (fun Dr H2 n2 s2 d2 => ?_)
    · rw [List.getElem?_map] at hi
      obtain ⟨qa, hqa, rfl⟩ := Option.map_eq_some_iff.mp hi
      obtain ⟨hl, e'⟩ := List.getElem?_eq_some_iff.mp hqa
      have hp : ps[i]? = some ps[i] := List.getElem?_eq_getElem (by omega)
      have hq := s2 _ _ (hat i qa _ hqa hp)
      have hm := List.mem_of_getElem? hp
      have ok := hok _ hm
      have hn : ps[i].1 ≤ L := Nat.le_of_dvd hL1 (hdv _ hm)
      have hr := ok.2 (by omega)
      have ok1 := ok.1
      have e3 : ps.getD i (1, []) = ps[i] := by rw [List.getD_eq_getElem?_getD, hp]; rfl
      rw [e3] at k
      have hdd : L / ps[i].1 * ps[i].1 = L := Nat.div_mul_cancel (hdv _ hm)
      have hdl : L / ps[i].1 ≤ L := Nat.div_le_self _ _
      generalize ps[i] = pp at *
      obtain ⟨n, r⟩ := pp
      dsimp only at *
      show (_ : TE) [some (.ref a), some (.int (L : Int)), some (.ref qa), none, none, none] H2 QV
      walk_at "go"
      rw [if_pos (by omega), ← Int.natCast_ediv]
      refine i_mul_str ⟨by rw [hr, Nat.mul_comm]; omega, by omega⟩ ?_
      exact k H2 (Same.refl H2)
    rw [kept_all, List.length_map, hlen, range_getD_map ps (1, []) (fun (p : Nat × List Nat) => S (rpt (L / p.1) p.2))] at d2
    have e4 : ps.map (fun (p : Nat × List Nat) => S (rpt (L / p.1) p.2)) = (ps.map fun p => rpt (L / p.1) p.2).map S := by rw [List.map_map]; rfl
    rw [e4] at d2
    have hrl : ∀ r ∈ ps.map (fun p => rpt (L / p.1) p.2), r.length = L := fun r hr => by
      obtain ⟨p, hp, rfl⟩ := List.mem_map.mp hr
      have hn : p.1 ≤ L := Nat.le_of_dvd hL1 (hdv _ hp)
      rw [rpt_len, (hok p hp).2 (by omega), Nat.div_mul_cancel (hdv p hp)]
    have e5 : showN ps L = (List.range L).map fun b => firstLit ((ps.map fun p => rpt (L / p.1) p.2).map fun r => r.getD b 0) := by
      unfold showN
      refine List.map_congr_left fun b _ => ?_
      rw [List.map_map]
      rfl
    rw [e5] at q
    have hrs : (ps.map fun p => rpt (L / p.1) p.2).length = ps.length := by rw [List.length_map]
    generalize ps.map (fun (p : Nat × List Nat) => rpt (L / p.1) p.2) = rs at *
    walk_at "go"
    refine c_rng1A L (fun R k => by walk_at "go"; exact k) (by omega) (fun b => S [firstLit (rs.map fun r => r.getD b 0)]) (fun _ => rfl) (fun b H3 hb s3 QV k => ?_) (fun Dj H3 n3 s3 d3 => ?_)
    · show (_ : TE) [some (.ref a), some (.int (L : Int)), v, some (.ref Dr), some (.int (b : Int)), none] H3 QV
      walk_at "go"
      refine c_lst (K := K) (a := Dr) (xs := rs.map S) (fun R k => by walk_at "go"; exact k) (.inl (.inl (s3 _ _ d2))) (by rw [List.length_map]; omega) (fun _ => true) (fun i => S [(rs.getD i []).getD b 0]) (fun _ => rfl) (fun i x H4 hi s4 QB k => k H4 (Same.refl H4)) (fun i x H4 hi s4 _ QV k => ?_) (fun Di H4 n4 s4 d4 => ?_)
      · rw [List.getElem?_map] at hi
        obtain ⟨r, hr, rfl⟩ := Option.map_eq_some_iff.mp hi
        have hl := hrl r (List.mem_of_getElem? hr)
        have e6 : rs.getD i [] = r := by rw [List.getD_eq_getElem?_getD, hr]; rfl
        rw [e6] at k
        show (_ : TE) [some (.ref a), some (.int (L : Int)), v, some (.ref Dr), some (.int (b : Int)), some (S r)] H4 QV
        walk_at "go"
        refine i_ix_str (c := r.getD b 0) (by omega) (by omega) ?_ (k H4 (Same.refl H4))
        rw [Int.toNat_natCast, List.getD_eq_getElem?_getD, List.getElem?_eq_getElem (by omega)]
        rfl
      · rw [kept_all, List.length_map, range_getD_map rs [] (fun r => S [r.getD b 0])] at d4
        walk_at "go"
        refine ⟨Di, rs.map fun r => r.getD b 0, rfl, .inl (.inl (by rw [d4, List.map_map]; rfl)), ?_⟩
        exact k H4 s4
    · have e7 : (List.range L).map (fun b => S [firstLit (rs.map fun r => r.getD b 0)]) = ((List.range L).map fun b => firstLit (rs.map fun r => r.getD b 0)).map fun c => S [c] := by rw [List.map_map]; rfl
      rw [e7] at d3
      walk_at "go"
      refine i_join1 (.inl (.inl d3)) (by rw [List.length_map, List.length_range]; omega) ?_
      walk_at "go"
      refine i_new (by show 2 ≤ 100000; omega) fun p np => ?_
      exact q p _ (s2.trans (s3.trans (same_upd np))) upd_same
def p_behind_digits : P2 := fun x y H Q _ => ∃ (z : List Nat) (a : Nat), x = S z ∧ y = .int (a : Int) ∧ z.length ≤ 100000 ∧ a ≤ z.length ∧ Q (.int ((bd z a : Nat) : Int)) H
theorem ok_behind_digits (T : Txt K mg C_GlimError C_BadText C_TooLong) : OK P w K mg base CX0 1 "behind_digits" ["text", "at"] (sp2  p_behind_digits) := by
  refine OK.mk (k := 0) T.d_behind_digits sc_behind_digits len2 fun f cdv A outer s H vs Q E hr h => ?_
  obtain ⟨x, y, rfl, h⟩ := h
  refine ⟨_, (pss_cons (ps_while PassesOwn.never (pw_and (pt_cmpR op_ltP (pv 1) (pe_callB (cLen K) (by rfl) T.b_len (by decide +kernel) (pa_cons (pv 0) pa_nil)) (nomark _)) (pw_and1 (pt_cmpR (opIn K) (pe_ix (ixK K) (pv 0) (pv 1) (fun _ _ => rfl)) (pe_gS [48, 49, 50, 51, 52, 53, 54, 55, 56, 57] T.g_DIGITS) (by with_unfolding_all rfl)))).pt (pss_one (ps_aug (i := 1) sc_behind_digits.nd rfl (Or.inl rfl) pe_int ip_add))) (pss_one (ps_ret (pv 1)))), ?_⟩
  show (_ : TS) { nx := fun _ H' => Q .non H', rt := Q } [some x, some y] H
  obtain ⟨z, a, rfl, rfl, hz, ha, q⟩ := h
  walk_at "go"
  refine i_while (fun m σ H' => ∃ n : Nat, σ = [some (S z), some (.int (n : Int))] ∧ H' = H ∧ n + m = z.length ∧ bd z n = bd z a) (z.length - a) ⟨a, rfl, rfl, by omega, rfl⟩ ?_
  rintro m σ H' ⟨n, rfl, rfl, hn, hb⟩
  walk_at "go"
  refine i_dec (fun e => ?_) (fun e => ?_)
  · walk_at "go"
    have hl : n < z.length := by omega
    refine i_ix_str (c := z[n]) hz (by omega) (by rw [Int.toNat_natCast]; exact List.getElem?_eq_getElem hl) ?_
    walk_at "go"
    refine i_dec (fun e => i_turn ?_) (fun e => ?_)
    · walk_at "go"
      exact ⟨m - 1, by omega, n + 1, rfl, rfl, by omega, by rw [bd_step (List.getElem?_eq_getElem hl) e, hb]⟩
    · walk_at "go"
      rw [← hb, bd_stop (fun c hc => by rw [List.getElem?_eq_getElem hl] at hc; cases hc; exact e)] at q
      exact q
  · walk_at "go"
    rw [← hb, bd_stop (fun c hc => by rw [List.getElem?_eq_none (by omega)] at hc; cases hc)] at q
    exact q
def p_within : P3 := fun x y u H Q _ => ∃ (r : List Nat) (lo hi : Nat), x = S r ∧ y = .int (lo : Int) ∧ u = .int (hi : Int) ∧ r.length ≤ 100000 ∧ (∀ c ∈ r, c ∈ DG) ∧ Q (.bl (within r lo hi)) H
theorem ok_is_within (T : Txt K mg C_GlimError C_BadText C_TooLong) : OK P w K mg base CX0 1 "is_within" ["run", "low", "high"] (sp3  p_within) := by
  refine OK.mk (k := 0) T.d_is_within sc_is_within len3 fun f cdv A outer s H vs Q E hr h => ?_
  obtain ⟨x, y, z, rfl, h⟩ := h
  refine ⟨_, (pss_one (ps_ret (pe_and (pe_chain op_leP op_leP pe_int (pe_callB (cLen K) (by rfl) T.b_len (by decide +kernel) (pa_cons (pv 0) pa_nil)) pe_int) (pe_one (pe_chain op_leP op_leP (pv 1) (pe_callTy call_intTx (by rfl) T.b_int (by decide +kernel) (pa_cons (pv 0) pa_nil)) (pv 2)))))), ?_⟩
  show (_ : TS) { nx := fun _ H' => Q .non H', rt := Q } [some x, some y, some z] H
  obtain ⟨r, lo, hi, rfl, rfl, rfl, hz, hd, q⟩ := h
  walk_at "go"
  unfold within at q
  have nn : ∀ a b : Nat, decide ((a : Int) ≤ (b : Int)) = decide (a ≤ b) := fun a b => by rw [decide_eq_decide]; omega
  refine i_dec (fun e1 => ?_) (fun e1 => ?_)
  · walk_at "go"
    refine i_dec (fun e2 => ?_) (fun e2 => ?_)
    · walk_at "go"
      refine i_intTx (by omega) (by omega) hd ?_
      walk_at "go"
      rw [decide_eq_true (show 1 ≤ r.length by omega), decide_eq_true (show r.length ≤ 2 by omega), Bool.true_and, Bool.true_and] at q
      rw [nn]
      refine i_bool (fun e => ?_) (fun e => ?_)
      · rw [e, Bool.true_and] at q
        walk_at "go"
        rw [nn]
        exact q
      · rw [e, Bool.false_and] at q
        exact q
    · rw [decide_eq_false (show ¬ r.length ≤ 2 by omega), Bool.and_false, Bool.false_and, Bool.false_and] at q
      walk_at "go"
      exact q
  · rw [decide_eq_false (show ¬ 1 ≤ r.length by omega), Bool.false_and, Bool.false_and, Bool.false_and] at q
    walk_at "go"
    exact q
end
end K04
namespace K04
open PySem PySem.Spec PyProof.Rows L2 Fg
local macro_rules | `(tactic| walk_at "sq") => `(tactic| first
  | assumption
  | exact .inl (.inl (by assumption))
  | exact .inl (.inl upd_same))
local macro_rules | `(tactic| walk_at "st") => `(tactic| first
  | assumption
  | exact .inl (.inl (by assumption))
  | exact .inl (.inl upd_same))
local macro_rules | `(tactic| walk_at "o") => `(tactic| first
  | omega
  | assumption
  | (simp only [List.length_append, List.length_take, List.length_drop, List.length_cons, List.length_nil, List.length_singleton, List.length_map, List.length_range, Int.toNat_natCast] ; omega))
local macro_rules | `(tactic| walk_at "s") => `(tactic| first
  | (with_reducible refine i_seq ?_)
  | (with_reducible refine i_asg ?_)
  | ((with_reducible refine' i_var ?h1 ?_); (case h1 => rfl))
  | (with_reducible refine i_c ?_)
  | ((with_reducible refine' i_gname' ?h1 ?_); (case h1 => (simp only [List.set_cons_zero, List.set_cons_succ]; rfl)))
  | (with_reducible refine i_op ?_)
  | (with_reducible refine i_ifS ?_)
  | (with_reducible refine i_for ?_)
  | (with_reducible refine i_test ?_)
  | (with_reducible refine i_B ?_)
  | (with_reducible refine i_exbl ?_)
  | (with_reducible refine i_exint ?_)
  | (with_reducible refine i_cb ?_)
  | (with_reducible refine i_nil ?_)
  | (with_reducible refine i_cons ?_)
  | (with_reducible refine i_ret ?_)
  | (with_reducible refine i_sl ?_)
  | (with_reducible refine i_nopart ?_)
  | (with_reducible refine i_part ?_)
  | (with_reducible refine i_add_int ?_)
  | (with_reducible refine i_sub ?_)
  | (with_reducible refine i_lt ?_)
  | ((with_reducible refine' i_mod ?h1 ?_); (case h1 => walk_at "o"))
  | ((with_reducible refine' i_fdiv ?h1 ?_); (case h1 => (refine cdiv_small ?_ ?_ <;> walk_at "o")))
  | ((with_reducible refine' i_sl_to ?h1 ?h2 ?_); (case h1 => walk_at "o"); (case h2 => walk_at "o"))
  | ((with_reducible refine' i_sl_from ?h1 ?h2 ?_); (case h1 => walk_at "o"); (case h2 => walk_at "o"))
  | ((with_reducible refine' i_add_str ?h1 ?_); (case h1 => walk_at "o"))
  | ((with_reducible refine' i_mul_int ?h1 ?_); (case h1 => first | (refine mul_small ?_ ?_ <;> walk_at "o") | (refine mul_smallR ?_ ?_ <;> walk_at "o")))
  | (with_reducible refine i_le ?_)
  | (with_reducible refine i_gt ?_)
  | (with_reducible refine i_ge ?_)
  | (with_reducible refine i_eq_int ?_)
  | (with_reducible refine i_eq_str ?_)
  | (with_reducible refine i_ne_int ?_)
  | (with_reducible refine i_ne_str ?_)
  | (with_reducible refine i_eq_bl ?_)
  | (with_reducible refine i_ne_bl ?_)
  | (with_reducible refine i_in_sg ?_)
  | (with_reducible refine i_notIn_sg ?_)
  | (with_reducible refine i_call ?_)
  | (with_reducible refine i_callS ?_)
  | (with_reducible refine i_sp1 ?_)
  | (with_reducible refine i_sp2 ?_)
  | (with_reducible refine i_sp3 ?_)
  | (with_reducible refine i_sp4 ?_)
  | (with_reducible refine i_sp1' ?_)
  | (with_reducible refine i_sp2' ?_)
  | (with_reducible refine i_sp3' ?_)
  | ((with_reducible refine' i_ix_lst ?h1 ?h2 ?_); (case h1 => walk_at "sq"); (case h2 => first | exact atI_nat rfl | rfl))
  | ((with_reducible refine' i_ix_tup ?h1 ?h2 ?_); (case h1 => walk_at "st"); (case h2 => first | exact atI_nat rfl | rfl))
  | (with_reducible refine i_gsub ?_)
  | (with_reducible refine i_par ?_)
  | (with_reducible refine i_lstRg1 ?_)
  | (with_reducible refine i_app ?_)
  | (with_reducible refine i_par2 ?_)
  | ((with_reducible refine' i_aug ?h1 ?_); (case h1 => rfl))
  | (with_reducible refine i_ipI ?_)
  | ((with_reducible refine' i_gtup2 ?h1 ?_); (case h1 => walk_at "st"))
  | (with_reducible refine i_int_bl ?_)
  | (with_reducible refine i_raise ?_)
  | (with_reducible refine i_mkE ?_)
  | (with_reducible refine i_ex1 ?_)
  | (with_reducible refine i_and ?_)
  | (with_reducible refine i_or ?_)
  | (with_reducible refine i_not ?_)
  | (with_reducible refine i_tt ?_)
  | (with_reducible refine i_ff ?_)
  | (with_reducible refine i_nott ?_)
  | (with_reducible refine i_notf ?_)
  | (with_reducible refine i_andV ?_)
  | (with_reducible refine i_orV ?_)
  | (with_reducible refine i_notV ?_)
  | (with_reducible refine i_ifE ?_)
  | (with_reducible refine i_tup ?_)
  | (with_reducible refine i_lst ?_)
  | (with_reducible refine i_un ?_)
  | (with_reducible refine i_neg ?_)
  | (with_reducible refine i_chain ?_)
  | (with_reducible refine i_next ?_)
  | (with_reducible refine i_retN ?_)
  | (with_reducible refine i_drop ?_)
  | (with_reducible refine i_int_int ?_)
  | (with_reducible refine i_abs ?_)
  | (with_reducible refine i_m1c ?_)
  | (with_reducible refine i_is_non ?_)
  | (with_reducible refine i_is_int ?_)
  | (with_reducible refine i_is_bl ?_)
  | (with_reducible refine i_isn_bl ?_)
  | (with_reducible refine i_is_str ?_)
  | (with_reducible refine i_is_ref ?_)
  | (with_reducible refine i_isn_non ?_)
  | (with_reducible refine i_isn_int ?_)
  | (with_reducible refine i_isn_str ?_)
  | (with_reducible refine i_isn_ref ?_)
  | (with_reducible refine i_len_str ?h1 ?_; (case h1 => walk_at "o"))
  | (with_reducible refine i_isi_int_int ?_) | (with_reducible refine i_isi_int_bool ?_) | (with_reducible refine i_isi_int_str ?_) | (with_reducible refine i_isi_int_tuple ?_) | (with_reducible refine i_isi_int_list ?_)
  | (with_reducible refine i_isi_bl_int ?_) | (with_reducible refine i_isi_bl_bool ?_) | (with_reducible refine i_isi_bl_str ?_) | (with_reducible refine i_isi_bl_tuple ?_) | (with_reducible refine i_isi_bl_list ?_)
  | (with_reducible refine i_isi_str_int ?_) | (with_reducible refine i_isi_str_bool ?_) | (with_reducible refine i_isi_str_str ?_) | (with_reducible refine i_isi_str_tuple ?_) | (with_reducible refine i_isi_str_list ?_)
  | (with_reducible refine i_isi_non_int ?_) | (with_reducible refine i_isi_non_bool ?_) | (with_reducible refine i_isi_non_str ?_) | (with_reducible refine i_isi_non_tuple ?_) | (with_reducible refine i_isi_non_list ?_))
local macro_rules | `(tactic| walk_at "go") => `(tactic| (repeat' (walk_at "s")))
local macro_rules | `(tactic| walk_at "n") => `(tactic| simp only [wipe, List.map_cons, List.map_nil, List.set_cons_zero, List.set_cons_succ])
/-- how a reading ends -/
def Out (C : Addr) (H : Hp) (Q : VK) (E : XK) : Res → Prop
  | .error k => Rz E H C "at" (.int (k : Int))
  | .ok (s, e) => ∀ p q H', Same H H' → H' q = some (Sv s.1 s.2) → H' p = some (.tup [.ref q, .int (e : Int)]) → Q (.ref p) H'
def p_rdp (C : Addr) (f : List Nat → Nat → Res) (d : Nat) : P3 := fun x y u H Q E => ∃ (z : List Nat) (a : Nat) (o : Int), x = S z ∧ y = .int (a : Int) ∧ u = .int o ∧ o + (d : Int) = 6 ∧ z.length ≤ 1700 ∧ a ≤ z.length ∧ Out C H Q E (f z a)
/-- the parts behind an opening: never, where no more may be opened -/
def PD (C : Addr) : Nat → P3
  | 0 => fun _ _ _ _ _ _ => False
  | d + 1 => p_rdp C (fun z => rd z d) d
theorem decS {l m : List Nat} : (l = m) = (S l = S m) := propext S_inj.symm
theorem toNat_cast (n : Nat) : ((n : Int)).toNat = n := Int.toNat_natCast n
section
variable {P : Program} {w : World} {K : PySem.W.Frag} {mg : Str → Option Value} {base : Heap} {C_GlimError C_BadText C_TooLong : Addr}
theorem ok_read_item (T : Txt K mg C_GlimError C_BadText C_TooLong) (d : Nat) (R : OK P w K mg base (L2.CX P w) (3 * d + 3) "read_parts" ["text", "at", "opened"] (sp3 (PD C_BadText d))) :
    OK P w K mg base (L2.CX P w) (3 * d + 4) "read_item" ["text", "at", "opened"] (sp3 (p_rdp C_BadText (fun z => rdItem z d) d)) := by
  refine OK.mkX (k := 3 * d + 3) T.d_read_item sc_read_item len3 fun f cdv A outer s H vs Q E hr h => ?_
  obtain ⟨x, y, z, rfl, h⟩ := h
  refine ⟨_, (pss_cons (ps_set (i := 3) sc_read_item.nd rfl (Or.inl rfl) (pv 1)) (pss_cons (ps_set (i := 1) sc_read_item.nd rfl (Or.inl rfl) (pe_f (ok_behind_digits (K := K) T) (hr.mono (by omega)) pass0 (pa_cons (pv 0) (pa_cons (pv 3) pa_nil)))) (pss_cons (ps_set (i := 4) sc_read_item.nd rfl (Or.inl rfl) (pe_slice (slK K) (pv 0) (po_some (pv 3)) (po_some (pv 1)))) (pss_cons (ps_if (pt_cmpR (opEq K hr.units) (pe_slice (slK K) (pv 4) po_none (po_some pe_int)) (pe_S [48]) (nomark _)) (pss_one (ps_raiseP rfl (takes_of rfl rfl rfl rfl) (pmk_E (k := 0) (okx_BadText T) (hr.mono (by omega)) (pa_cons (pv 3) pa_nil)))) pss_nil) (Evl.pss_cut (ps_if (pw_or (pt_cmpR (opEq K hr.units) (pv 1) (pe_callB (cLen K) (by rfl) T.b_len (by decide +kernel) (pa_cons (pv 0) pa_nil)) (nomark _)) (pw_or1 (pw_and (pt_cmpR (opNotIn K) (pe_ix (ixK K) (pv 0) (pv 1) (fun _ _ => rfl)) (pe_gS [46, 103, 114, 119] T.g_SIGNS) (by with_unfolding_all rfl)) (pw_and1 (pt_cmpR (opNe K hr.units) (pe_ix (ixK K) (pv 0) (pv 1) (fun _ _ => rfl)) (pe_S [40]) (nomark _)))).pt)).pt (pss_one (ps_raiseP rfl (takes_of rfl rfl rfl rfl) (pmk_E (k := 0) (okx_BadText T) (hr.mono (by omega)) (pa_cons (pv 1) pa_nil)))) pss_nil) (Evl.pss_cut (ps_if (pw_and (pt_cmpR (opNe K hr.units) (pv 4) (pe_S []) (nomark _)) (pw_and1 (pt_not (pt_val (pe_f (ok_is_within (K := K) T) (hr.mono (by omega)) pass0 (pa_cons (pv 4) (pa_cons pe_int (pa_cons (pe_gI 24 T.g_MOST_ROUND) pa_nil)))))))).pt (pss_one (ps_raiseP rfl (takes_of rfl rfl rfl rfl) (pmk_E (k := 0) (okx_BadText T) (hr.mono (by omega)) (pa_cons (pv 3) pa_nil)))) pss_nil) (Evl.pss_cut (ps_set (i := 5) sc_read_item.nd rfl (Or.inl rfl) (pe_ifExp (pt_cmpR (opEq K hr.units) (pv 4) (pe_S []) (nomark _)) pe_int (pe_callTy call_intTx (by rfl) T.b_int (by decide +kernel) (pa_cons (pv 4) pa_nil)))) (pss_cons (ps_if (pt_cmpR (opNe K hr.units) (pe_ix (ixK K) (pv 0) (pv 1) (fun _ _ => rfl)) (pe_S [40]) (nomark _)) (pss_one (ps_ret (pe_tup (pa_cons (pe_f (ok_repeated (K := K) T) (hr.mono (by omega)) pass0 (pa_cons (pe_tup (pa_cons pe_int (pa_cons (pe_ix (ixK K) (pv 0) (pv 1) (fun _ _ => rfl)) pa_nil))) (pa_cons (pv 5) pa_nil))) (pa_cons (pe_op (opAdd K) (pv 1) pe_int) pa_nil))))) pss_nil) (pss_cons (ps_if (pt_cmpR (opEq K hr.units) (pv 2) (pe_gI 6 T.g_MOST_OPEN) (nomark _)) (pss_one (ps_raiseP rfl (takes_of rfl rfl rfl rfl) (pmk_E (k := 0) (okx_BadText T) (hr.mono (by omega)) (pa_cons (pv 1) pa_nil)))) pss_nil) (pss_cons (ps_asg (pe_f R (hr.mono (by omega)) (passes_call (takes_of rfl rfl rfl rfl) (fun _ _ _ _ h => h)) (pa_cons (pv 0) (pa_cons (pe_op (opAdd K) (pv 1) pe_int) (pa_cons (pe_op (opAdd K) (pv 2) pe_int) pa_nil)))) (pgTup (n := 2) K rfl (pgs_cons (pg_name (i := 6) sc_read_item.nd rfl (Or.inl rfl)) (pgs_cons (pg_name (i := 1) sc_read_item.nd rfl (Or.inl rfl)) pgs_nil)))) (pss_cons (ps_if (pw_or (pt_cmpR (opEq K hr.units) (pv 1) (pe_callB (cLen K) (by rfl) T.b_len (by decide +kernel) (pa_cons (pv 0) pa_nil)) (nomark _)) (pw_or1 (pt_cmpR (opNe K hr.units) (pe_ix (ixK K) (pv 0) (pv 1) (fun _ _ => rfl)) (pe_S [41]) (nomark _)))).pt (pss_one (ps_raiseP rfl (takes_of rfl rfl rfl rfl) (pmk_E (k := 0) (okx_BadText T) (hr.mono (by omega)) (pa_cons (pv 1) pa_nil)))) pss_nil) (pss_one (ps_ret (pe_tup (pa_cons (pe_f (ok_repeated (K := K) T) (hr.mono (by omega)) pass0 (pa_cons (pv 6) (pa_cons (pv 5) pa_nil))) (pa_cons (pe_op (opAdd K) (pv 1) pe_int) pa_nil)))))))))))))))), ?_⟩
  show (_ : TS) { nx := fun _ H' => Q .non H', rt := Q } [some x, some y, some z, none, none, none, none] H
  obtain ⟨z, a, o, rfl, rfl, rfl, ho, hz, ha, h⟩ := h
  replace h : Out C_BadText H Q E (item (rpOf z d) z a) := rdItem_item z d ▸ h
  have ba := bd_le ha
  have ga := bd_ge z a
  have dg := run_digits z a
  have rl : (run z a).length ≤ z.length := by unfold bd at ba; omega
  unfold item at h
  walk_at "go"
  refine ⟨z, a, rfl, rfl, by omega, ha, ?_⟩
  walk_at "go"
  refine i_sl_str (by omega) ?_
  rw [cutN_run ha]
  generalize hrun : run z a = r at *
  generalize hb : bd z a = b at *
  walk_at "go"
  rw [show Int.toNat 1 = 1 from rfl]
  refine i_dec (fun e => ?_) (fun e => ?_)
  · rw [if_pos e] at h
    walk_at "go"
    intro dd nd
    exact Rz.at h nd
  rw [if_neg e] at h
  walk_at "go"
  refine i_cut (fun σ H' => ∃ c, σ = [some (S z), some (.int (b : Int)), some (.int o), some (.int (a : Int)), some (S r), none, none] ∧ H' = H ∧ z[b]? = some c ∧ ¬ (c ∉ SG ∧ c ≠ 40)) ?_ ?_
  · walk_at "go"
    by_cases hl : b < z.length
    case neg =>
      rw [List.getElem?_eq_none (by omega)] at h
      refine i_dec (fun _ => ?_) (fun e' => absurd (by omega) e')
      walk_at "go"
      intro dd nd
      exact Rz.at h nd
    have hc : z[b]? = some z[b] := List.getElem?_eq_getElem hl
    rw [hc] at h
    generalize z[b] = c at *
    dsimp only at h
    have ixc : ∀ {H : Hp} {Q : VK}, Q (S [c]) H → ixP K (S z) (.int (b : Int)) H Q := fun k => i_ix_str (by omega) (by omega) (by rw [Int.toNat_natCast]; exact hc) k
    refine i_dec (fun e' => absurd e' (by omega)) (fun _ => ?_)
    walk_at "go"
    refine ixc ?_
    walk_at "go"
    refine i_decN (fun e1 => ?_) (fun e1 => ?_)
    · walk_at "go"
      refine ixc ?_
      walk_at "go"
      refine i_decN (fun e2 => ?_) (fun e2 => ?_)
      · walk_at "go"
        intro dd nd
        have h : Rz E H C_BadText "at" (.int (b : Int)) := by
          rw [show (if c ∉ SG ∧ c ≠ 40 then Except.error b else _ : Res) = .error b from if_pos ⟨e1, fun z => e2 (by rw [z])⟩] at h
          exact h
        exact Rz.at h nd
      · exact ⟨c, rfl, rfl, hc, fun z => z.2 (List.cons.inj e2).1⟩
    · walk_at "go"
      exact ⟨c, rfl, rfl, hc, fun z => z.1 e1⟩
  rintro σ H' ⟨c, rfl, rfl, hc, hg⟩
  have hl := (List.getElem?_eq_some_iff.mp hc).1
  have ixc : ∀ {H : Hp} {Q : VK}, Q (S [c]) H → ixP K (S z) (.int (b : Int)) H Q := fun k => i_ix_str (by omega) (by omega) (by rw [Int.toNat_natCast]; exact hc) k
  rw [hc] at h
  dsimp only at h
  replace h : Out C_BadText H' Q E (if r ≠ [] ∧ within r 2 24 = false then .error a else if c ≠ 40 then .ok (rep (1, [c]) (timesOf r), b + 1) else match rpOf z d with | none => .error b | some f => close z (timesOf r) (f (b + 1))) := by
    rw [show (if c ∉ SG ∧ c ≠ 40 then Except.error b else _ : Res) = _ from if_neg hg] at h
    exact h
  refine i_cut (fun σ H2 => σ = [some (S z), some (.int (b : Int)), some (.int o), some (.int (a : Int)), some (S r), none, none] ∧ H2 = H' ∧ ¬ (r ≠ [] ∧ within r 2 24 = false)) ?_ ?_
  · walk_at "go"
    refine i_decN (fun e1 => ?_) (fun e1 => ?_)
    · walk_at "go"
      refine ⟨r, 2, 24, rfl, rfl, rfl, by omega, dg, ?_⟩
      walk_at "go"
      cases hw : within r 2 24 with
      | true =>
        walk_at "go"
        exact ⟨rfl, rfl, fun z => by cases z.2⟩
      | false =>
        rw [if_pos ⟨e1, hw⟩] at h
        walk_at "go"
        intro dd nd
        exact Rz.at h nd
    · walk_at "go"
      exact ⟨rfl, rfl, fun z => z.1 e1⟩
  rintro σ H2 ⟨rfl, rfl, ht⟩
  rw [if_neg ht] at h
  obtain ⟨t1, t2, t3⟩ := times_ok ht
  refine i_cut (fun σ H3 => σ = [some (S z), some (.int (b : Int)), some (.int o), some (.int (a : Int)), some (S r), some (.int (timesOf r : Nat)), none] ∧ H3 = H2) ?_ ?_
  · walk_at "go"
    refine i_dec (fun e1 => ?_) (fun e1 => ?_)
    · walk_at "go"
      unfold timesOf
      rw [if_pos e1]
      exact ⟨rfl, rfl⟩
    · walk_at "go"
      have hw : within r 2 24 = true := by
        cases hw : within r 2 24 with
        | true => rfl
        | false => exact absurd ⟨e1, hw⟩ ht
      obtain ⟨w1, w2, _, _⟩ := within_iff.mp hw
      refine i_intTx w1 w2 dg ?_
      unfold timesOf
      rw [if_neg e1]
      exact ⟨rfl, rfl⟩
  rintro σ H3 ⟨rfl, rfl⟩
  generalize timesOf r = t at *
  walk_at "go"
  refine ixc ?_
  walk_at "go"
  refine i_decN (fun e1 => ?_) (fun e1 => ?_)
  · have ne : c ≠ 40 := fun z => e1 (by rw [z])
    rw [if_pos ne] at h
    walk_at "go"
    refine ixc ?_
    walk_at "go"
    refine i_new (by show 2 ≤ 100000; omega) fun p1 n1 => ?_
    walk_at "go"
    refine ⟨p1, 1, [c], t, rfl, rfl, upd_same, by omega, fun _ => rfl, t1, by omega, fun p2 n2 => ?_⟩
    walk_at "go"
    refine i_new (by show 2 ≤ 100000; omega) fun p3 n3 => ?_
    have s2 := (same_upd (o := .tup [.int 1, S [c]]) n1).trans (same_upd (o := Sv (1 * t) (rpt t [c])) n2)
    refine h p3 p2 _ (s2.trans (same_upd n3)) ?_ upd_same
    rw [upd_ne (fun e => by rw [← e, upd_same] at n3; cases n3), upd_same]
    rfl
  have e40 : c = 40 := (List.cons.inj e1).1
  rw [if_neg (fun z => z e40)] at h
  walk_at "go"
  cases d with
  | zero =>
    refine i_dec (fun _ => ?_) (fun e2 => absurd (by omega) e2)
    walk_at "go"
    intro dd nd
    exact Rz.at h nd
  | succ d =>
    refine i_dec (fun e2 => absurd e2 (by omega)) (fun _ => ?_)
    walk_at "go"
    replace h : Out C_BadText H3 Q E (close z t (rd z d (b + 1))) := h
    refine ⟨z, b + 1, o + 1, rfl, by rw [Int.natCast_add]; rfl, rfl, by omega, hz, by omega, ?_⟩
    show Out _ _ _ _ (rd z d (b + 1))
    cases hr2 : rd z d (b + 1) with
    | error k =>
      rw [hr2] at h
      exact h
    | ok se =>
      obtain ⟨s2, e2⟩ := se
      obtain ⟨g1, g2, g3, g4⟩ := rd_gd z d (b + 1) s2 e2 (by omega) hr2
      rw [hr2] at h
      intro p q H4 sm hq hp
      walk_at "go"
      unfold close at h
      dsimp only at h
      by_cases hl2 : e2 < z.length
      case neg =>
        rw [List.getElem?_eq_none (by omega), if_neg (by simp)] at h
        refine i_dec (fun _ => ?_) (fun e' => absurd (by omega) e')
        walk_at "go"
        intro dd nd
        exact Rz.at (Rz.mono h sm) nd
      have hc2 : z[e2]? = some z[e2] := List.getElem?_eq_getElem hl2
      rw [hc2] at h
      generalize z[e2] = c2 at *
      refine i_dec (fun e' => absurd e' (by omega)) (fun _ => ?_)
      walk_at "go"
      refine i_ix_str (c := c2) (by omega) (by omega) (by rw [Int.toNat_natCast]; exact hc2) ?_
      walk_at "go"
      refine i_decN (fun e' => ?_) (fun e' => ?_)
      · rw [if_neg (fun z => e' (by rw [Option.some.inj z]))] at h
        walk_at "go"
        intro dd nd
        exact Rz.at (Rz.mono h sm) nd
      · rw [if_pos (by rw [(List.cons.inj e').1])] at h
        walk_at "go"
        refine ⟨q, s2.1, s2.2, t, rfl, rfl, hq, g3, g4.2, t1, by omega, fun p2 n2 => ?_⟩
        walk_at "go"
        refine i_new (by show 2 ≤ 100000; omega) fun p3 n3 => ?_
        refine h p3 p2 _ ((sm.trans (same_upd n2)).trans (same_upd n3)) ?_ upd_same
        rw [upd_ne (fun e => by rw [← e, upd_same] at n3; cases n3), upd_same]
        rfl
end
end K04
namespace K04
open PySem PySem.Spec PyProof.Rows L2 Fg
local macro_rules | `(tactic| walk_at "sq") => `(tactic| first
  | assumption
  | exact .inl (.inl (by assumption))
  | exact .inl (.inl upd_same))
local macro_rules | `(tactic| walk_at "st") => `(tactic| first
  | assumption
  | exact .inl (.inl (by assumption))
  | exact .inl (.inl upd_same))
local macro_rules | `(tactic| walk_at "o") => `(tactic| first
  | omega
  | assumption
  | (simp only [List.length_append, List.length_take, List.length_drop, List.length_cons, List.length_nil, List.length_singleton, List.length_map, List.length_range, Int.toNat_natCast] ; omega))
local macro_rules | `(tactic| walk_at "s") => `(tactic| first
  | (with_reducible refine i_seq ?_)
  | (with_reducible refine i_asg ?_)
  | ((with_reducible refine' i_var ?h1 ?_); (case h1 => rfl))
  | (with_reducible refine i_c ?_)
  | ((with_reducible refine' i_gname' ?h1 ?_); (case h1 => (simp only [List.set_cons_zero, List.set_cons_succ]; rfl)))
  | (with_reducible refine i_op ?_)
  | (with_reducible refine i_ifS ?_)
  | (with_reducible refine i_for ?_)
  | (with_reducible refine i_test ?_)
  | (with_reducible refine i_B ?_)
  | (with_reducible refine i_exbl ?_)
  | (with_reducible refine i_exint ?_)
  | (with_reducible refine i_cb ?_)
  | (with_reducible refine i_nil ?_)
  | (with_reducible refine i_cons ?_)
  | (with_reducible refine i_ret ?_)
  | (with_reducible refine i_sl ?_)
  | (with_reducible refine i_nopart ?_)
  | (with_reducible refine i_part ?_)
  | (with_reducible refine i_add_int ?_)
  | (with_reducible refine i_sub ?_)
  | (with_reducible refine i_lt ?_)
  | ((with_reducible refine' i_mod ?h1 ?_); (case h1 => walk_at "o"))
  | ((with_reducible refine' i_fdiv ?h1 ?_); (case h1 => (refine cdiv_small ?_ ?_ <;> walk_at "o")))
  | ((with_reducible refine' i_sl_to ?h1 ?h2 ?_); (case h1 => walk_at "o"); (case h2 => walk_at "o"))
  | ((with_reducible refine' i_sl_from ?h1 ?h2 ?_); (case h1 => walk_at "o"); (case h2 => walk_at "o"))
  | ((with_reducible refine' i_add_str ?h1 ?_); (case h1 => walk_at "o"))
  | ((with_reducible refine' i_mul_int ?h1 ?_); (case h1 => first | (refine mul_small ?_ ?_ <;> walk_at "o") | (refine mul_smallR ?_ ?_ <;> walk_at "o")))
  | (with_reducible refine i_le ?_)
  | (with_reducible refine i_gt ?_)
  | (with_reducible refine i_ge ?_)
  | (with_reducible refine i_eq_int ?_)
  | (with_reducible refine i_eq_str ?_)
  | (with_reducible refine i_ne_int ?_)
  | (with_reducible refine i_ne_str ?_)
  | (with_reducible refine i_eq_bl ?_)
  | (with_reducible refine i_ne_bl ?_)
  | (with_reducible refine i_in_sg ?_)
  | (with_reducible refine i_notIn_sg ?_)
  | (with_reducible refine i_call ?_)
  | (with_reducible refine i_callS ?_)
  | (with_reducible refine i_sp1 ?_)
  | (with_reducible refine i_sp2 ?_)
  | (with_reducible refine i_sp3 ?_)
  | (with_reducible refine i_sp4 ?_)
  | (with_reducible refine i_sp1' ?_)
  | (with_reducible refine i_sp2' ?_)
  | (with_reducible refine i_sp3' ?_)
  | ((with_reducible refine' i_ix_lst ?h1 ?h2 ?_); (case h1 => walk_at "sq"); (case h2 => first | exact atI_nat rfl | rfl))
  | ((with_reducible refine' i_ix_tup ?h1 ?h2 ?_); (case h1 => walk_at "st"); (case h2 => first | exact atI_nat rfl | rfl))
  | (with_reducible refine i_gsub ?_)
  | (with_reducible refine i_par ?_)
  | (with_reducible refine i_lstRg1 ?_)
  | (with_reducible refine i_app ?_)
  | (with_reducible refine i_par2 ?_)
  | ((with_reducible refine' i_aug ?h1 ?_); (case h1 => rfl))
  | (with_reducible refine i_ipI ?_)
  | ((with_reducible refine' i_gtup2 ?h1 ?_); (case h1 => walk_at "st"))
  | (with_reducible refine i_int_bl ?_)
  | (with_reducible refine i_raise ?_)
  | (with_reducible refine i_mkE ?_)
  | (with_reducible refine i_ex1 ?_)
  | (with_reducible refine i_and ?_)
  | (with_reducible refine i_or ?_)
  | (with_reducible refine i_not ?_)
  | (with_reducible refine i_tt ?_)
  | (with_reducible refine i_ff ?_)
  | (with_reducible refine i_nott ?_)
  | (with_reducible refine i_notf ?_)
  | (with_reducible refine i_andV ?_)
  | (with_reducible refine i_orV ?_)
  | (with_reducible refine i_notV ?_)
  | (with_reducible refine i_ifE ?_)
  | (with_reducible refine i_tup ?_)
  | (with_reducible refine i_lst ?_)
  | (with_reducible refine i_un ?_)
  | (with_reducible refine i_neg ?_)
  | (with_reducible refine i_chain ?_)
  | (with_reducible refine i_next ?_)
  | (with_reducible refine i_retN ?_)
  | (with_reducible refine i_drop ?_)
  | (with_reducible refine i_int_int ?_)
  | (with_reducible refine i_abs ?_)
  | (with_reducible refine i_m1c ?_)
  | (with_reducible refine i_is_non ?_)
  | (with_reducible refine i_is_int ?_)
  | (with_reducible refine i_is_bl ?_)
  | (with_reducible refine i_isn_bl ?_)
  | (with_reducible refine i_is_str ?_)
  | (with_reducible refine i_is_ref ?_)
  | (with_reducible refine i_isn_non ?_)
  | (with_reducible refine i_isn_int ?_)
  | (with_reducible refine i_isn_str ?_)
  | (with_reducible refine i_isn_ref ?_)
  | (with_reducible refine i_len_str ?h1 ?_; (case h1 => walk_at "o"))
  | (with_reducible refine i_isi_int_int ?_) | (with_reducible refine i_isi_int_bool ?_) | (with_reducible refine i_isi_int_str ?_) | (with_reducible refine i_isi_int_tuple ?_) | (with_reducible refine i_isi_int_list ?_)
  | (with_reducible refine i_isi_bl_int ?_) | (with_reducible refine i_isi_bl_bool ?_) | (with_reducible refine i_isi_bl_str ?_) | (with_reducible refine i_isi_bl_tuple ?_) | (with_reducible refine i_isi_bl_list ?_)
  | (with_reducible refine i_isi_str_int ?_) | (with_reducible refine i_isi_str_bool ?_) | (with_reducible refine i_isi_str_str ?_) | (with_reducible refine i_isi_str_tuple ?_) | (with_reducible refine i_isi_str_list ?_)
  | (with_reducible refine i_isi_non_int ?_) | (with_reducible refine i_isi_non_bool ?_) | (with_reducible refine i_isi_non_str ?_) | (with_reducible refine i_isi_non_tuple ?_) | (with_reducible refine i_isi_non_list ?_))
local macro_rules | `(tactic| walk_at "go") => `(tactic| (repeat' (walk_at "s")))
local macro_rules | `(tactic| walk_at "n") => `(tactic| simp only [wipe, List.map_cons, List.map_nil, List.set_cons_zero, List.set_cons_succ])
theorem flat_one' (k : Nat) : (List.replicate k [46]).flatten = List.replicate k 46 := by
  induction k with
  | zero => rfl
  | succ k ih => rw [List.replicate_succ, List.flatten_cons, ih, List.replicate_succ]; rfl
section
variable {P : Program} {w : World} {K : PySem.W.Frag} {mg : Str → Option Value} {base : Heap} {C_GlimError C_BadText C_TooLong : Addr}
def p_filled (C : Addr) : P3 := fun x y u H Q E => ∃ (z : List Nat) (a : Nat) (q : Addr) (p : Stv), x = S z ∧ y = .int (a : Int) ∧ u = .ref q ∧ H q = some (Sv p.1 p.2) ∧ (p.1 ≤ 24 → p.2.length = p.1) ∧ z.length ≤ 1700 ∧ a ≤ z.length ∧ Out C H Q E (filled z a p)
theorem ok_read_filled (T : Txt K mg C_GlimError C_BadText C_TooLong) : OK P w K mg base (L2.CX P w) 4 "read_filled" ["text", "at", "part"] (sp3  (p_filled C_BadText)) := by
  refine OK.mkX (k := 3) T.d_read_filled sc_read_filled len3 fun f cdv A outer s H vs Q E hr h => ?_
  obtain ⟨x, y, z, rfl, h⟩ := h
  refine ⟨_, (pss_cons (ps_set (i := 3) sc_read_filled.nd rfl (Or.inl rfl) (pe_f (ok_behind_digits (K := K) T) (hr.mono (by decide)) pass0 (pa_cons (pv 0) (pa_cons (pv 1) pa_nil)))) (pss_cons (ps_if (pt_cmpR (opEq K hr.units) (pv 3) (pv 1) (nomark _)) (pss_one (ps_raiseP rfl (takes_of rfl rfl rfl rfl) (pmk_E (k := 0) (okx_BadText T) (hr.mono (by decide)) (pa_cons (pv 1) pa_nil)))) pss_nil) (pss_cons (ps_set (i := 4) sc_read_filled.nd rfl (Or.inl rfl) (pe_slice (slK K) (pv 0) (po_some (pv 1)) (po_some (pv 3)))) (Evl.pss_cut (ps_if (pw_or (pt_cmpR (opEq K hr.units) (pe_ix (ixK K) (pv 4) pe_int (fun _ _ => rfl)) (pe_S [48]) (nomark _)) (pw_or1 (pt_not (pt_val (pe_f (ok_is_within (K := K) T) (hr.mono (by decide)) pass0 (pa_cons (pv 4) (pa_cons (pe_callB (call_max2 rfl) (by rfl) T.b_max (by decide +kernel) (pa_cons pe_int (pa_cons (pe_ix (ixK K) (pv 2) pe_int (fun _ _ => rfl)) pa_nil))) (pa_cons (pe_gI 24 T.g_MOST_ROUND) pa_nil)))))))).pt (pss_one (ps_raiseP rfl (takes_of rfl rfl rfl rfl) (pmk_E (k := 0) (okx_BadText T) (hr.mono (by decide)) (pa_cons (pv 1) pa_nil)))) pss_nil) (pss_cons (ps_set (i := 5) sc_read_filled.nd rfl (Or.inl rfl) (pe_callTy call_intTx (by rfl) T.b_int (by decide +kernel) (pa_cons (pv 4) pa_nil))) (pss_one (ps_ret (pe_tup (pa_cons (pe_tup (pa_cons (pv 5) (pa_cons (pe_op (opAdd K) (pe_ix (ixK K) (pv 2) pe_int (fun _ _ => rfl)) (pe_op op_mulP (pe_S [46]) (pe_op op_subP (pv 5) (pe_ix (ixK K) (pv 2) pe_int (fun _ _ => rfl))))) pa_nil))) (pa_cons (pv 3) pa_nil)))))))))), ?_⟩
  show (_ : TS) { nx := fun _ H' => Q .non H', rt := Q } [some x, some y, some z, none, none, none] H
  obtain ⟨z, a, q, ⟨n, l⟩, rfl, rfl, rfl, hq, hl, hz, ha, h⟩ := h
  dsimp only at hq hl
  have ba := bd_le ha
  have ga := bd_ge z a
  have dg := run_digits z a
  have rl : (run z a).length ≤ z.length := by unfold bd at ba; omega
  have rb := bd_eq (z := z) (a := a)
  unfold filled at h
  walk_at "go"
  refine ⟨z, a, rfl, rfl, by omega, ha, ?_⟩
  walk_at "go"
  refine i_dec (fun e => ?_) (fun e => ?_)
  · rw [if_pos (rb.mp (by omega))] at h
    walk_at "go"
    intro dd nd
    exact Rz.at h nd
  have rne : run z a ≠ [] := fun e' => e (by rw [rb.mpr e'])
  rw [if_neg rne] at h
  walk_at "go"
  refine i_sl_str (by omega) ?_
  rw [cutN_run ha]
  clear rb
  generalize run z a = r at *
  generalize bd z a = b at *
  walk_at "go"
  obtain ⟨c, r', rfl⟩ : ∃ c r', r = c :: r' := by
    cases r with
    | nil => exact absurd rfl rne
    | cons c r' => exact ⟨c, r', rfl⟩
  refine i_cut (fun σ H' => σ = [some (S z), some (.int (a : Int)), some (.ref q), some (.int (b : Int)), some (S (c :: r')), none] ∧ H' = H ∧ ¬ ((c :: r').take 1 = [48] ∨ within (c :: r') (max 1 n) 24 = false)) ?_ ?_
  · walk_at "go"
    refine i_ix_str (c := c) (by omega) (by decide) rfl ?_
    walk_at "go"
    refine i_dec (fun e1 => ?_) (fun e1 => ?_)
    · rw [if_pos (.inl e1)] at h
      walk_at "go"
      intro dd nd
      exact Rz.at h nd
    · unfold Sv at hq
      walk_at "go"
      refine ⟨1, (n : Int), rfl, ?_⟩
      have em : (if (n : Int) > 1 then (n : Int) else 1) = ((max 1 n : Nat) : Int) := by split <;> omega
      rw [em]
      walk_at "go"
      refine ⟨c :: r', max 1 n, 24, rfl, rfl, rfl, by omega, dg, ?_⟩
      walk_at "go"
      cases hw : within (c :: r') (max 1 n) 24 with
      | true =>
        walk_at "go"
        exact ⟨rfl, rfl, fun z => z.elim e1 (fun z => nomatch z)⟩
      | false =>
        rw [if_pos (.inr hw)] at h
        walk_at "go"
        intro dd nd
        exact Rz.at h nd
  rintro σ H' ⟨rfl, rfl, hg⟩
  rw [if_neg hg] at h
  have hw : within (c :: r') (max 1 n) 24 = true := by
    cases hw : within (c :: r') (max 1 n) 24 with
    | true => rfl
    | false => exact absurd (.inr hw) hg
  obtain ⟨w1, w2, w3, w4⟩ := within_iff.mp hw
  walk_at "go"
  refine i_intTx w1 w2 dg ?_
  generalize num (c :: r') = m at *
  have hn : n ≤ 24 := by omega
  unfold Sv at hq
  rw [if_pos hn] at hq
  walk_at "go"
  refine i_mul_strI (by omega) ⟨by show 1 * _ ≤ _; omega, by omega⟩ ?_
  rw [flat_one', show ((m : Int) - (n : Int)).toNat = m - n by omega]
  walk_at "go"
  refine i_add_str (by rw [hl hn, List.length_replicate]; omega) ?_
  walk_at "go"
  refine i_new (by show 2 ≤ 100000; omega) fun p1 n1 => ?_
  walk_at "go"
  refine i_new (by show 2 ≤ 100000; omega) fun p2 n2 => ?_
  refine h p2 p1 _ ((same_upd n1).trans (same_upd n2)) ?_ upd_same
  rw [upd_ne (fun e => by rw [← e, upd_same] at n2; cases n2), upd_same]
  show _ = some (HO.tup [.int (m : Int), if m ≤ 24 then _ else _])
  rw [if_pos w4]
  rfl
theorem ok_read_part (T : Txt K mg C_GlimError C_BadText C_TooLong) (d : Nat) (R : OK P w K mg base (L2.CX P w) (3 * d + 4) "read_item" ["text", "at", "opened"] (sp3 (p_rdp C_BadText (fun z => rdItem z d) d))) :
    OK P w K mg base (L2.CX P w) (3 * d + 5) "read_part" ["text", "at", "opened"] (sp3 (p_rdp C_BadText (fun z => Fg.part (rdItem z d) z) d)) := by
  refine OK.mkX (k := 3 * d + 4) T.d_read_part sc_read_part len3 fun f cdv A outer s H vs Q E hr h => ?_
  obtain ⟨x, y, z, rfl, h⟩ := h
  refine ⟨_, (pss_cons (ps_set (i := 3) sc_read_part.nd rfl (Or.inl rfl) (pe_tup (pa_cons pe_int (pa_cons (pe_S []) pa_nil)))) (Evl.pss_cut (ps_while (passes_of rfl) (pw_and (pt_cmpR op_ltP (pv 1) (pe_callB (cLen K) (by rfl) T.b_len (by decide +kernel) (pa_cons (pv 0) pa_nil)) (nomark _)) (pw_and1 (pw_or (pt_cmpR (opIn K) (pe_ix (ixK K) (pv 0) (pv 1) (fun _ _ => rfl)) (pe_gS [46, 103, 114, 119] T.g_SIGNS) (by with_unfolding_all rfl)) (pw_or1 (pt_cmpR (opIn K) (pe_ix (ixK K) (pv 0) (pv 1) (fun _ _ => rfl)) (pe_gS [48, 49, 50, 51, 52, 53, 54, 55, 56, 57] T.g_DIGITS) (by with_unfolding_all rfl)))).pt)).pt (pss_cons (ps_asg (pe_f R (hr.mono (by omega)) (passes_call (takes_of rfl rfl rfl rfl) (fun _ _ _ _ h => h)) (pa_cons (pv 0) (pa_cons (pv 1) (pa_cons (pv 2) pa_nil)))) (pgTup (n := 2) K rfl (pgs_cons (pg_name (i := 4) sc_read_part.nd rfl (Or.inl rfl)) (pgs_cons (pg_name (i := 1) sc_read_part.nd rfl (Or.inl rfl)) pgs_nil)))) (pss_one (ps_set (i := 3) sc_read_part.nd rfl (Or.inl rfl) (pe_f (ok_put_behind (K := K) T) (hr.mono (by omega)) pass0 (pa_cons (pv 3) (pa_cons (pv 4) pa_nil))))))) (pss_cons (ps_if (pt_cmpR (opEq K hr.units) (pe_ix (ixK K) (pv 3) pe_int (fun _ _ => rfl)) pe_int (nomark _)) (pss_one (ps_raiseP rfl (takes_of rfl rfl rfl rfl) (pmk_E (k := 0) (okx_BadText T) (hr.mono (by omega)) (pa_cons (pv 1) pa_nil)))) pss_nil) (pss_cons (ps_if (pw_and (pt_cmpR op_ltP (pv 1) (pe_callB (cLen K) (by rfl) T.b_len (by decide +kernel) (pa_cons (pv 0) pa_nil)) (nomark _)) (pw_and1 (pt_cmpR (opEq K hr.units) (pe_ix (ixK K) (pv 0) (pv 1) (fun _ _ => rfl)) (pe_S [64]) (nomark _)))).pt (pss_one (ps_ret (pe_f (ok_read_filled (K := K) T) (hr.mono (by omega)) (passes_call (takes_of rfl rfl rfl rfl) (fun _ _ _ _ h => h)) (pa_cons (pv 0) (pa_cons (pe_op (opAdd K) (pv 1) pe_int) (pa_cons (pv 3) pa_nil)))))) pss_nil) (pss_one (ps_ret (pe_tup (pa_cons (pv 3) (pa_cons (pv 1) pa_nil))))))))), ?_⟩
  show (_ : TS) { nx := fun _ H' => Q .non H', rt := Q } [some x, some y, some z, none, none] H
  obtain ⟨z, a, o, rfl, rfl, rfl, ho, hz, ha, h⟩ := h
  replace h : Out C_BadText H Q E (Fg.part (rdItem z d) z a) := h
  unfold Fg.part at h
  have gd := rdItem_gd z d
  walk_at "go"
  refine i_new (by show 2 ≤ 100000; omega) fun p0 n0 => ?_
  walk_at "go"
  refine i_cut (fun σ H' => ∃ (b : Nat) (p : Stv) (pq : Addr) (v : Option V), σ = [some (S z), some (.int (b : Int)), some (.int o), some (.ref pq), v] ∧ a ≤ b ∧ b ≤ z.length ∧ Same H H' ∧ H' pq = some (Sv p.1 p.2) ∧ Gb p (b - a) ∧
    Out C_BadText H Q E (partEnd z p b)) ?_ ?_
  · refine i_while (fun m σ H' => ∃ (f b : Nat) (p : Stv) (pq : Addr) (v : Option V), m = z.length - b ∧ σ = [some (S z), some (.int (b : Int)), some (.int o), some (.ref pq), v] ∧ a ≤ b ∧ b ≤ z.length ∧ z.length + 1 ≤ f + b ∧ Same H H' ∧ H' pq = some (Sv p.1 p.2) ∧ Gb p (b - a) ∧
      Out C_BadText H Q E (goOn (partEnd z) (items (rdItem z d) z f b p))) (z.length - a) ⟨z.length + 1 - a, a, (0, []), p0, _, rfl, rfl, Nat.le_refl _, ha, by omega, same_upd n0, upd_same, ⟨by rw [Nat.sub_self]; decide, fun _ => rfl⟩, h⟩ ?_
    rintro m σ H' ⟨f, b, p, pq, v, rfl, rfl, hab, hb, hf, s1, hp, gp, h⟩
    obtain ⟨f', rfl⟩ : ∃ f', f = f' + 1 := ⟨f - 1, by omega⟩
    unfold items at h
    walk_at "go"
    by_cases hl : b < z.length
    case neg =>
      rw [List.getElem?_eq_none (by omega)] at h
      refine i_dec (fun e => absurd (by omega) hl) (fun _ => ?_)
      walk_at "go"
      exact ⟨b, p, pq, v, rfl, hab, hb, s1, hp, gp, h⟩
    have hc : z[b]? = some z[b] := List.getElem?_eq_getElem hl
    rw [hc] at h
    generalize z[b] = c at *
    dsimp only at h
    have ixc : ∀ {H : Hp} {Q : VK}, Q (S [c]) H → ixP K (S z) (.int (b : Int)) H Q := fun k => i_ix_str (by omega) (by omega) (by rw [Int.toNat_natCast]; exact hc) k
    have turn : isStart c = true → tSeq (tAsg (tCall (sp3 (p_rdp C_BadText (fun z => rdItem z d) d)) [] E (tCons (tVar 0) (tCons (tVar 1) (tCons (tVar 2) tNil)))) (gTup K 2 (gCons (gName 4) (gCons (gName 1) gNil)))) (tAsg (tCall (sp2 p_behind) [] E0 (tCons (tVar 3) (tCons (tVar 4) tNil))) (gName 3))
        { nx := fun σ' H2 => ∃ m', m' < z.length - b ∧ ∃ (f b : Nat) (p : Stv) (pq : Addr) (v : Option V), m' = z.length - b ∧ σ' = [some (S z), some (.int (b : Int)), some (.int o), some (.ref pq), v] ∧ a ≤ b ∧ b ≤ z.length ∧ z.length + 1 ≤ f + b ∧ Same H H2 ∧ H2 pq = some (Sv p.1 p.2) ∧ Gb p (b - a) ∧ Out C_BadText H Q E (goOn (partEnd z) (items (rdItem z d) z f b p)), rt := Q }
        [some (S z), some (.int (b : Int)), some (.int o), some (.ref pq), v] H' := fun hs => by
      rw [if_pos hs] at h
      walk_at "go"
      refine ⟨z, b, o, rfl, rfl, rfl, ho, hz, hb, ?_⟩
      show Out _ _ _ _ (rdItem z d b)
      cases hr2 : rdItem z d b with
      | error k =>
        rw [hr2] at h
        exact Rz.mono h s1
      | ok se =>
        obtain ⟨s2, e2⟩ := se
        obtain ⟨g1, g2, g3, g4⟩ := gd b s2 e2 (by omega) hr2
        rw [hr2] at h
        intro p4 q4 H4 sm hq hp4
        walk_at "go"
        refine ⟨pq, q4, p.1, s2.1, p.2, s2.2, rfl, rfl, sm _ _ hp, hq, gp.2, g4.2, fun p5 n5 => ?_⟩
        walk_at "go"
        refine ⟨z.length - e2, by omega, f', e2, beh p s2, p5, _, rfl, rfl, by omega, g2, by omega, (s1.trans sm).trans (same_upd n5), upd_same, ?_, h⟩
        have := gp.beh g4
        rw [show b - a + (e2 - b) = e2 - a by omega] at this
        exact this
    have stop : isStart c = false → Out C_BadText H Q E (partEnd z p b) := fun hs => by
      rw [if_neg (by rw [hs]; decide)] at h
      exact h
    refine i_dec (fun _ => ?_) (fun e => absurd (by omega) e)
    walk_at "go"
    refine ixc ?_
    walk_at "go"
    refine i_dec (fun e1 => ?_) (fun e1 => ?_)
    · walk_at "go"
      refine i_turn ?_
      exact turn (by unfold isStart; rw [decide_eq_true e1]; rfl)
    walk_at "go"
    refine ixc ?_
    walk_at "go"
    refine i_dec (fun e2 => i_turn ?_) (fun e2 => ?_)
    · exact turn (by unfold isStart; rw [decide_eq_true e2, Bool.or_true])
    · exact ⟨b, p, pq, v, rfl, hab, hb, s1, hp, gp, stop (by unfold isStart; rw [decide_eq_false e1, decide_eq_false e2]; rfl)⟩
  · rintro σ H' ⟨b, ⟨n, l⟩, pq, v, rfl, hab, hb, s1, hp, gp, h⟩
    unfold partEnd at h
    dsimp only at h hp
    have ps : H' pq = some (.tup [.int (n : Int), if n ≤ 24 then S l else .non]) := hp
    walk_at "go"
    refine i_dec (fun e => ?_) (fun e => ?_)
    · rw [if_pos (by omega)] at h
      walk_at "go"
      intro dd nd
      exact Rz.at (Rz.mono h s1) nd
    rw [if_neg (by omega)] at h
    walk_at "go"
    have plain : Out C_BadText H Q E (.ok ((n, l), b)) → ∀ p4, H' p4 = none → Q (.ref p4) (upd H' p4 (.tup [.ref pq, .int (b : Int)])) := fun h p4 n4 =>
      h p4 pq _ (s1.trans (same_upd n4)) ((upd_ne (ne_of_none hp n4)).trans hp) upd_same
    by_cases hl : b < z.length
    case neg =>
      rw [List.getElem?_eq_none (by omega), if_neg (by simp)] at h
      refine i_dec (fun e => absurd (by omega) hl) (fun _ => ?_)
      walk_at "go"
      exact i_new (by show 2 ≤ 100000; omega) (plain h)
    have hc : z[b]? = some z[b] := List.getElem?_eq_getElem hl
    rw [hc] at h
    generalize z[b] = c at *
    refine i_dec (fun _ => ?_) (fun e => absurd (by omega) e)
    walk_at "go"
    refine i_ix_str (c := c) (by omega) (by omega) (by rw [Int.toNat_natCast]; exact hc) ?_
    walk_at "go"
    refine i_dec (fun e2 => ?_) (fun e2 => ?_)
    · rw [if_pos (by rw [(List.cons.inj e2).1])] at h
      walk_at "go"
      refine ⟨z, b + 1, pq, (n, l), rfl, by rw [Int.natCast_add]; rfl, rfl, hp, gp.2, hz, by omega, ?_⟩
      revert h
      generalize filled z (b + 1) (n, l) = r
      cases r with
      | error k => exact fun h => Rz.mono h s1
      | ok se => exact fun h p q H2 s2 => h p q H2 (s1.trans s2)
    · rw [if_neg (fun z => e2 (by rw [Option.some.inj z]))] at h
      walk_at "go"
      exact i_new (by show 2 ≤ 100000; omega) (plain h)
end
end K04
namespace K04
open PySem PySem.Spec PyProof.Rows L2 Fg
local macro_rules | `(tactic| walk_at "sq") => `(tactic| first
  | assumption
  | exact .inl (.inl (by assumption))
  | exact .inl (.inl upd_same))
local macro_rules | `(tactic| walk_at "st") => `(tactic| first
  | assumption
  | exact .inl (.inl (by assumption))
  | exact .inl (.inl upd_same))
local macro_rules | `(tactic| walk_at "o") => `(tactic| first
  | omega
  | assumption
  | (simp only [List.length_append, List.length_take, List.length_drop, List.length_cons, List.length_nil, List.length_singleton, List.length_map, List.length_range, Int.toNat_natCast] ; omega))
local macro_rules | `(tactic| walk_at "s") => `(tactic| first
  | (with_reducible refine i_seq ?_)
  | (with_reducible refine i_asg ?_)
  | ((with_reducible refine' i_var ?h1 ?_); (case h1 => rfl))
  | (with_reducible refine i_c ?_)
  | ((with_reducible refine' i_gname' ?h1 ?_); (case h1 => (simp only [List.set_cons_zero, List.set_cons_succ]; rfl)))
  | (with_reducible refine i_op ?_)
  | (with_reducible refine i_ifS ?_)
  | (with_reducible refine i_for ?_)
  | (with_reducible refine i_test ?_)
  | (with_reducible refine i_B ?_)
  | (with_reducible refine i_exbl ?_)
  | (with_reducible refine i_exint ?_)
  | (with_reducible refine i_cb ?_)
  | (with_reducible refine i_nil ?_)
  | (with_reducible refine i_cons ?_)
  | (with_reducible refine i_ret ?_)
  | (with_reducible refine i_sl ?_)
  | (with_reducible refine i_nopart ?_)
  | (with_reducible refine i_part ?_)
  | (with_reducible refine i_add_int ?_)
  | (with_reducible refine i_sub ?_)
  | (with_reducible refine i_lt ?_)
  | ((with_reducible refine' i_mod ?h1 ?_); (case h1 => walk_at "o"))
  | ((with_reducible refine' i_fdiv ?h1 ?_); (case h1 => (refine cdiv_small ?_ ?_ <;> walk_at "o")))
  | ((with_reducible refine' i_sl_to ?h1 ?h2 ?_); (case h1 => walk_at "o"); (case h2 => walk_at "o"))
  | ((with_reducible refine' i_sl_from ?h1 ?h2 ?_); (case h1 => walk_at "o"); (case h2 => walk_at "o"))
  | ((with_reducible refine' i_add_str ?h1 ?_); (case h1 => walk_at "o"))
  | ((with_reducible refine' i_mul_int ?h1 ?_); (case h1 => first | (refine mul_small ?_ ?_ <;> walk_at "o") | (refine mul_smallR ?_ ?_ <;> walk_at "o")))
  | (with_reducible refine i_le ?_)
  | (with_reducible refine i_gt ?_)
  | (with_reducible refine i_ge ?_)
  | (with_reducible refine i_eq_int ?_)
  | (with_reducible refine i_eq_str ?_)
  | (with_reducible refine i_ne_int ?_)
  | (with_reducible refine i_ne_str ?_)
  | (with_reducible refine i_eq_bl ?_)
  | (with_reducible refine i_ne_bl ?_)
  | (with_reducible refine i_in_sg ?_)
  | (with_reducible refine i_notIn_sg ?_)
  | (with_reducible refine i_call ?_)
  | (with_reducible refine i_callS ?_)
  | (with_reducible refine i_sp1 ?_)
  | (with_reducible refine i_sp2 ?_)
  | (with_reducible refine i_sp3 ?_)
  | (with_reducible refine i_sp4 ?_)
  | (with_reducible refine i_sp1' ?_)
  | (with_reducible refine i_sp2' ?_)
  | (with_reducible refine i_sp3' ?_)
  | ((with_reducible refine' i_ix_lst ?h1 ?h2 ?_); (case h1 => walk_at "sq"); (case h2 => first | exact atI_nat rfl | rfl))
  | ((with_reducible refine' i_ix_tup ?h1 ?h2 ?_); (case h1 => walk_at "st"); (case h2 => first | exact atI_nat rfl | rfl))
  | (with_reducible refine i_gsub ?_)
  | (with_reducible refine i_par ?_)
  | (with_reducible refine i_lstRg1 ?_)
  | (with_reducible refine i_app ?_)
  | (with_reducible refine i_par2 ?_)
  | ((with_reducible refine' i_aug ?h1 ?_); (case h1 => rfl))
  | (with_reducible refine i_ipI ?_)
  | ((with_reducible refine' i_gtup2 ?h1 ?_); (case h1 => walk_at "st"))
  | (with_reducible refine i_int_bl ?_)
  | (with_reducible refine i_raise ?_)
  | (with_reducible refine i_mkE ?_)
  | (with_reducible refine i_ex1 ?_)
  | (with_reducible refine i_and ?_)
  | (with_reducible refine i_or ?_)
  | (with_reducible refine i_not ?_)
  | (with_reducible refine i_tt ?_)
  | (with_reducible refine i_ff ?_)
  | (with_reducible refine i_nott ?_)
  | (with_reducible refine i_notf ?_)
  | (with_reducible refine i_andV ?_)
  | (with_reducible refine i_orV ?_)
  | (with_reducible refine i_notV ?_)
  | (with_reducible refine i_ifE ?_)
  | (with_reducible refine i_tup ?_)
  | (with_reducible refine i_lst ?_)
  | (with_reducible refine i_un ?_)
  | (with_reducible refine i_neg ?_)
  | (with_reducible refine i_chain ?_)
  | (with_reducible refine i_next ?_)
  | (with_reducible refine i_retN ?_)
  | (with_reducible refine i_drop ?_)
  | (with_reducible refine i_int_int ?_)
  | (with_reducible refine i_abs ?_)
  | (with_reducible refine i_m1c ?_)
  | (with_reducible refine i_is_non ?_)
  | (with_reducible refine i_is_int ?_)
  | (with_reducible refine i_is_bl ?_)
  | (with_reducible refine i_isn_bl ?_)
  | (with_reducible refine i_is_str ?_)
  | (with_reducible refine i_is_ref ?_)
  | (with_reducible refine i_isn_non ?_)
  | (with_reducible refine i_isn_int ?_)
  | (with_reducible refine i_isn_str ?_)
  | (with_reducible refine i_isn_ref ?_)
  | (with_reducible refine i_len_str ?h1 ?_; (case h1 => walk_at "o"))
  | (with_reducible refine i_isi_int_int ?_) | (with_reducible refine i_isi_int_bool ?_) | (with_reducible refine i_isi_int_str ?_) | (with_reducible refine i_isi_int_tuple ?_) | (with_reducible refine i_isi_int_list ?_)
  | (with_reducible refine i_isi_bl_int ?_) | (with_reducible refine i_isi_bl_bool ?_) | (with_reducible refine i_isi_bl_str ?_) | (with_reducible refine i_isi_bl_tuple ?_) | (with_reducible refine i_isi_bl_list ?_)
  | (with_reducible refine i_isi_str_int ?_) | (with_reducible refine i_isi_str_bool ?_) | (with_reducible refine i_isi_str_str ?_) | (with_reducible refine i_isi_str_tuple ?_) | (with_reducible refine i_isi_str_list ?_)
  | (with_reducible refine i_isi_non_int ?_) | (with_reducible refine i_isi_non_bool ?_) | (with_reducible refine i_isi_non_str ?_) | (with_reducible refine i_isi_non_tuple ?_) | (with_reducible refine i_isi_non_list ?_))
local macro_rules | `(tactic| walk_at "go") => `(tactic| (repeat' (walk_at "s")))
local macro_rules | `(tactic| walk_at "n") => `(tactic| simp only [wipe, List.map_cons, List.map_nil, List.set_cons_zero, List.set_cons_succ])
theorem Out.mono {C : Addr} {H H' : Hp} {Q : VK} {E : XK} {r : Res} (h : Out C H Q E r) (s : Same H H') : Out C H' Q E r := by
  cases r with
  | error k => exact Rz.mono h s
  | ok se => exact fun p q H2 s2 => h p q H2 (s.trans s2)
section
variable {P : Program} {w : World} {K : PySem.W.Frag} {mg : Str → Option Value} {base : Heap} {C_GlimError C_BadText C_TooLong : Addr}
theorem ok_read_parts (T : Txt K mg C_GlimError C_BadText C_TooLong) (d : Nat) (R : OK P w K mg base (L2.CX P w) (3 * d + 5) "read_part" ["text", "at", "opened"] (sp3 (p_rdp C_BadText (fun z => Fg.part (rdItem z d) z) d))) :
    OK P w K mg base (L2.CX P w) (3 * d + 6) "read_parts" ["text", "at", "opened"] (sp3 (PD C_BadText (d + 1))) := by
  refine OK.mkX (k := 3 * d + 5) T.d_read_parts sc_read_parts len3 fun f cdv A outer s H vs Q E hr h => ?_
  obtain ⟨x, y, z, rfl, h⟩ := h
  refine ⟨_, (pss_cons (ps_asg (pe_f R (hr.mono (by omega)) (passes_call (takes_of rfl rfl rfl rfl) (fun _ _ _ _ h => h)) (pa_cons (pv 0) (pa_cons (pv 1) (pa_cons (pv 2) pa_nil)))) (pgTup (n := 2) K rfl (pgs_cons (pg_name (i := 3) sc_read_parts.nd rfl (Or.inl rfl)) (pgs_cons (pg_name (i := 1) sc_read_parts.nd rfl (Or.inl rfl)) pgs_nil)))) (pss_cons (ps_set (i := 4) sc_read_parts.nd rfl (Or.inl rfl) (pe_lst (pa_cons (pv 3) pa_nil))) (Evl.pss_cut (ps_while (passes_of rfl) (pw_and (pt_cmpR op_ltP (pv 1) (pe_callB (cLen K) (by rfl) T.b_len (by decide +kernel) (pa_cons (pv 0) pa_nil)) (nomark _)) (pw_and1 (pt_cmpR (opEq K hr.units) (pe_ix (ixK K) (pv 0) (pv 1) (fun _ _ => rfl)) (pe_S [38]) (nomark _)))).pt (pss_cons (ps_asg (pe_f R (hr.mono (by omega)) (passes_call (takes_of rfl rfl rfl rfl) (fun _ _ _ _ h => h)) (pa_cons (pv 0) (pa_cons (pe_op (opAdd K) (pv 1) pe_int) (pa_cons (pv 2) pa_nil)))) (pgTup (n := 2) K rfl (pgs_cons (pg_name (i := 3) sc_read_parts.nd rfl (Or.inl rfl)) (pgs_cons (pg_name (i := 1) sc_read_parts.nd rfl (Or.inl rfl)) pgs_nil)))) (pss_one (ps_expr (peApp K (pv 4) (pa_cons (pv 3) pa_nil)))))) (pss_one (ps_ret (pe_tup (pa_cons (pe_f (ok_shown_together (K := K) T) (hr.mono (by omega)) pass0 (pa_cons (pv 4) pa_nil)) (pa_cons (pv 1) pa_nil)))))))), ?_⟩
  show (_ : TS) { nx := fun _ H' => Q .non H', rt := Q } [some x, some y, some z, none, none] H
  obtain ⟨z, a, o, rfl, rfl, rfl, ho, hz, ha, h⟩ := h
  replace h : Out C_BadText H Q E (rd z d a) := h
  rw [rd_eq] at h
  unfold Fg.parts at h
  have gd := part_gd (rdItem_gd z d)
  walk_at "go"
  refine ⟨z, a, o, rfl, rfl, rfl, ho, hz, ha, ?_⟩
  show Out _ _ _ _ (Fg.part (rdItem z d) z a)
  cases hr1 : Fg.part (rdItem z d) z a with
  | error k =>
    rw [hr1] at h
    exact h
  | ok se =>
  obtain ⟨s1, e1⟩ := se
  obtain ⟨g1, g2, g3, g4⟩ := gd a s1 e1 ha hr1
  rw [hr1] at h
  intro p1 q1 H1 sm1 hq1 hp1
  walk_at "go"
  refine i_new (by show 1 ≤ 100000; omega) fun Dl nD => ?_
  walk_at "go"
  have nD0 := sm1.free nD
  refine i_cut (fun σ H' => ∃ (b : Nat) (ps : List Stv) (qs : List Addr) (v : Option V), σ = [some (S z), some (.int (b : Int)), some (.int o), v, some (.ref Dl)] ∧ a ≤ b ∧ b ≤ z.length ∧ Same H H' ∧ H' Dl = some (.lst (qs.map V.ref)) ∧ PartsAt H' qs ps ∧ ps.length ≤ b ∧ Gps ps (b - a) ∧
    Out C_BadText H Q E (.ok (shown ps, b))) ?_ ?_
  · refine i_while (fun m σ H' => ∃ (f b : Nat) (ps : List Stv) (qs : List Addr) (v : Option V), m = z.length - b ∧ σ = [some (S z), some (.int (b : Int)), some (.int o), v, some (.ref Dl)] ∧ a ≤ b ∧ b ≤ z.length ∧ z.length + 1 ≤ f + b ∧ Same H H' ∧ H' Dl = some (.lst (qs.map V.ref)) ∧ PartsAt H' qs ps ∧ ps.length ≤ b ∧ Gps ps (b - a) ∧
      Out C_BadText H Q E (more (Fg.part (rdItem z d) z) z f b ps)) (z.length - e1) ⟨z.length + 1 - e1, e1, [s1], [q1], _, rfl, rfl, by omega, g2, by omega, Same.upd sm1 nD0, upd_same, ⟨rfl, ?_⟩, by show 1 ≤ e1; omega, Gps.one g3 g4, h⟩ ?_
    · intro i q p h1 h2
      match i, h1, h2 with
      | 0, h1, h2 => cases h1; cases h2; exact (upd_ne (ne_of_none hq1 nD)).trans hq1
    rintro m σ H' ⟨f, b, ps, qs, v, rfl, rfl, hab, hb, hf, sm, hD, hP, hL, gp, h⟩
    obtain ⟨f', rfl⟩ : ∃ f', f = f' + 1 := ⟨f - 1, by omega⟩
    unfold more at h
    walk_at "go"
    by_cases hl : b < z.length
    case neg =>
      rw [List.getElem?_eq_none (by omega), if_neg (by simp)] at h
      refine i_dec (fun e => absurd (by omega) hl) (fun _ => ?_)
      walk_at "go"
      exact ⟨b, ps, qs, v, rfl, hab, hb, sm, hD, hP, hL, gp, h⟩
    have hc : z[b]? = some z[b] := List.getElem?_eq_getElem hl
    rw [hc] at h
    generalize z[b] = c at *
    refine i_dec (fun _ => ?_) (fun e => absurd (by omega) e)
    walk_at "go"
    refine i_ix_str (c := c) (by omega) (by omega) (by rw [Int.toNat_natCast]; exact hc) ?_
    walk_at "go"
    refine i_dec (fun e2 => i_turn ?_) (fun e2 => ?_)
    · rw [if_pos (by rw [(List.cons.inj e2).1])] at h
      walk_at "go"
      refine ⟨z, b + 1, o, rfl, by rw [Int.natCast_add]; rfl, rfl, ho, hz, by omega, ?_⟩
      show Out _ _ _ _ (Fg.part (rdItem z d) z (b + 1))
      cases hr2 : Fg.part (rdItem z d) z (b + 1) with
      | error k =>
        rw [hr2] at h
        exact Rz.mono h sm
      | ok se =>
        obtain ⟨s2, e2⟩ := se
        obtain ⟨g5, g6, g7, g8⟩ := gd (b + 1) s2 e2 (by omega) hr2
        rw [hr2] at h
        intro p2 q2 H2 sm2 hq2 hp2
        walk_at "go"
        have hD2 := sm2 _ _ hD
        refine i_appAt hD2 ?_
        walk_at "go"
        have hlen := hP.1
        refine i_appEnd hD2 (by rw [List.length_map]; omega) ?_
        refine ⟨z.length - e2, by omega, f', e2, ps ++ [s2], qs ++ [q2], _, rfl, rfl, by omega, g6, by omega, Same.upd (sm.trans sm2) nD0, ?_, ⟨by rw [List.length_append, List.length_append, hlen]; rfl, ?_⟩, by rw [List.length_append]; show ps.length + 1 ≤ e2; omega, ?_, h⟩
        · rw [upd_same, List.map_append]; rfl
        · intro i q p h1 h2
          have key : H2 q = some (Sv p.1 p.2) := by
            by_cases hi : i < qs.length
            · rw [List.getElem?_append_left hi] at h1
              rw [List.getElem?_append_left (by omega)] at h2
              exact sm2 _ _ (hP.2 i q p h1 h2)
            · rw [List.getElem?_append_right (by omega)] at h1
              rw [List.getElem?_append_right (by omega)] at h2
              have e0 : i - qs.length = 0 := by
                have := (List.getElem?_eq_some_iff.mp h1).1
                rw [List.length_singleton] at this
                omega
              rw [e0] at h1
              rw [show i - ps.length = 0 by omega] at h2
              cases h1; cases h2
              exact hq2
          rw [upd_ne (fun e => by rw [e, hD2] at key; cases key)]
          exact key
        · exact (gp.snoc g7 g8).mono (by omega)
    · rw [if_neg (fun z => e2 (by rw [Option.some.inj z]))] at h
      exact ⟨b, ps, qs, v, rfl, hab, hb, sm, hD, hP, hL, gp, h⟩
  · rintro σ H' ⟨b, ps, qs, v, rfl, hab, hb, sm, hD, hP, hL, gp, h⟩
    walk_at "go"
    refine ⟨Dl, qs, ps, rfl, .inl (.inl hD), hP, by omega, gp.2, gp.big (by omega), fun p H3 s3 h3 => ?_⟩
    walk_at "go"
    refine i_new (by show 2 ≤ 100000; omega) fun p4 n4 => ?_
    exact h p4 p _ ((sm.trans s3).trans (same_upd n4)) ((upd_ne (ne_of_none h3 n4)).trans h3) upd_same
theorem parts_all (T : Txt K mg C_GlimError C_BadText C_TooLong) : ∀ d, OK P w K mg base (L2.CX P w) (3 * d + 3) "read_parts" ["text", "at", "opened"] (sp3 (PD C_BadText d))
  | 0 => by
    refine OK.mkX (k := 2) T.d_read_parts sc_read_parts len3 fun f cdv A outer s H vs Q E hr h => ?_
    obtain ⟨x, y, u, rfl, h⟩ := h
    exact h.elim
  | d + 1 => ok_read_parts T d (ok_read_part T d (ok_read_item T d (parts_all T d)))
/-- the whole text -/
def OutR (C CT : Addr) (H : Hp) (Q : VK) (E : XK) (z : List Nat) : Prop :=
  match rd z 6 0 with
  | .error k => Rz E H C "at" (.int (k : Int))
  | .ok (s, e) => if e < z.length then Rz E H C "at" (.int (e : Int)) else if 24 < s.1 then Rz E H CT "number" (.int (s.1 : Int)) else ∀ H', Same H H' → Q (S s.2) H'
def p_round (C CT : Addr) : P1 := fun x H Q E => (∃ z : List Nat, x = S z ∧ z.length ≤ 1700 ∧ OutR C CT H Q E z) ∨ (NoStr H x ∧ Rz E H C "at" (.int (-1)))
theorem ok_read_round (T : Txt K mg C_GlimError C_BadText C_TooLong) : OK P w K mg base (L2.CX P w) 25 "read_round" ["text"] (sp1  (p_round C_BadText C_TooLong)) := by
  refine OK.mkX (k := 24) T.d_read_round sc_read_round len1 fun f cdv A outer s H vs Q E hr h => ?_
  obtain ⟨x, rfl, h⟩ := h
  refine ⟨_, (pss_cons (ps_if (pt_not (pt_val (pe_callB (cIsi K) (by rfl) T.b_isinstance (by decide +kernel) (pa_cons (pv 0) (pa_cons (pe_bltn (v := .ty "str") (by rfl) T.b_str (by decide +kernel) rfl) pa_nil))))) (pss_one (ps_raiseP rfl (takes_of rfl rfl rfl rfl) (pmk_E (k := 0) (okx_BadText T) (hr.mono (by decide)) (pa_cons (pe_un un_neg pe_int) pa_nil)))) pss_nil) (pss_cons (ps_asg (pe_f (parts_all (K := K) T 7) (hr.mono (by decide)) (passes_call (takes_of rfl rfl rfl rfl) (fun _ _ _ _ h => h)) (pa_cons (pv 0) (pa_cons pe_int (pa_cons pe_int pa_nil)))) (pgTup (n := 2) K rfl (pgs_cons (pg_name (i := 1) sc_read_round.nd rfl (Or.inl rfl)) (pgs_cons (pg_name (i := 2) sc_read_round.nd rfl (Or.inl rfl)) pgs_nil)))) (pss_cons (ps_if (pt_cmpR op_ltP (pv 2) (pe_callB (cLen K) (by rfl) T.b_len (by decide +kernel) (pa_cons (pv 0) pa_nil)) (nomark _)) (pss_one (ps_raiseP rfl (takes_of rfl rfl rfl rfl) (pmk_E (k := 0) (okx_BadText T) (hr.mono (by decide)) (pa_cons (pv 2) pa_nil)))) pss_nil) (pss_cons (ps_if (pt_cmpR op_gtP (pe_ix (ixK K) (pv 1) pe_int (fun _ _ => rfl)) (pe_gI 24 T.g_MOST_ROUND) (nomark _)) (pss_one (ps_raiseP rfl (takes_of rfl rfl rfl rfl) (pmk_E (k := 0) (okx_TooLong T) (hr.mono (by decide)) (pa_cons (pe_ix (ixK K) (pv 1) pe_int (fun _ _ => rfl)) pa_nil)))) pss_nil) (pss_one (ps_ret (pe_ix (ixK K) (pv 1) pe_int (fun _ _ => rfl)))))))), ?_⟩
  show (_ : TS) { nx := fun _ H' => Q .non H', rt := Q } [some x, none, none] H
  rcases h with ⟨z, rfl, hz, h⟩ | ⟨h, hr⟩
  · unfold OutR at h
    walk_at "go"
    refine ⟨z, 0, 0, rfl, rfl, rfl, by decide, hz, by omega, ?_⟩
    show Out _ _ _ _ (rd z 6 0)
    cases hr1 : rd z 6 0 with
    | error k =>
      rw [hr1] at h
      exact h
    | ok se =>
    obtain ⟨⟨n, l⟩, e⟩ := se
    obtain ⟨g1, g2, g3, g4⟩ := rd_gd z 6 0 (n, l) e (by omega) hr1
    rw [hr1] at h
    dsimp only at h g3
    intro p q H1 sm hq hp
    have ps : H1 q = some (.tup [.int (n : Int), if n ≤ 24 then S l else .non]) := hq
    walk_at "go"
    refine i_dec (fun e1 => ?_) (fun e1 => ?_)
    · rw [if_pos (by omega)] at h
      walk_at "go"
      intro dd nd
      exact Rz.at (Rz.mono h sm) nd
    rw [if_neg (by omega)] at h
    walk_at "go"
    refine i_dec (fun e2 => ?_) (fun e2 => ?_)
    · rw [if_pos (by omega)] at h
      walk_at "go"
      intro dd nd
      exact Rz.at (Rz.mono h sm) nd
    · rw [if_neg (by omega)] at h
      walk_at "go"
      rw [if_pos (by omega)]
      exact h H1 sm
  · rcases h with rfl | ⟨b, rfl⟩ | ⟨i, rfl⟩ | ⟨a, xs, rfl, h | h⟩
    · walk_at "go"
      intro dd nd
      exact Rz.at hr nd
    · walk_at "go"
      intro dd nd
      exact Rz.at hr nd
    · walk_at "go"
      intro dd nd
      exact Rz.at hr nd
    · walk_at "go"
      refine i_isi_tup_str h ?_
      walk_at "go"
      intro dd nd
      exact Rz.at hr nd
    · walk_at "go"
      refine i_isi_lst_str h ?_
      walk_at "go"
      intro dd nd
      exact Rz.at hr nd
end
end K04
namespace K04
open PySem PySem.Spec PyProof.Rows L2 Fg
local macro_rules | `(tactic| walk_at "sq") => `(tactic| first
  | assumption
  | exact .inl (.inl (by assumption))
  | exact .inl (.inl upd_same))
local macro_rules | `(tactic| walk_at "st") => `(tactic| first
  | assumption
  | exact .inl (.inl (by assumption))
  | exact .inl (.inl upd_same))
local macro_rules | `(tactic| walk_at "o") => `(tactic| first
  | omega
  | assumption
  | (simp only [List.length_append, List.length_take, List.length_drop, List.length_cons, List.length_nil, List.length_singleton, List.length_map, List.length_range, Int.toNat_natCast] ; omega))
local macro_rules | `(tactic| walk_at "s") => `(tactic| first
  | (with_reducible refine i_seq ?_)
  | (with_reducible refine i_asg ?_)
  | ((with_reducible refine' i_var ?h1 ?_); (case h1 => rfl))
  | (with_reducible refine i_c ?_)
  | ((with_reducible refine' i_gname' ?h1 ?_); (case h1 => (simp only [List.set_cons_zero, List.set_cons_succ]; rfl)))
  | (with_reducible refine i_op ?_)
  | (with_reducible refine i_ifS ?_)
  | (with_reducible refine i_for ?_)
  | (with_reducible refine i_test ?_)
  | (with_reducible refine i_B ?_)
  | (with_reducible refine i_exbl ?_)
  | (with_reducible refine i_exint ?_)
  | (with_reducible refine i_cb ?_)
  | (with_reducible refine i_nil ?_)
  | (with_reducible refine i_cons ?_)
  | (with_reducible refine i_ret ?_)
  | (with_reducible refine i_sl ?_)
  | (with_reducible refine i_nopart ?_)
  | (with_reducible refine i_part ?_)
  | (with_reducible refine i_add_int ?_)
  | (with_reducible refine i_sub ?_)
  | (with_reducible refine i_lt ?_)
  | ((with_reducible refine' i_mod ?h1 ?_); (case h1 => walk_at "o"))
  | ((with_reducible refine' i_fdiv ?h1 ?_); (case h1 => (refine cdiv_small ?_ ?_ <;> walk_at "o")))
  | ((with_reducible refine' i_sl_to ?h1 ?h2 ?_); (case h1 => walk_at "o"); (case h2 => walk_at "o"))
  | ((with_reducible refine' i_sl_from ?h1 ?h2 ?_); (case h1 => walk_at "o"); (case h2 => walk_at "o"))
  | ((with_reducible refine' i_add_str ?h1 ?_); (case h1 => walk_at "o"))
  | ((with_reducible refine' i_mul_int ?h1 ?_); (case h1 => first | (refine mul_small ?_ ?_ <;> walk_at "o") | (refine mul_smallR ?_ ?_ <;> walk_at "o")))
  | (with_reducible refine i_le ?_)
  | (with_reducible refine i_gt ?_)
  | (with_reducible refine i_ge ?_)
  | (with_reducible refine i_eq_int ?_)
  | (with_reducible refine i_eq_str ?_)
  | (with_reducible refine i_ne_int ?_)
  | (with_reducible refine i_ne_str ?_)
  | (with_reducible refine i_eq_bl ?_)
  | (with_reducible refine i_ne_bl ?_)
  | (with_reducible refine i_in_sg ?_)
  | (with_reducible refine i_notIn_sg ?_)
  | (with_reducible refine i_call ?_)
  | (with_reducible refine i_callS ?_)
  | (with_reducible refine i_sp1 ?_)
  | (with_reducible refine i_sp2 ?_)
  | (with_reducible refine i_sp3 ?_)
  | (with_reducible refine i_sp4 ?_)
  | (with_reducible refine i_sp1' ?_)
  | (with_reducible refine i_sp2' ?_)
  | (with_reducible refine i_sp3' ?_)
  | ((with_reducible refine' i_ix_lst ?h1 ?h2 ?_); (case h1 => walk_at "sq"); (case h2 => first | exact atI_nat rfl | rfl))
  | ((with_reducible refine' i_ix_tup ?h1 ?h2 ?_); (case h1 => walk_at "st"); (case h2 => first | exact atI_nat rfl | rfl))
  | (with_reducible refine i_gsub ?_)
  | (with_reducible refine i_par ?_)
  | (with_reducible refine i_lstRg1 ?_)
  | (with_reducible refine i_app ?_)
  | (with_reducible refine i_par2 ?_)
  | ((with_reducible refine' i_aug ?h1 ?_); (case h1 => rfl))
  | (with_reducible refine i_ipI ?_)
  | ((with_reducible refine' i_gtup2 ?h1 ?_); (case h1 => walk_at "st"))
  | (with_reducible refine i_int_bl ?_)
  | (with_reducible refine i_raise ?_)
  | (with_reducible refine i_mkE ?_)
  | (with_reducible refine i_ex1 ?_)
  | (with_reducible refine i_and ?_)
  | (with_reducible refine i_or ?_)
  | (with_reducible refine i_not ?_)
  | (with_reducible refine i_tt ?_)
  | (with_reducible refine i_ff ?_)
  | (with_reducible refine i_nott ?_)
  | (with_reducible refine i_notf ?_)
  | (with_reducible refine i_andV ?_)
  | (with_reducible refine i_orV ?_)
  | (with_reducible refine i_notV ?_)
  | (with_reducible refine i_ifE ?_)
  | (with_reducible refine i_tup ?_)
  | (with_reducible refine i_lst ?_)
  | (with_reducible refine i_un ?_)
  | (with_reducible refine i_neg ?_)
  | (with_reducible refine i_chain ?_)
  | (with_reducible refine i_next ?_)
  | (with_reducible refine i_retN ?_)
  | (with_reducible refine i_drop ?_)
  | (with_reducible refine i_int_int ?_)
  | (with_reducible refine i_abs ?_)
  | (with_reducible refine i_m1c ?_)
  | (with_reducible refine i_is_non ?_)
  | (with_reducible refine i_is_int ?_)
  | (with_reducible refine i_is_bl ?_)
  | (with_reducible refine i_isn_bl ?_)
  | (with_reducible refine i_is_str ?_)
  | (with_reducible refine i_is_ref ?_)
  | (with_reducible refine i_isn_non ?_)
  | (with_reducible refine i_isn_int ?_)
  | (with_reducible refine i_isn_str ?_)
  | (with_reducible refine i_isn_ref ?_)
  | (with_reducible refine i_len_str ?h1 ?_; (case h1 => walk_at "o"))
  | (with_reducible refine i_isi_int_int ?_) | (with_reducible refine i_isi_int_bool ?_) | (with_reducible refine i_isi_int_str ?_) | (with_reducible refine i_isi_int_tuple ?_) | (with_reducible refine i_isi_int_list ?_)
  | (with_reducible refine i_isi_bl_int ?_) | (with_reducible refine i_isi_bl_bool ?_) | (with_reducible refine i_isi_bl_str ?_) | (with_reducible refine i_isi_bl_tuple ?_) | (with_reducible refine i_isi_bl_list ?_)
  | (with_reducible refine i_isi_str_int ?_) | (with_reducible refine i_isi_str_bool ?_) | (with_reducible refine i_isi_str_str ?_) | (with_reducible refine i_isi_str_tuple ?_) | (with_reducible refine i_isi_str_list ?_)
  | (with_reducible refine i_isi_non_int ?_) | (with_reducible refine i_isi_non_bool ?_) | (with_reducible refine i_isi_non_str ?_) | (with_reducible refine i_isi_non_tuple ?_) | (with_reducible refine i_isi_non_list ?_))
local macro_rules | `(tactic| walk_at "go") => `(tactic| (repeat' (walk_at "s")))
local macro_rules | `(tactic| walk_at "n") => `(tactic| simp only [wipe, List.map_cons, List.map_nil, List.set_cons_zero, List.set_cons_succ])
theorem F2.all {α β : Type} {R : α → β → Prop} {as : List α} {bs : List β} (h : F2 R as bs) {i : Nat} {a : α} (e : as[i]? = some a) : ∃ b, bs[i]? = some b ∧ R a b := h.get i a e
section
variable {P : Program} {w : World} {K : PySem.W.Frag} {mg : Str → Option Value} {base : Heap} {C_GlimError C_BadText C_TooLong : Addr}
theorem ok_L_common (T : Txt K mg C_GlimError C_BadText C_TooLong) : OK P w K mg base CX0 1 "_law_common" ["_law_one", "_law_two"] (sp2  p_common) := by
  refine OK.mk (k := 0) T.d_L_common sc_L_common len2 fun f cdv A outer s H vs Q E hr h => ?_
  obtain ⟨x, y, rfl, h⟩ := h
  refine ⟨_, (pss_cons (ps_set (i := 2) sc_L_common.nd rfl (Or.inl rfl) (pv 0)) (pss_cons (ps_set (i := 3) sc_L_common.nd rfl (Or.inl rfl) (pv 1)) (pss_cons (ps_while PassesOwn.never (pt_cmpR op_gtP (pv 3) pe_int (nomark _)) (pss_cons (ps_set (i := 4) sc_L_common.nd rfl (Or.inl rfl) (pe_op op_modP (pe_callTy call_intP (by rfl) T.b_int (by decide +kernel) (pa_cons (pv 2) pa_nil)) (pv 3))) (pss_cons (ps_set (i := 2) sc_L_common.nd rfl (Or.inl rfl) (pv 3)) (pss_one (ps_set (i := 3) sc_L_common.nd rfl (Or.inl rfl) (pv 4)))))) (pss_one (ps_ret (pe_op op_mulP (pe_op op_fdivP (pv 0) (pv 2)) (pv 1))))))), ?_⟩
  show (_ : TS) { nx := fun _ H' => Q .non H', rt := Q } [some x, some y, none, none, none] H
  obtain ⟨a, b, rfl, rfl, a1, b1, a2, b2, q⟩ := h
  walk_at "go"
  refine i_while (fun m σ H' => ∃ (n : Nat) (v : Option V), σ = [some (.int (a : Int)), some (.int (b : Int)), some (.int (n : Int)), some (.int (m : Int)), v] ∧ H' = H ∧ 1 ≤ n ∧ Nat.gcd n m = Nat.gcd a b) b ⟨a, _, rfl, rfl, a1, rfl⟩ ?_
  rintro m σ H' ⟨n, v, rfl, rfl, n1, hg⟩
  walk_at "go"
  refine i_dec (fun e => i_turn ?_) (fun e => ?_)
  · walk_at "go"
    refine ⟨n % m, Nat.mod_lt _ (by omega), m, some (.int ((n : Int) % (m : Int))), ?_, rfl, by omega, ?_⟩
    · show [_, _, _, some (V.int ((n : Int) % (m : Int))), _] = _
      rw [← Int.natCast_emod]
    · rw [← hg, Nat.gcd_comm m, ← Nat.gcd_rec, Nat.gcd_comm]
  · have e0 : m = 0 := by omega
    subst e0
    rw [Nat.gcd_zero_right] at hg
    subst hg
    have g1 : Nat.gcd a b ≤ a := Nat.gcd_le_left _ (by omega)
    have g2 : 1 ≤ Nat.gcd a b := Nat.gcd_pos_of_pos_left _ a1
    have g3 : Big (Nat.gcd a b) := a2.le g1
    walk_at "go"
    refine i_fdiv (g3.div (by omega)) ?_
    walk_at "go"
    rw [← Int.natCast_ediv]
    refine i_mul_int ((a2.le (Nat.div_le_self _ _)).mul b2) ?_
    have e : ((a / Nat.gcd a b : Nat) : Int) * (b : Int) = ((Nat.lcm a b : Nat) : Int) := by
      rw [← Int.natCast_mul]
      congr 1
      unfold Nat.lcm
      rw [Nat.mul_comm (a / _), ← Nat.mul_div_assoc _ (Nat.gcd_dvd_left a b), Nat.mul_comm]
    rw [e]
    exact q
def p_icnt (d : Nat) : P1 := fun x H Q _ => ∃ i : ItG (Gr d), RI (RG d) H x i ∧ vI (vG d) i ∧ (wI (wG d) i).length ≤ 1700 ∧ ∀ H', Same H H' → Q (.int ((stI (stG d) i).1 : Nat)) H'
def p_pcnt (d : Nat) : P1 := fun x H Q _ => ∃ p : PtG (Gr d), RP (RG d) H x p ∧ (∀ i ∈ p.1, vI (vG d) i) ∧ (wP (wG d) p).length ≤ 1700 ∧ ∀ H', Same H H' → Q (.int ((stP (stG d) p).1 : Nat)) H'
def p_cnt (d : Nat) : P1 := fun x H Q _ => ∃ ps : List (PtG (Gr d)), RPs (RG d) H x ps ∧ vPs (stG d) (vG d) ps ∧ (wPs (wG d) ps).length ≤ 1700 ∧ ∀ H', Same H H' → Q (.int ((stPs (stG d) ps).1 : Nat)) H'
def p_cntD : Nat → P1
  | 0 => fun _ _ _ _ => False
  | d + 1 => p_cnt d
theorem ok_L_item_count (T : Txt K mg C_GlimError C_BadText C_TooLong) (d : Nat) (R : OK P w K mg base CX0 (3 * d + 1) "_law_count" ["_law_parts"] (sp1 (p_cntD d))) : OK P w K mg base CX0 (3 * d + 2) "_law_item_count" ["_law_item"] (sp1 (p_icnt d)) := by
  refine OK.mk (k := 3 * d + 1) T.d_L_item_count sc_L_item_count len1 fun f cdv A outer s H vs Q E hr h => ?_
  obtain ⟨x, rfl, h⟩ := h
  refine ⟨_, (pss_cons (ps_set (i := 1) sc_L_item_count.nd rfl (Or.inl rfl) (pe_callB (call_max2 rfl) (by rfl) T.b_max (by decide +kernel) (pa_cons pe_int (pa_cons (pe_ix (ixK K) (pv 0) pe_int (fun _ _ => rfl)) pa_nil)))) (pss_cons (ps_if (pt_val (pe_callB (cIsi K) (by rfl) T.b_isinstance (by decide +kernel) (pa_cons (pe_ix (ixK K) (pv 0) pe_int (fun _ _ => rfl)) (pa_cons (pe_bltn (v := .ty "str") (by rfl) T.b_str (by decide +kernel) rfl) pa_nil)))) (pss_one (ps_ret (pv 1))) pss_nil) (pss_one (ps_ret (pe_op op_mulP (pv 1) (pe_f R (hr.mono (by omega)) pass0 (pa_cons (pe_ix (ixK K) (pv 0) pe_int (fun _ _ => rfl)) pa_nil))))))), ?_⟩
  show (_ : TS) { nx := fun _ H' => Q .non H', rt := Q } [some x, none] H
  obtain ⟨i, hr, hv, hl, q⟩ := h
  cases i with
  | inl x =>
    obtain ⟨t, c⟩ := x
    obtain ⟨a, rfl, ha⟩ := hr
    walk_at "go"
    refine ⟨1, (t : Int), rfl, ?_⟩
    have em : (if (t : Int) > 1 then (t : Int) else 1) = ((max 1 t : Nat) : Int) := by split <;> omega
    rw [em]
    walk_at "go"
    have := q H (Same.refl H)
    rw [show (stI (stG d) (.inl (t, c))).1 = max 1 t from Nat.one_mul _] at this
    exact this
  | inr x =>
    obtain ⟨t, g⟩ := x
    obtain ⟨a, w', rfl, ha, hg⟩ := hr
    cases d with
    | zero => exact nomatch g
    | succ d =>
      obtain ⟨b, vs, rfl, hb, hF⟩ := id hg
      walk_at "go"
      refine ⟨1, (t : Int), rfl, ?_⟩
      have em : (if (t : Int) > 1 then (t : Int) else 1) = ((max 1 t : Nat) : Int) := by split <;> omega
      rw [em]
      walk_at "go"
      refine i_isi_lst_str hb ?_
      walk_at "go"
      have h24 : max 1 t ≤ 24 := by have := hv.2.1; omega
      refine ⟨g, hg, hv.2.2, Nat.le_trans (wI_group (t := t)) hl, fun H1 s1 => ?_⟩
      have q1 := q H1 s1
      rw [show (stI (stG (d + 1)) (.inr (t, g))).1 = (stPs (stG d) g).1 * max 1 t from rfl] at q1
      generalize (stPs (stG d) g).1 = n at *
      generalize max 1 t = m at *
      walk_at "go"
      rw [Nat.mul_comm, Int.natCast_mul] at q1
      exact q1
theorem sum_nat (ns : List Nat) : (ns.map fun n : Nat => (n : Int)).sum = ((ns.sum : Nat) : Int) := by
  induction ns with
  | nil => rfl
  | cons n r ih => rw [List.map_cons, List.sum_cons, List.sum_cons, ih]; omega
theorem ok_L_part_count (T : Txt K mg C_GlimError C_BadText C_TooLong) (d : Nat) (R : OK P w K mg base CX0 (3 * d + 2) "_law_item_count" ["_law_item"] (sp1 (p_icnt d))) : OK P w K mg base CX0 (3 * d + 3) "_law_part_count" ["_law_part"] (sp1 (p_pcnt d)) := by
  refine OK.mk (k := 3 * d + 2) T.d_L_part_count sc_L_part_count len1 fun f cdv A outer s H vs Q E hr h => ?_
  obtain ⟨x, rfl, h⟩ := h
  refine ⟨_, (pss_cons (ps_if (pt_cmpR op_gtP (pe_ix (ixK K) (pv 0) pe_int (fun _ _ => rfl)) pe_int (nomark _)) (pss_one (ps_ret (pe_ix (ixK K) (pv 0) pe_int (fun _ _ => rfl)))) pss_nil) (pss_one (ps_ret (pe_callB (cSum K rfl) (by rfl) T.b_sum (by decide +kernel) (pa_cons (pe_lc (own := [("_law_item", 1)]) (g := gName 1) (tt := tYes) (by rfl) sc_L_part_count.nd (piAny K (pe_ix (ixK K) (pv 0) pe_int (fun _ _ => rfl))) (blkOk_by (own := [("_law_item", 1)]) (N := ["_law_part", "_law_item"]) (sc := (defScope s_L_part_count)) (by decide +kernel)) (fun _ _ _ _ _ => (pg_name (i := 1) sc_L_part_count.nd rfl (Or.inl rfl))) (fun _ _ _ _ _ => pts_nil) (fun _ _ _ _ _ => (pe_f R (hr.mono (by omega)) pass0 (pa_cons (pv 1) pa_nil)))) pa_nil))))), ?_⟩
  show (_ : TS) { nx := fun _ H' => Q .non H', rt := Q } [some x, none] H
  obtain ⟨⟨is, f⟩, ⟨a, w', rfl, ha, b, vs, rfl, hb, hF⟩, hv, hl, q⟩ := h
  dsimp only at ha hF hv
  have hli : (wIs (wG d) is).length ≤ 1700 := Nat.le_trans (wP_items (p := (is, f))) hl
  unfold stP at q
  dsimp only at q
  walk_at "go"
  refine i_dec (fun e => ?_) (fun e => ?_)
  · rw [if_pos (by omega)] at q
    walk_at "go"
    exact q H (Same.refl H)
  rw [if_neg (by omega)] at q
  walk_at "go"
  have hlen := hF.len
  have hsm : vs.length ≤ 1700 := by
    rw [hlen]
    refine Nat.le_trans ?_ hli
    clear hF ha hb q hl hli hlen e
    induction is with
    | nil => exact Nat.zero_le _
    | cons x r ih =>
      have := ih fun i hi => hv i (List.mem_cons_of_mem _ hi)
      obtain ⟨c, r', hc, _⟩ := wI_start (wg := wG d) (hv x List.mem_cons_self)
      unfold wIs at this ⊢
      rw [List.map_cons, List.flatten_cons, List.length_append, hc, List.length_cons, List.length_cons]
      omega
  refine c_lst (K := K) (a := b) (xs := vs) (fun R k => by walk_at "go"; exact k) (.inl (.inl hb)) (by omega) (fun _ => true) (fun j => .int (((is.map fun i => (stI (stG d) i).1).getD j 0 : Nat) : Int)) (fun _ => rfl) (fun j x H2 hj s2 QB k => k H2 (Same.refl H2)) (fun j x H2 hj s2 _ QV k => ?_) (fun Dl H2 n2 s2 d2 => ?_)
  · obtain ⟨i, hi, hri⟩ := hF.get j x hj
    have hm := List.mem_of_getElem? hi
    rw [List.getD_eq_getElem?_getD, List.getElem?_map, hi] at k
    walk_at "n"
    walk_at "go"
    exact ⟨i, hri.mono (RG_mono d) s2, hv i hm, Nat.le_trans (wIs_item hm) hli, fun H3 s3 => k H3 s3⟩
  · rw [kept_all, hlen, ← List.length_map (f := fun i => (stI (stG d) i).1) (as := is), range_getD_map (is.map fun i => (stI (stG d) i).1) 0 (fun n : Nat => V.int (n : Int))] at d2
    walk_at "go"
    refine i_sum (ns := (is.map fun i => (stI (stG d) i).1).map fun n : Nat => (n : Int)) (.inl (.inl (by rw [d2, List.map_map, List.map_map, List.map_map]; rfl))) ?_
    rw [sum_nat, ← stIs_sum]
    exact q H2 s2
theorem ok_L_count (T : Txt K mg C_GlimError C_BadText C_TooLong) (d : Nat) (hd : d ≤ 6) (R : OK P w K mg base CX0 (3 * d + 3) "_law_part_count" ["_law_part"] (sp1 (p_pcnt d))) : OK P w K mg base CX0 (3 * d + 4) "_law_count" ["_law_parts"] (sp1 (p_cntD (d + 1))) := by
  refine OK.mk (k := 3 * d + 3) T.d_L_count sc_L_count len1 fun f cdv A outer s H vs Q E hr h => ?_
  obtain ⟨x, rfl, h⟩ := h
  refine ⟨_, (pss_cons (ps_set (i := 1) sc_L_count.nd rfl (Or.inl rfl) pe_int) (pss_cons (ps_for PassesOwn.never rfl (piAny K (pv 0)) (pg_name (i := 2) sc_L_count.nd rfl (Or.inl rfl)) (pss_one (ps_set (i := 1) sc_L_count.nd rfl (Or.inl rfl) (pe_f (ok_L_common (K := K) T) (hr.mono (by omega)) pass0 (pa_cons (pv 1) (pa_cons (pe_f R (hr.mono (by omega)) pass0 (pa_cons (pv 2) pa_nil)) pa_nil)))))) (pss_one (ps_ret (pv 1))))), ?_⟩
  show (_ : TS) { nx := fun _ H' => Q .non H', rt := Q } [some x, none, none] H
  obtain ⟨ps, hr, hv, hl, q⟩ := h
  have hbig : Big (stPs (stG d) ps).1 := big_ok d hd ps hv hl
  obtain ⟨a, vs, rfl, ha, hF⟩ := hr
  have hpos : ∀ p ∈ ps, Pos (stP (stG d) p) := fun p hp => stP_pos (stG_pos d) (hv.2 p hp)
  have hlen := hF.len
  have e0 : (stPs (stG d) ps).1 = lcmL (ps.map (stP (stG d))) := rfl
  rw [e0] at q hbig
  walk_at "go"
  refine i_forL (.inl (.inl ha)) (fun i σ H' => ∃ v, σ = [some (.ref a), some (.int (lcmL ((ps.map (stP (stG d))).take i) : Nat)), v] ∧ Same H H') ⟨_, rfl, Same.refl H⟩ ?_ ?_ ?_
  · rintro i σ H' _ ⟨v, rfl, s1⟩
    exact .inl (.inl (s1 _ _ ha))
  · rintro i x σ H' hi ⟨v, rfl, s1⟩
    obtain ⟨p, hp, hrp⟩ := hF.get i x hi
    have hm := List.mem_of_getElem? hp
    have hall : ∀ s ∈ ps.map (stP (stG d)), 1 ≤ s.1 := fun s hs => by
      obtain ⟨p, hp, rfl⟩ := List.mem_map.mp hs
      exact (hpos p hp).1
    have hmp : (ps.map (stP (stG d)))[i]? = some (stP (stG d) p) := by rw [List.getElem?_map, hp]; rfl
    have e2 : (ps.map (stP (stG d))).take (i + 1) = (ps.map (stP (stG d))).take i ++ [stP (stG d) p] := by rw [List.take_succ, hmp]; rfl
    walk_at "go"
    refine ⟨p, hrp.mono (RG_mono d) s1, (hv.2 p hm).2.1, Nat.le_trans (wPs_part hm) hl, fun H1 s2 => ?_⟩
    walk_at "go"
    refine ⟨lcmL ((ps.map (stP (stG d))).take i), (stP (stG d) p).1, rfl, rfl, lcmL_pos fun s hs => hall s (List.mem_of_mem_take hs), (hpos p hm).1, hbig.le (lcmL_take hall i), hbig.le (Nat.le_of_dvd (lcmL_pos hall) (dvd_lcmL (List.mem_of_getElem? hmp))), ?_⟩
    rw [← lcmL_snoc, ← e2]
    walk_at "go"
    exact ⟨_, rfl, s1.trans s2⟩
  · rintro σ H' ⟨v, rfl, s1⟩
    walk_at "go"
    rw [hlen, ← List.length_map (f := stP (stG d)) (as := ps), List.take_length]
    exact q H' s1
theorem count_all (T : Txt K mg C_GlimError C_BadText C_TooLong) : ∀ d, d ≤ 7 → OK P w K mg base CX0 (3 * d + 1) "_law_count" ["_law_parts"] (sp1 (p_cntD d))
  | 0, _ => by
    refine OK.mk (k := 0) T.d_L_count sc_L_count len1 fun f cdv A outer s H vs Q E hr h => ?_
    obtain ⟨x, rfl, h⟩ := h
    exact h.elim
  | d + 1, hd => ok_L_count T d (by omega) (ok_L_part_count T d (ok_L_item_count T d (count_all T d (by omega))))
end
end K04
namespace K04
open PySem PySem.Spec PyProof.Rows L2 Fg
local macro_rules | `(tactic| walk_at "sq") => `(tactic| first
  | assumption
  | exact .inl (.inl (by assumption))
  | exact .inl (.inl upd_same))
local macro_rules | `(tactic| walk_at "st") => `(tactic| first
  | assumption
  | exact .inl (.inl (by assumption))
  | exact .inl (.inl upd_same))
local macro_rules | `(tactic| walk_at "o") => `(tactic| first
  | omega
  | assumption
  | (simp only [List.length_append, List.length_take, List.length_drop, List.length_cons, List.length_nil, List.length_singleton, List.length_map, List.length_range, Int.toNat_natCast] ; omega))
local macro_rules | `(tactic| walk_at "s") => `(tactic| first
  | (with_reducible refine i_seq ?_)
  | (with_reducible refine i_asg ?_)
  | ((with_reducible refine' i_var ?h1 ?_); (case h1 => rfl))
  | (with_reducible refine i_c ?_)
  | ((with_reducible refine' i_gname' ?h1 ?_); (case h1 => (simp only [List.set_cons_zero, List.set_cons_succ]; rfl)))
  | (with_reducible refine i_op ?_)
  | (with_reducible refine i_ifS ?_)
  | (with_reducible refine i_for ?_)
  | (with_reducible refine i_test ?_)
  | (with_reducible refine i_B ?_)
  | (with_reducible refine i_exbl ?_)
  | (with_reducible refine i_exint ?_)
  | (with_reducible refine i_cb ?_)
  | (with_reducible refine i_nil ?_)
  | (with_reducible refine i_cons ?_)
  | (with_reducible refine i_ret ?_)
  | (with_reducible refine i_sl ?_)
  | (with_reducible refine i_nopart ?_)
  | (with_reducible refine i_part ?_)
  | (with_reducible refine i_add_int ?_)
  | (with_reducible refine i_sub ?_)
  | (with_reducible refine i_lt ?_)
  | ((with_reducible refine' i_mod ?h1 ?_); (case h1 => walk_at "o"))
  | ((with_reducible refine' i_fdiv ?h1 ?_); (case h1 => (refine cdiv_small ?_ ?_ <;> walk_at "o")))
  | ((with_reducible refine' i_sl_to ?h1 ?h2 ?_); (case h1 => walk_at "o"); (case h2 => walk_at "o"))
  | ((with_reducible refine' i_sl_from ?h1 ?h2 ?_); (case h1 => walk_at "o"); (case h2 => walk_at "o"))
  | ((with_reducible refine' i_add_str ?h1 ?_); (case h1 => walk_at "o"))
  | ((with_reducible refine' i_mul_int ?h1 ?_); (case h1 => first | (refine mul_small ?_ ?_ <;> walk_at "o") | (refine mul_smallR ?_ ?_ <;> walk_at "o")))
  | (with_reducible refine i_le ?_)
  | (with_reducible refine i_gt ?_)
  | (with_reducible refine i_ge ?_)
  | (with_reducible refine i_eq_int ?_)
  | (with_reducible refine i_eq_str ?_)
  | (with_reducible refine i_ne_int ?_)
  | (with_reducible refine i_ne_str ?_)
  | (with_reducible refine i_eq_bl ?_)
  | (with_reducible refine i_ne_bl ?_)
  | (with_reducible refine i_in_sg ?_)
  | (with_reducible refine i_notIn_sg ?_)
  | (with_reducible refine i_call ?_)
  | (with_reducible refine i_callS ?_)
  | (with_reducible refine i_sp1 ?_)
  | (with_reducible refine i_sp2 ?_)
  | (with_reducible refine i_sp3 ?_)
  | (with_reducible refine i_sp4 ?_)
  | (with_reducible refine i_sp1' ?_)
  | (with_reducible refine i_sp2' ?_)
  | (with_reducible refine i_sp3' ?_)
  | ((with_reducible refine' i_ix_lst ?h1 ?h2 ?_); (case h1 => walk_at "sq"); (case h2 => first | exact atI_nat rfl | rfl))
  | ((with_reducible refine' i_ix_tup ?h1 ?h2 ?_); (case h1 => walk_at "st"); (case h2 => first | exact atI_nat rfl | rfl))
  | (with_reducible refine i_gsub ?_)
  | (with_reducible refine i_par ?_)
  | (with_reducible refine i_lstRg1 ?_)
  | (with_reducible refine i_app ?_)
  | (with_reducible refine i_par2 ?_)
  | ((with_reducible refine' i_aug ?h1 ?_); (case h1 => rfl))
  | (with_reducible refine i_ipI ?_)
  | ((with_reducible refine' i_gtup2 ?h1 ?_); (case h1 => walk_at "st"))
  | (with_reducible refine i_int_bl ?_)
  | (with_reducible refine i_raise ?_)
  | (with_reducible refine i_mkE ?_)
  | (with_reducible refine i_ex1 ?_)
  | (with_reducible refine i_and ?_)
  | (with_reducible refine i_or ?_)
  | (with_reducible refine i_not ?_)
  | (with_reducible refine i_tt ?_)
  | (with_reducible refine i_ff ?_)
  | (with_reducible refine i_nott ?_)
  | (with_reducible refine i_notf ?_)
  | (with_reducible refine i_andV ?_)
  | (with_reducible refine i_orV ?_)
  | (with_reducible refine i_notV ?_)
  | (with_reducible refine i_ifE ?_)
  | (with_reducible refine i_tup ?_)
  | (with_reducible refine i_lst ?_)
  | (with_reducible refine i_un ?_)
  | (with_reducible refine i_neg ?_)
  | (with_reducible refine i_chain ?_)
  | (with_reducible refine i_next ?_)
  | (with_reducible refine i_retN ?_)
  | (with_reducible refine i_drop ?_)
  | (with_reducible refine i_int_int ?_)
  | (with_reducible refine i_abs ?_)
  | (with_reducible refine i_m1c ?_)
  | (with_reducible refine i_is_non ?_)
  | (with_reducible refine i_is_int ?_)
  | (with_reducible refine i_is_bl ?_)
  | (with_reducible refine i_isn_bl ?_)
  | (with_reducible refine i_is_str ?_)
  | (with_reducible refine i_is_ref ?_)
  | (with_reducible refine i_isn_non ?_)
  | (with_reducible refine i_isn_int ?_)
  | (with_reducible refine i_isn_str ?_)
  | (with_reducible refine i_isn_ref ?_)
  | (with_reducible refine i_len_str ?h1 ?_; (case h1 => walk_at "o"))
  | (with_reducible refine i_isi_int_int ?_) | (with_reducible refine i_isi_int_bool ?_) | (with_reducible refine i_isi_int_str ?_) | (with_reducible refine i_isi_int_tuple ?_) | (with_reducible refine i_isi_int_list ?_)
  | (with_reducible refine i_isi_bl_int ?_) | (with_reducible refine i_isi_bl_bool ?_) | (with_reducible refine i_isi_bl_str ?_) | (with_reducible refine i_isi_bl_tuple ?_) | (with_reducible refine i_isi_bl_list ?_)
  | (with_reducible refine i_isi_str_int ?_) | (with_reducible refine i_isi_str_bool ?_) | (with_reducible refine i_isi_str_str ?_) | (with_reducible refine i_isi_str_tuple ?_) | (with_reducible refine i_isi_str_list ?_)
  | (with_reducible refine i_isi_non_int ?_) | (with_reducible refine i_isi_non_bool ?_) | (with_reducible refine i_isi_non_str ?_) | (with_reducible refine i_isi_non_tuple ?_) | (with_reducible refine i_isi_non_list ?_))
local macro_rules | `(tactic| walk_at "go") => `(tactic| (repeat' (walk_at "s")))
local macro_rules | `(tactic| walk_at "n") => `(tactic| simp only [wipe, List.map_cons, List.map_nil, List.set_cons_zero, List.set_cons_succ])
section
variable {G : Type} {sg : G → Stv}
theorem stIs_app (u v : List (ItG G)) : stIs sg (u ++ v) = beh (stIs sg u) (stIs sg v) := by
  conv => lhs; unfold stIs
  rw [List.foldl_append, foldl_beh]
  rfl
/-- the sign at a beat that falls to an item -/
theorem row_item {vg : G → Prop} (hpos : ∀ g, vg g → Pos (sg g)) {is : List (ItG G)} (hv : ∀ i ∈ is, vI vg i) (h24 : (stIs sg is).1 ≤ 24) {n j : Nat} {i : ItG G} (hi : is[n]? = some i) (hj : j < (stI sg i).1) :
    (stIs sg (is.take n)).1 + j < (stIs sg is).1 ∧ (stIs sg is).2.getD ((stIs sg (is.take n)).1 + j) 0 = (stI sg i).2.getD j 0 := by
  obtain ⟨hl, rfl⟩ := List.getElem?_eq_some_iff.mp hi
  have e : is = is.take n ++ (is[n] :: is.drop (n + 1)) := by rw [← List.drop_eq_getElem_cons hl, List.take_append_drop]
  have hv1 : ∀ i ∈ is.take n, vI vg i := fun i h => hv i (List.mem_of_mem_take h)
  have e2 : stIs sg is = beh (stIs sg (is.take n)) (beh (stI sg is[n]) (stIs sg (is.drop (n + 1)))) := by
    conv => lhs; rw [e]
    rw [stIs_app, stIs_cons]
  have hs : (stIs sg is).1 = (stIs sg (is.take n)).1 + ((stI sg is[n]).1 + (stIs sg (is.drop (n + 1))).1) := by rw [e2]; rfl
  have l1 := (stIs_len hpos hv1).1 (by omega)
  have l2 := (stI_pos hpos (hv _ (List.getElem_mem hl))).2 (by omega)
  refine ⟨by omega, ?_⟩
  have hr : (stIs sg is).2 = (stIs sg (is.take n)).2 ++ ((stI sg is[n]).2 ++ (stIs sg (is.drop (n + 1))).2) := by rw [e2]; rfl
  rw [hr, List.getD_eq_getElem?_getD, List.getD_eq_getElem?_getD, List.getElem?_append_right (by omega), l1, Nat.add_sub_cancel_left, List.getElem?_append_left (by omega)]
end
theorem len_items {e : Nat} {is : List (ItG (Gr e))} (hv : ∀ i ∈ is, vI (vG e) i) : is.length ≤ (wIs (wG e) is).length := by
  induction is with
  | nil => exact Nat.zero_le _
  | cons x r ih =>
    have := ih fun i hi => hv i (List.mem_cons_of_mem _ hi)
    obtain ⟨c, r', hc, _⟩ := wI_start (wg := wG e) (hv x List.mem_cons_self)
    unfold wIs at this ⊢
    rw [List.map_cons, List.flatten_cons, List.length_append, hc, List.length_cons, List.length_cons]
    omega
section
variable {P : Program} {w : World} {K : PySem.W.Frag} {mg : Str → Option Value} {base : Heap} {C_GlimError C_BadText C_TooLong : Addr}
theorem icnt_ok (T : Txt K mg C_GlimError C_BadText C_TooLong) (d : Nat) (hd : d ≤ 6) : OK P w K mg base CX0 (3 * d + 2) "_law_item_count" ["_law_item"] (sp1 (p_icnt d)) := ok_L_item_count T d (count_all T d (by omega))
theorem pcnt_ok (T : Txt K mg C_GlimError C_BadText C_TooLong) (d : Nat) (hd : d ≤ 6) : OK P w K mg base CX0 (3 * d + 3) "_law_part_count" ["_law_part"] (sp1 (p_pcnt d)) := ok_L_part_count T d (icnt_ok T d hd)
theorem cnt_ok (T : Txt K mg C_GlimError C_BadText C_TooLong) (d : Nat) (hd : d ≤ 6) : OK P w K mg base CX0 (3 * d + 4) "_law_count" ["_law_parts"] (sp1 (p_cnt d)) := count_all T (d + 1) (by omega)
def p_psgn (d : Nat) : P2 := fun x y H Q _ => ∃ (p : PtG (Gr d)) (k : Nat), RP (RG d) H x p ∧ y = .int (k : Int) ∧ vP (stG d) (vG d) p ∧ (wP (wG d) p).length ≤ 1700 ∧ (stP (stG d) p).1 ≤ 24 ∧ k < (stP (stG d) p).1 ∧ ∀ H', Same H H' → Q (S [(stP (stG d) p).2.getD k 0]) H'
def p_sgn (d : Nat) : P2 := fun x y H Q _ => ∃ (ps : List (PtG (Gr d))) (k : Nat), RPs (RG d) H x ps ∧ y = .int (k : Int) ∧ vPs (stG d) (vG d) ps ∧ (wPs (wG d) ps).length ≤ 1700 ∧ (stPs (stG d) ps).1 ≤ 24 ∧ ∀ H', Same H H' → Q (S [sgn (stG d) ps k]) H'
def p_sgnD : Nat → P2
  | 0 => fun _ _ _ _ _ => False
  | d + 1 => p_sgn d
theorem ok_L_part_sign (T : Txt K mg C_GlimError C_BadText C_TooLong) (d : Nat) (hd : d ≤ 6) (R : OK P w K mg base CX0 (2 * d + 23) "_law_sign_at" ["_law_parts", "_law_spot"] (sp2 (p_sgnD d))) : OK P w K mg base CX0 (2 * d + 24) "_law_part_sign" ["_law_part", "_law_spot"] (sp2 (p_psgn d)) := by
  refine OK.mk (k := 2 * d + 23) T.d_L_part_sign sc_L_part_sign len2 fun f cdv A outer s H vs Q E hr h => ?_
  obtain ⟨x, y, rfl, h⟩ := h
  refine ⟨_, (pss_cons (ps_for PassesOwn.never rfl (piAny K (pe_ix (ixK K) (pv 0) pe_int (fun _ _ => rfl))) (pg_name (i := 2) sc_L_part_sign.nd rfl (Or.inl rfl)) (pss_cons (ps_set (i := 3) sc_L_part_sign.nd rfl (Or.inl rfl) (pe_f (icnt_ok (K := K) T d hd) (hr.mono (by omega)) pass0 (pa_cons (pv 2) pa_nil))) (pss_cons (ps_if (pt_cmpR op_ltP (pv 1) (pv 3) (nomark _)) (pss_cons (ps_if (pt_val (pe_callB (cIsi K) (by rfl) T.b_isinstance (by decide +kernel) (pa_cons (pe_ix (ixK K) (pv 2) pe_int (fun _ _ => rfl)) (pa_cons (pe_bltn (v := .ty "str") (by rfl) T.b_str (by decide +kernel) rfl) pa_nil)))) (pss_one (ps_ret (pe_ix (ixK K) (pv 2) pe_int (fun _ _ => rfl)))) pss_nil) (pss_one (ps_ret (pe_f R (hr.mono (by omega)) pass0 (pa_cons (pe_ix (ixK K) (pv 2) pe_int (fun _ _ => rfl)) (pa_cons (pv 1) pa_nil)))))) pss_nil) (pss_one (ps_set (i := 1) sc_L_part_sign.nd rfl (Or.inl rfl) (pe_op op_subP (pv 1) (pv 3))))))) (pss_one (ps_ret (pe_S [46])))), ?_⟩
  show (_ : TS) { nx := fun _ H' => Q .non H', rt := Q } [some x, some y, none, none] H
  obtain ⟨⟨is, f⟩, k, ⟨a, w', rfl, ha, b, vs, rfl, hb, hF⟩, rfl, hv, hl, h24, hk, q⟩ := h
  dsimp only at ha hF
  obtain ⟨hne, hvi, hf⟩ := id hv
  dsimp only at hne hvi hf
  have hli : (wIs (wG d) is).length ≤ 1700 := Nat.le_trans (wP_items (p := (is, f))) hl
  -- what the part is
  have hsum : (stIs (stG d) is).1 ≤ 24 ∧ (∀ j, j < (stIs (stG d) is).1 → (stP (stG d) (is, f)).2.getD j 0 = (stIs (stG d) is).2.getD j 0) ∧ ((stIs (stG d) is).1 ≤ k → (stP (stG d) (is, f)).2.getD k 0 = 46) := by
    have hlen := (stIs_len (stG_pos d) hvi).1
    unfold stP at h24 hk ⊢
    dsimp only at h24 hk ⊢
    by_cases h0 : 0 < f
    · rw [if_pos h0] at h24 hk ⊢
      have h4 := hf.resolve_left (by omega)
      have hl2 := hlen (by omega)
      refine ⟨by omega, fun j hj => ?_, fun hj => ?_⟩
      · show ((stIs (stG d) is).2 ++ List.replicate _ 46).getD j 0 = _
        rw [List.getD_eq_getElem?_getD, List.getElem?_append_left (by omega), ← List.getD_eq_getElem?_getD]
      · show ((stIs (stG d) is).2 ++ List.replicate _ 46).getD k 0 = _
        have hk : k < f := hk
        rw [List.getD_eq_getElem?_getD, List.getElem?_append_right (by omega), List.getElem?_replicate, if_pos (by omega)]
        rfl
    · rw [if_neg h0] at h24 hk ⊢
      exact ⟨h24, fun j hj => rfl, fun hj => absurd hk (by omega)⟩
  obtain ⟨hs24, hin, hout⟩ := hsum
  walk_at "go"
  refine i_forL (.inl (.inl hb)) (fun i σ H' => ∃ (j : Nat) (v2 v3 : Option V), σ = [some (.ref a), some (.int (j : Int)), v2, v3] ∧ Same H H' ∧ k = (stIs (stG d) (is.take i)).1 + j) ⟨k, _, _, rfl, Same.refl H, by show k = 0 + k; omega⟩ ?_ ?_ ?_
  · rintro i σ H' _ ⟨j, v2, v3, rfl, s1, _⟩
    exact .inl (.inl (s1 _ _ hb))
  · rintro n x σ H' hi ⟨j, v2, v3, rfl, s1, ek⟩
    obtain ⟨i, hin', hri⟩ := hF.get n x hi
    have hm := List.mem_of_getElem? hin'
    have hri := hri.mono (RG_mono d) s1
    have e2 : (stIs (stG d) (is.take (n + 1))).1 = (stIs (stG d) (is.take n)).1 + (stI (stG d) i).1 := by
      rw [List.take_succ, hin']
      show (stIs (stG d) (is.take n ++ [i])).1 = _
      rw [stIs_app]
      show _ + (stIs (stG d) [i]).1 = _
      rw [stIs_cons]
      rfl
    have hitem : j < (stI (stG d) i).1 → (stP (stG d) (is, f)).2.getD k 0 = (stI (stG d) i).2.getD j 0 := fun hj => by
      obtain ⟨h1, h2⟩ := row_item (stG_pos d) hvi hs24 hin' hj
      rw [← ek] at h1 h2
      rw [hin k h1, h2]
    have hi24 : (stI (stG d) i).1 ≤ 24 := by
      have : (stIs (stG d) is).1 = (stIs (stG d) (is.take (n + 1))).1 + (stIs (stG d) (is.drop (n + 1))).1 := by
        conv => lhs; rw [← List.take_append_drop (n + 1) is]
        rw [stIs_app]
        rfl
      omega
    walk_at "go"
    refine ⟨i, hri, hvi i hm, Nat.le_trans (wIs_item hm) hli, fun H1 s2 => ?_⟩
    have hri := hri.mono (RG_mono d) s2
    walk_at "go"
    refine i_dec (fun e => ?_) (fun e => ?_)
    · have hj : j < (stI (stG d) i).1 := by omega
      have qq := q H1 (s1.trans s2)
      rw [hitem hj] at qq
      cases i with
      | inl x =>
        obtain ⟨t, c⟩ := x
        obtain ⟨ia, rfl, hia⟩ := hri
        have ec : (stI (stG d) (.inl (t, c) : ItG (Gr d))).2.getD j 0 = c := by
          show (rpt (max 1 t) [c]).getD j 0 = c
          have hj : j < 1 * max 1 t := hj
          rw [List.getD_eq_getElem?_getD, rpt_get _ _ _ (by rw [List.length_singleton]; omega), List.length_singleton, Nat.mod_one]
          rfl
        rw [ec] at qq
        walk_at "go"
        exact qq
      | inr x =>
        obtain ⟨t, g⟩ := x
        obtain ⟨ia, wv, rfl, hia, hg⟩ := hri
        cases d with
        | zero => exact nomatch g
        | succ d =>
          obtain ⟨gb, gvs, rfl, hgb, hgF⟩ := id hg
          have hvg : vPs (stG d) (vG d) g := (hvi _ hm).2.2
          have hn1 : (stPs (stG d) g).1 * max 1 t ≤ 24 := hi24
          have hn : (stPs (stG d) g).1 ≤ 24 := by
            have : (stPs (stG d) g).1 ≤ (stPs (stG d) g).1 * max 1 t := Nat.le_mul_of_pos_right _ (by omega)
            omega
          have hpos := stPs_pos (stG_pos d) hvg
          have ec : (stI (stG (d + 1)) (.inr (t, g) : ItG (Gr (d + 1)))).2.getD j 0 = sgn (stG d) g j := by
            show (rpt (max 1 t) (stPs (stG d) g).2).getD j 0 = _
            have hj : j < (stPs (stG d) g).1 * max 1 t := hj
            rw [List.getD_eq_getElem?_getD, rpt_get _ _ _ (by rw [hpos.2 hn, Nat.mul_comm]; exact hj), hpos.2 hn, ← List.getD_eq_getElem?_getD]
            exact sgn_row (stG_pos d) hvg hn j
          rw [ec] at qq
          walk_at "go"
          refine i_isi_lst_str hgb ?_
          walk_at "go"
          exact ⟨g, j, hg, rfl, hvg, Nat.le_trans (Nat.le_trans (wI_group (t := t)) (wIs_item hm)) hli, hn, fun H2 s3 => by
            have qq2 := q H2 ((s1.trans s2).trans s3)
            rw [hitem hj, ec] at qq2
            exact qq2⟩
    · walk_at "go"
      refine ⟨j - (stI (stG d) i).1, some x, some (.int ((stI (stG d) i).1 : Nat)), ?_, s1.trans s2, by rw [e2]; omega⟩
      rw [show ((j - (stI (stG d) i).1 : Nat) : Int) = (j : Int) - ((stI (stG d) i).1 : Int) by omega]
  · rintro σ H' ⟨j, v2, v3, rfl, s1, ek⟩
    walk_at "go"
    have := q H' s1
    rw [hout (by rw [hF.len, List.take_length] at ek; omega)] at this
    exact this
theorem ok_L_sign_at (T : Txt K mg C_GlimError C_BadText C_TooLong) (d : Nat) (hd : d ≤ 6) (R : OK P w K mg base CX0 (2 * d + 24) "_law_part_sign" ["_law_part", "_law_spot"] (sp2 (p_psgn d))) : OK P w K mg base CX0 (2 * d + 25) "_law_sign_at" ["_law_parts", "_law_spot"] (sp2 (p_sgnD (d + 1))) := by
  refine OK.mk (k := 2 * d + 24) T.d_L_sign_at sc_L_sign_at len2 fun f cdv A outer s H vs Q E hr h => ?_
  obtain ⟨x, y, rfl, h⟩ := h
  refine ⟨_, (pss_cons (ps_for PassesOwn.never rfl (piAny K (pv 0)) (pg_name (i := 2) sc_L_sign_at.nd rfl (Or.inl rfl)) (pss_cons (ps_set (i := 3) sc_L_sign_at.nd rfl (Or.inl rfl) (pe_f R (hr.mono (by omega)) pass0 (pa_cons (pv 2) (pa_cons (pe_op op_modP (pe_callTy call_intP (by rfl) T.b_int (by decide +kernel) (pa_cons (pv 1) pa_nil)) (pe_f (pcnt_ok (K := K) T d hd) (hr.mono (by omega)) pass0 (pa_cons (pv 2) pa_nil))) pa_nil)))) (pss_one (ps_if (pt_cmpR (opNe K hr.units) (pv 3) (pe_S [46]) (nomark _)) (pss_one (ps_ret (pv 3))) pss_nil)))) (pss_one (ps_ret (pe_S [46])))), ?_⟩
  show (_ : TS) { nx := fun _ H' => Q .non H', rt := Q } [some x, some y, none, none] H
  obtain ⟨ps, k, ⟨a, vs, rfl, ha, hF⟩, rfl, hv, hl, h24, q⟩ := h
  have hlit : ∀ n, sgn (stG d) ps k = firstLit ((ps.map fun p => (stP (stG d) p).2.getD (k % (stP (stG d) p).1) 0).drop n) → True := fun _ _ => trivial
  unfold sgn at q
  walk_at "go"
  refine i_forL (.inl (.inl ha)) (fun i σ H' => ∃ (v2 v3 : Option V), σ = [some (.ref a), some (.int (k : Int)), v2, v3] ∧ Same H H' ∧ firstLit (ps.map fun p => (stP (stG d) p).2.getD (k % (stP (stG d) p).1) 0) = firstLit ((ps.map fun p => (stP (stG d) p).2.getD (k % (stP (stG d) p).1) 0).drop i)) ⟨_, _, rfl, Same.refl H, rfl⟩ ?_ ?_ ?_
  · rintro i σ H' _ ⟨v2, v3, rfl, s1, _⟩
    exact .inl (.inl (s1 _ _ ha))
  · rintro i x σ H' hi ⟨v2, v3, rfl, s1, hf⟩
    obtain ⟨p, hp, hrp⟩ := hF.get i x hi
    have hm := List.mem_of_getElem? hp
    have hrp := hrp.mono (RG_mono d) s1
    have hvp := hv.2 p hm
    have hpos := stP_pos (stG_pos d) hvp
    have h0 := (stPs_pos (stG_pos d) hv).1
    have hle : (stP (stG d) p).1 ≤ 24 := Nat.le_trans (Nat.le_of_dvd h0 (dvd_lcmL (List.mem_map_of_mem hm))) h24
    have hpl := Nat.le_trans (wPs_part (wg := wG d) hm) hl
    have hdrop : (ps.map fun p => (stP (stG d) p).2.getD (k % (stP (stG d) p).1) 0).drop i = (stP (stG d) p).2.getD (k % (stP (stG d) p).1) 0 :: (ps.map fun p => (stP (stG d) p).2.getD (k % (stP (stG d) p).1) 0).drop (i + 1) := by
      have hg : (ps.map fun p => (stP (stG d) p).2.getD (k % (stP (stG d) p).1) 0)[i]? = some ((stP (stG d) p).2.getD (k % (stP (stG d) p).1) 0) := by rw [List.getElem?_map, hp]; rfl
      obtain ⟨hl', e⟩ := List.getElem?_eq_some_iff.mp hg
      rw [List.drop_eq_getElem_cons hl', e]
    rw [hdrop] at hf
    have h1 := hpos.1
    walk_at "go"
    refine ⟨p, hrp, hvp.2.1, hpl, fun H1 s2 => ?_⟩
    walk_at "go"
    refine ⟨p, k % (stP (stG d) p).1, hrp.mono (RG_mono d) s2, by rw [Int.natCast_emod], hvp, hpl, hle, Nat.mod_lt _ (by omega), fun H2 s3 => ?_⟩
    have q2 := q H2 ((s1.trans s2).trans s3)
    generalize (stP (stG d) p).2.getD (k % (stP (stG d) p).1) 0 = c at *
    walk_at "go"
    refine i_decN (fun e => ?_) (fun e => ?_)
    · rw [hf, show firstLit (c :: _) = c from if_neg (fun z => e (by rw [z]))] at q2
      walk_at "go"
      exact q2
    · walk_at "go"
      refine ⟨_, _, rfl, (s1.trans s2).trans s3, ?_⟩
      rw [hf]
      exact if_pos (List.cons.inj e).1
  · rintro σ H' ⟨v2, v3, rfl, s1, hf⟩
    walk_at "go"
    have := q H' s1
    rw [hf, hF.len, ← List.length_map (f := fun p => (stP (stG d) p).2.getD (k % (stP (stG d) p).1) 0) (as := ps), List.drop_length] at this
    exact this
theorem sign_all (T : Txt K mg C_GlimError C_BadText C_TooLong) : ∀ d, d ≤ 7 → OK P w K mg base CX0 (2 * d + 23) "_law_sign_at" ["_law_parts", "_law_spot"] (sp2 (p_sgnD d))
  | 0, _ => by
    refine OK.mk (k := 22) T.d_L_sign_at sc_L_sign_at len2 fun f cdv A outer s H vs Q E hr h => ?_
    obtain ⟨x, y, rfl, h⟩ := h
    exact h.elim
  | d + 1, hd => ok_L_sign_at T d (by omega) (ok_L_part_sign T d (by omega) (sign_all T d (by omega)))
/-! ### writing -/
def p_wi (d : Nat) : P1 := fun x H Q _ => ∃ i : ItG (Gr d), RI (RG d) H x i ∧ vI (vG d) i ∧ (wI (wG d) i).length ≤ 1700 ∧ ∀ H', Same H H' → Q (S (wI (wG d) i)) H'
def p_wp (d : Nat) : P1 := fun x H Q _ => ∃ p : PtG (Gr d), RP (RG d) H x p ∧ vP (stG d) (vG d) p ∧ (wP (wG d) p).length ≤ 1700 ∧ ∀ H', Same H H' → Q (S (wP (wG d) p)) H'
def p_w (d : Nat) : P1 := fun x H Q _ => ∃ ps : List (PtG (Gr d)), RPs (RG d) H x ps ∧ vPs (stG d) (vG d) ps ∧ (wPs (wG d) ps).length ≤ 1700 ∧ ∀ H', Same H H' → Q (S (wPs (wG d) ps)) H'
def p_wD : Nat → P1
  | 0 => fun _ _ _ _ => False
  | d + 1 => p_w d
theorem ok_L_write_item (T : Txt K mg C_GlimError C_BadText C_TooLong) (d : Nat) (R : OK P w K mg base CX0 (3 * d + 1) "_law_write" ["_law_parts"] (sp1 (p_wD d))) : OK P w K mg base CX0 (3 * d + 2) "_law_write_item" ["_law_item"] (sp1 (p_wi d)) := by
  refine OK.mk (k := 3 * d + 1) T.d_L_write_item sc_L_write_item len1 fun f cdv A outer s H vs Q E hr h => ?_
  obtain ⟨x, rfl, h⟩ := h
  refine ⟨_, (pss_cons (ps_set (i := 1) sc_L_write_item.nd rfl (Or.inl rfl) (pe_S [])) (Evl.pss_cut (ps_if (pt_cmpR op_gtP (pe_ix (ixK K) (pv 0) pe_int (fun _ _ => rfl)) pe_int (nomark _)) (pss_one (ps_set (i := 1) sc_L_write_item.nd rfl (Or.inl rfl) (pe_callTy Fg.call_strS (by rfl) T.b_str (by decide +kernel) (pa_cons (pe_ix (ixK K) (pv 0) pe_int (fun _ _ => rfl)) pa_nil)))) pss_nil) (pss_cons (ps_if (pt_val (pe_callB (cIsi K) (by rfl) T.b_isinstance (by decide +kernel) (pa_cons (pe_ix (ixK K) (pv 0) pe_int (fun _ _ => rfl)) (pa_cons (pe_bltn (v := .ty "str") (by rfl) T.b_str (by decide +kernel) rfl) pa_nil)))) (pss_one (ps_ret (pe_op (opAdd K) (pv 1) (pe_ix (ixK K) (pv 0) pe_int (fun _ _ => rfl))))) pss_nil) (pss_one (ps_ret (pe_op (opAdd K) (pe_op (opAdd K) (pe_op (opAdd K) (pv 1) (pe_S [40])) (pe_f R (hr.mono (by omega)) pass0 (pa_cons (pe_ix (ixK K) (pv 0) pe_int (fun _ _ => rfl)) pa_nil))) (pe_S [41]))))))), ?_⟩
  show (_ : TS) { nx := fun _ H' => Q .non H', rt := Q } [some x, none] H
  obtain ⟨i, hr, hv, hl, q⟩ := h
  have key : ∃ (t : Nat) (ia : Addr) (w' : V), x = .ref ia ∧ H ia = some (.tup [.int (t : Int), w']) ∧ t ≤ 24 ∧ ((∃ c, i = .inl (t, c) ∧ w' = S [c]) ∨ ∃ g, i = .inr (t, g) ∧ RG d H w' g) := by
    cases i with
    | inl y =>
      obtain ⟨t, c⟩ := y
      obtain ⟨ia, rfl, hia⟩ := hr
      exact ⟨t, ia, _, rfl, hia, by have := hv.2; omega, .inl ⟨c, rfl, rfl⟩⟩
    | inr y =>
      obtain ⟨t, g⟩ := y
      obtain ⟨ia, wv, rfl, hia, hg⟩ := hr
      exact ⟨t, ia, _, rfl, hia, hv.2.1, .inr ⟨g, rfl, hg⟩⟩
  obtain ⟨t, ia, w', rfl, hia, ht, hi⟩ := key
  walk_at "go"
  refine i_cut (fun σ H' => σ = [some (.ref ia), some (S (wN t))] ∧ H' = H) ?_ ?_
  · unfold wN
    walk_at "go"
    refine i_dec (fun e => ?_) (fun e => ?_)
    · walk_at "go"
      refine ⟨t, rfl, by omega, ?_⟩
      rw [if_pos (by omega)]
      walk_at "go"
      exact ⟨rfl, rfl⟩
    · walk_at "go"
      rw [if_neg (by omega)]
      exact ⟨rfl, rfl⟩
  rintro σ H' ⟨rfl, rfl⟩
  rcases hi with ⟨c, rfl, rfl⟩ | ⟨g, rfl, hg⟩
  · have hl : (wN t ++ [c]).length ≤ 1700 := hl
    rw [List.length_append] at hl
    have q0 : Q (S (wN t ++ [c])) H' := q H' (Same.refl H')
    walk_at "go"
    exact q0
  · cases d with
    | zero => exact nomatch g
    | succ d =>
      obtain ⟨gb, gvs, rfl, hgb, hgF⟩ := id hg
      have hl2 : (wN t ++ ([40] ++ (wPs (wG d) g ++ [41]))).length ≤ 1700 := hl
      have hlg := Nat.le_trans (wI_group (wg := wG (d + 1)) (t := t)) hl
      have qq : ∀ H2, Same H' H2 → Q (S (wN t ++ ([40] ++ (wPs (wG d) g ++ [41])))) H2 := q
      simp only [List.length_append] at hl2
      walk_at "go"
      refine i_isi_lst_str hgb ?_
      walk_at "go"
      refine ⟨g, hg, hv.2.2, hlg, fun H1 s1 => ?_⟩
      walk_at "go"
      have := qq H1 s1
      rw [show wN t ++ ([40] ++ (wPs (wG d) g ++ [41])) = wN t ++ [40] ++ wPs (wG d) g ++ [41] by simp] at this
      exact this
theorem ok_L_write_part (T : Txt K mg C_GlimError C_BadText C_TooLong) (d : Nat) (R : OK P w K mg base CX0 (3 * d + 2) "_law_write_item" ["_law_item"] (sp1 (p_wi d))) : OK P w K mg base CX0 (3 * d + 3) "_law_write_part" ["_law_part"] (sp1 (p_wp d)) := by
  refine OK.mk (k := 3 * d + 2) T.d_L_write_part sc_L_write_part len1 fun f cdv A outer s H vs Q E hr h => ?_
  obtain ⟨x, rfl, h⟩ := h
  refine ⟨_, (pss_cons (ps_set (i := 1) sc_L_write_part.nd rfl (Or.inl rfl) (peJoin K (pe_S []) (pe_lc (own := [("_law_item", 2)]) (g := gName 2) (tt := tYes) (by rfl) sc_L_write_part.nd (piAny K (pe_ix (ixK K) (pv 0) pe_int (fun _ _ => rfl))) (blkOk_by (own := [("_law_item", 2)]) (N := ["_law_part", "_law_text_here", "_law_item"]) (sc := (defScope s_L_write_part)) (by decide +kernel)) (fun _ _ _ _ _ => (pg_name (i := 2) sc_L_write_part.nd rfl (Or.inl rfl))) (fun _ _ _ _ _ => pts_nil) (fun _ _ _ _ _ => (pe_f R (hr.mono (by omega)) pass0 (pa_cons (pv 2) pa_nil)))))) (pss_cons (ps_if (pt_cmpR op_gtP (pe_ix (ixK K) (pv 0) pe_int (fun _ _ => rfl)) pe_int (nomark _)) (pss_one (ps_ret (pe_op (opAdd K) (pe_op (opAdd K) (pv 1) (pe_S [64])) (pe_callTy Fg.call_strS (by rfl) T.b_str (by decide +kernel) (pa_cons (pe_ix (ixK K) (pv 0) pe_int (fun _ _ => rfl)) pa_nil))))) pss_nil) (pss_one (ps_ret (pv 1))))), ?_⟩
  show (_ : TS) { nx := fun _ H' => Q .non H', rt := Q } [some x, none, none] H
  obtain ⟨⟨is, f⟩, ⟨a, w', rfl, ha, b, vs, rfl, hb, hF⟩, hv, hl, q⟩ := h
  obtain ⟨_, hvi, hf⟩ := hv
  dsimp only at ha hF hvi hf
  have hl2 : (wIs (wG d) is ++ wF f).length ≤ 1700 := hl
  rw [List.length_append] at hl2
  have hsm := len_items hvi
  have hlen := hF.len
  walk_at "go"
  refine c_lst (K := K) (a := b) (xs := vs) (fun R k => by walk_at "go"; exact k) (.inl (.inl hb)) (by omega) (fun _ => true) (fun j => S ((is.map (wI (wG d))).getD j [])) (fun _ => rfl) (fun j x H2 hj s2 QB k => k H2 (Same.refl H2)) (fun j x H2 hj s2 _ QV k => ?_) (fun Dl H2 n2 s2 d2 => ?_)
  · obtain ⟨i, hi, hri⟩ := hF.get j x hj
    have hm := List.mem_of_getElem? hi
    rw [List.getD_eq_getElem?_getD, List.getElem?_map, hi] at k
    walk_at "n"
    walk_at "go"
    exact ⟨i, hri.mono (RG_mono d) s2, hvi i hm, Nat.le_trans (wIs_item hm) (by omega), fun H3 s3 => k H3 s3⟩
  · rw [kept_all, hlen, ← List.length_map (f := wI (wG d)) (as := is), range_getD_map (is.map (wI (wG d))) [] S] at d2
    walk_at "go"
    refine i_join0 (.inl (.inl d2)) (by rw [← List.length_flatten]; show (wIs (wG d) is).length ≤ _; omega) ?_
    have qq : ∀ H', Same H H' → Q (S (wIs (wG d) is ++ wF f)) H' := q
    change gName 1 (S (wIs (wG d) is)) _ H2 _
    generalize wIs (wG d) is = u at *
    unfold wF at qq hl2
    have ha2 := s2 _ _ ha
    walk_at "go"
    refine i_dec (fun e => ?_) (fun e => ?_)
    · have h4 := hf.resolve_left (by omega)
      rw [if_pos (by omega)] at qq hl2
      rw [List.length_cons] at hl2
      walk_at "go"
      refine ⟨f, rfl, by omega, ?_⟩
      walk_at "go"
      have := qq H2 s2
      rw [show u ++ 64 :: dec f = u ++ [64] ++ dec f by simp] at this
      exact this
    · rw [if_neg (by omega), List.append_nil] at qq
      walk_at "go"
      exact qq H2 s2
theorem okF_L_write (T : Txt K mg C_GlimError C_BadText C_TooLong) (d : Nat) (R : OK P w K mg base CX0 (3 * d + 3) "_law_write_part" ["_law_part"] (sp1 (p_wp d))) {f : Addr} {fd : FuncData} (F : Fun K "_law_write" "_law_write" s_L_write f fd) : FnOk P w K mg base CX0 (3 * d + 4) f fd ["_law_parts"] (sp1 (p_wD (d + 1))) := by
  refine FnOK.mk (k := 3 * d + 3) F sc_L_write len1 fun cdv A outer s H vs Q E hr h => ?_
  obtain ⟨x, rfl, h⟩ := h
  refine ⟨_, (pss_one (ps_ret (peJoin K (pe_S [38]) (pe_lc (own := [("_law_part", 1)]) (g := gName 1) (tt := tYes) (by rfl) sc_L_write.nd (piAny K (pv 0)) (blkOk_by (own := [("_law_part", 1)]) (N := ["_law_parts", "_law_part"]) (sc := (defScope s_L_write)) (by decide +kernel)) (fun _ _ _ _ _ => (pg_name (i := 1) sc_L_write.nd rfl (Or.inl rfl))) (fun _ _ _ _ _ => pts_nil) (fun _ _ _ _ _ => (pe_f R (hr.mono (by omega)) pass0 (pa_cons (pv 1) pa_nil))))))), ?_⟩
  show (_ : TS) { nx := fun _ H' => Q .non H', rt := Q } [some x, none] H
  obtain ⟨ps, ⟨a, vs, rfl, ha, hF⟩, hv, hl, q⟩ := h
  have hlen := hF.len
  have hsum : ((ps.map (wP (wG d))).map List.length).sum + ps.length ≤ (wPs (wG d) ps).length + 1 := by
    cases ps with
    | nil => exact absurd rfl hv.1
    | cons p r =>
      rw [wPs_cons, List.length_append, List.map_cons, List.map_cons, List.sum_cons, List.length_cons]
      have : ((r.map (wP (wG d))).map List.length).sum + r.length = (r.flatMap fun p => 38 :: wP (wG d) p).length := by
        clear hF ha hlen hv hl q
        induction r with
        | nil => rfl
        | cons y r ih => rw [List.map_cons, List.map_cons, List.sum_cons, List.length_cons, List.flatMap_cons, List.length_append, List.length_cons]; omega
      omega
  walk_at "go"
  refine c_lst (K := K) (a := a) (xs := vs) (fun R k => by walk_at "go"; exact k) (.inl (.inl ha)) (by omega) (fun _ => true) (fun j => S ((ps.map (wP (wG d))).getD j [])) (fun _ => rfl) (fun j x H2 hj s2 QB k => k H2 (Same.refl H2)) (fun j x H2 hj s2 _ QV k => ?_) (fun Dl H2 n2 s2 d2 => ?_)
  · obtain ⟨p, hp, hrp⟩ := hF.get j x hj
    have hm := List.mem_of_getElem? hp
    rw [List.getD_eq_getElem?_getD, List.getElem?_map, hp] at k
    walk_at "n"
    walk_at "go"
    exact ⟨p, hrp.mono (RG_mono d) s2, hv.2 p hm, Nat.le_trans (wPs_part hm) hl, fun H3 s3 => k H3 s3⟩
  · rw [kept_all, hlen, ← List.length_map (f := wP (wG d)) (as := ps), range_getD_map (ps.map (wP (wG d))) [] S] at d2
    walk_at "go"
    refine i_joinG (.inl (.inl d2)) (by rw [List.length_map]; show _ + ps.length * 1 ≤ _; omega) ?_
    exact q H2 s2
theorem ok_L_write (T : Txt K mg C_GlimError C_BadText C_TooLong) (d : Nat) (R : OK P w K mg base CX0 (3 * d + 3) "_law_write_part" ["_law_part"] (sp1 (p_wp d))) : OK P w K mg base CX0 (3 * d + 4) "_law_write" ["_law_parts"] (sp1 (p_wD (d + 1))) := by
  obtain ⟨f, fd, F, hm, hb⟩ := T.d_L_write
  exact ⟨f, fd, okF_L_write T d R F, hm, F.kp, hb⟩
theorem write_all (T : Txt K mg C_GlimError C_BadText C_TooLong) : ∀ d, OK P w K mg base CX0 (3 * d + 1) "_law_write" ["_law_parts"] (sp1 (p_wD d))
  | 0 => by
    refine OK.mk (k := 0) T.d_L_write sc_L_write len1 fun f cdv A outer s H vs Q E hr h => ?_
    obtain ⟨x, rfl, h⟩ := h
    exact h.elim
  | d + 1 => ok_L_write T d (ok_L_write_part T d (ok_L_write_item T d (write_all T d)))
end
end K04
namespace K04
open PySem PySem.Spec PyProof.Rows L2 Fg
local macro_rules | `(tactic| walk_at "sq") => `(tactic| first
  | assumption
  | exact .inl (.inl (by assumption))
  | exact .inl (.inl upd_same))
local macro_rules | `(tactic| walk_at "st") => `(tactic| first
  | assumption
  | exact .inl (.inl (by assumption))
  | exact .inl (.inl upd_same))
local macro_rules | `(tactic| walk_at "o") => `(tactic| first
  | omega
  | assumption
  | (simp only [List.length_append, List.length_take, List.length_drop, List.length_cons, List.length_nil, List.length_singleton, List.length_map, List.length_range, Int.toNat_natCast] ; omega))
local macro_rules | `(tactic| walk_at "s") => `(tactic| first
  | (with_reducible refine i_seq ?_)
  | (with_reducible refine i_asg ?_)
  | ((with_reducible refine' i_var ?h1 ?_); (case h1 => rfl))
  | (with_reducible refine i_c ?_)
  | ((with_reducible refine' i_gname' ?h1 ?_); (case h1 => (simp only [List.set_cons_zero, List.set_cons_succ]; rfl)))
  | (with_reducible refine i_op ?_)
  | (with_reducible refine i_ifS ?_)
  | (with_reducible refine i_for ?_)
  | (with_reducible refine i_test ?_)
  | (with_reducible refine i_B ?_)
  | (with_reducible refine i_exbl ?_)
  | (with_reducible refine i_exint ?_)
  | (with_reducible refine i_cb ?_)
  | (with_reducible refine i_nil ?_)
  | (with_reducible refine i_cons ?_)
  | (with_reducible refine i_ret ?_)
  | (with_reducible refine i_sl ?_)
  | (with_reducible refine i_nopart ?_)
  | (with_reducible refine i_part ?_)
  | (with_reducible refine i_add_int ?_)
  | (with_reducible refine i_sub ?_)
  | (with_reducible refine i_lt ?_)
  | ((with_reducible refine' i_mod ?h1 ?_); (case h1 => walk_at "o"))
  | ((with_reducible refine' i_fdiv ?h1 ?_); (case h1 => (refine cdiv_small ?_ ?_ <;> walk_at "o")))
  | ((with_reducible refine' i_sl_to ?h1 ?h2 ?_); (case h1 => walk_at "o"); (case h2 => walk_at "o"))
  | ((with_reducible refine' i_sl_from ?h1 ?h2 ?_); (case h1 => walk_at "o"); (case h2 => walk_at "o"))
  | ((with_reducible refine' i_add_str ?h1 ?_); (case h1 => walk_at "o"))
  | ((with_reducible refine' i_mul_int ?h1 ?_); (case h1 => first | (refine mul_small ?_ ?_ <;> walk_at "o") | (refine mul_smallR ?_ ?_ <;> walk_at "o")))
  | (with_reducible refine i_le ?_)
  | (with_reducible refine i_gt ?_)
  | (with_reducible refine i_ge ?_)
  | (with_reducible refine i_eq_int ?_)
  | (with_reducible refine i_eq_str ?_)
  | (with_reducible refine i_ne_int ?_)
  | (with_reducible refine i_ne_str ?_)
  | (with_reducible refine i_eq_bl ?_)
  | (with_reducible refine i_ne_bl ?_)
  | (with_reducible refine i_in_sg ?_)
  | (with_reducible refine i_notIn_sg ?_)
  | (with_reducible refine i_call ?_)
  | (with_reducible refine i_callS ?_)
  | (with_reducible refine i_sp1 ?_)
  | (with_reducible refine i_sp2 ?_)
  | (with_reducible refine i_sp3 ?_)
  | (with_reducible refine i_sp4 ?_)
  | (with_reducible refine i_sp1' ?_)
  | (with_reducible refine i_sp2' ?_)
  | (with_reducible refine i_sp3' ?_)
  | ((with_reducible refine' i_ix_lst ?h1 ?h2 ?_); (case h1 => walk_at "sq"); (case h2 => first | exact atI_nat rfl | rfl))
  | ((with_reducible refine' i_ix_tup ?h1 ?h2 ?_); (case h1 => walk_at "st"); (case h2 => first | exact atI_nat rfl | rfl))
  | (with_reducible refine i_gsub ?_)
  | (with_reducible refine i_par ?_)
  | (with_reducible refine i_lstRg1 ?_)
  | (with_reducible refine i_app ?_)
  | (with_reducible refine i_par2 ?_)
  | ((with_reducible refine' i_aug ?h1 ?_); (case h1 => rfl))
  | (with_reducible refine i_ipI ?_)
  | ((with_reducible refine' i_gtup2 ?h1 ?_); (case h1 => walk_at "st"))
  | (with_reducible refine i_int_bl ?_)
  | (with_reducible refine i_raise ?_)
  | (with_reducible refine i_mkE ?_)
  | (with_reducible refine i_ex1 ?_)
  | (with_reducible refine i_and ?_)
  | (with_reducible refine i_or ?_)
  | (with_reducible refine i_not ?_)
  | (with_reducible refine i_tt ?_)
  | (with_reducible refine i_ff ?_)
  | (with_reducible refine i_nott ?_)
  | (with_reducible refine i_notf ?_)
  | (with_reducible refine i_andV ?_)
  | (with_reducible refine i_orV ?_)
  | (with_reducible refine i_notV ?_)
  | (with_reducible refine i_ifE ?_)
  | (with_reducible refine i_tup ?_)
  | (with_reducible refine i_lst ?_)
  | (with_reducible refine i_un ?_)
  | (with_reducible refine i_neg ?_)
  | (with_reducible refine i_chain ?_)
  | (with_reducible refine i_next ?_)
  | (with_reducible refine i_retN ?_)
  | (with_reducible refine i_drop ?_)
  | (with_reducible refine i_int_int ?_)
  | (with_reducible refine i_abs ?_)
  | (with_reducible refine i_m1c ?_)
  | (with_reducible refine i_is_non ?_)
  | (with_reducible refine i_is_int ?_)
  | (with_reducible refine i_is_bl ?_)
  | (with_reducible refine i_isn_bl ?_)
  | (with_reducible refine i_is_str ?_)
  | (with_reducible refine i_is_ref ?_)
  | (with_reducible refine i_isn_non ?_)
  | (with_reducible refine i_isn_int ?_)
  | (with_reducible refine i_isn_str ?_)
  | (with_reducible refine i_isn_ref ?_)
  | (with_reducible refine i_len_str ?h1 ?_; (case h1 => walk_at "o"))
  | (with_reducible refine i_isi_int_int ?_) | (with_reducible refine i_isi_int_bool ?_) | (with_reducible refine i_isi_int_str ?_) | (with_reducible refine i_isi_int_tuple ?_) | (with_reducible refine i_isi_int_list ?_)
  | (with_reducible refine i_isi_bl_int ?_) | (with_reducible refine i_isi_bl_bool ?_) | (with_reducible refine i_isi_bl_str ?_) | (with_reducible refine i_isi_bl_tuple ?_) | (with_reducible refine i_isi_bl_list ?_)
  | (with_reducible refine i_isi_str_int ?_) | (with_reducible refine i_isi_str_bool ?_) | (with_reducible refine i_isi_str_str ?_) | (with_reducible refine i_isi_str_tuple ?_) | (with_reducible refine i_isi_str_list ?_)
  | (with_reducible refine i_isi_non_int ?_) | (with_reducible refine i_isi_non_bool ?_) | (with_reducible refine i_isi_non_str ?_) | (with_reducible refine i_isi_non_tuple ?_) | (with_reducible refine i_isi_non_list ?_))
local macro_rules | `(tactic| walk_at "go") => `(tactic| (repeat' (walk_at "s")))
local macro_rules | `(tactic| walk_at "n") => `(tactic| simp only [wipe, List.map_cons, List.map_nil, List.set_cons_zero, List.set_cons_succ])
/-! ### a list that grows, a tally that grows, beside what stands -/
structure Wz (K : PySem.W.Frag) (d : Dd) (H0 : Hp) (t L : Addr) (N : Hp) (vs : List V) (T : Nat) (H : Hp) : Prop where
  nw : Nw H0 N
  t0 : H0 t = none
  tn : N t = none
  l0 : H0 L = none
  ln : N L = none
  ne : L ≠ t
  hc : SqL K H0 d.c (d.ns.map V.int)
  dr : Dr K d (upd (upd (un H0 N) L (.lst vs)) t (.lst (ones T))) H
section
variable {K : PySem.W.Frag} {d : Dd} {H0 N N2 H H' : Hp} {t L q : Addr} {vs vs' : List V} {T T' : Nat} {o : HO}
theorem Wz.tally (h : Wz K d H0 t L N vs T H) : H t = some (.lst (ones T)) := h.dr.old upd_same
theorem Wz.list (h : Wz K d H0 t L N vs T H) : H L = some (.lst vs) := h.dr.old ((upd_ne h.ne).trans upd_same)
theorem Wz.unL (h : Wz K d H0 t L N vs T H) : un H0 N L = none := un_none h.l0 h.ln
theorem Wz.unT (h : Wz K d H0 t L N vs T H) : un H0 N t = none := un_none h.t0 h.tn
theorem Wz.tick (h : Wz K d H0 t L N vs T H) : Wz K d H0 t L N vs T' (upd H t (.lst (ones T'))) :=
  { h with dr := h.dr.put (((same_upd h.unL).seq ((un_same).seq h.hc))) (by rw [upd_ne (Ne.symm h.ne)]; exact h.unT) }
theorem Wz.lset (h : Wz K d H0 t L N vs T H) : Wz K d H0 t L N vs' T (upd H L (.lst vs')) := by
  refine { h with dr := ?_ }
  have d1 := h.dr
  rw [upd_swap h.ne] at d1 ⊢
  exact d1.put (((same_upd h.unT).seq ((un_same).seq h.hc))) (by rw [upd_ne h.ne]; exact h.unL)
theorem Wz.draws (h : Wz K d H0 t L N vs T H) (dr : Dr K d (upd (upd (un H0 N) L (.lst vs)) t (.lst (ones T))) H') : Wz K d H0 t L N vs T H' := { h with dr := dr }
theorem Wz.same (h : Wz K d H0 t L N vs T H) (s : Same H H') : Wz K d H0 t L N vs T H' := { h with dr := h.dr.same s }
theorem Wz.new (h : Wz K d H0 t L N vs T H) (n : H q = none) : Wz K d H0 t L (upd N q o) vs T (upd H q o) := by
  have f := h.dr.free n
  have nt : q ≠ t := fun e => by rw [e, upd_same] at f; cases f
  rw [upd_ne nt] at f
  have nl : q ≠ L := fun e => by rw [e, upd_same] at f; cases f
  rw [upd_ne nl] at f
  obtain ⟨f0, fn⟩ := un_free f
  refine ⟨h.nw.upd f0, h.t0, by rw [upd_ne (Ne.symm nt)]; exact h.tn, h.l0, by rw [upd_ne (Ne.symm nl)]; exact h.ln, h.ne, h.hc, ?_⟩
  rw [un_updR f0, upd_swap nl, upd_swap nt]
  exact h.dr.new n
theorem Wz.sub (h : Wz K d H0 t L N vs T H) : Same N H := fun a o' e => by
  refine h.dr.old ?_
  have nt : a ≠ t := fun z => by rw [z, h.tn] at e; cases e
  have nl : a ≠ L := fun z => by rw [z, h.ln] at e; cases e
  rw [upd_ne nt, upd_ne nl]
  exact un_new h.nw _ _ e
theorem Wz.call (h : Wz K d H0 t L N vs T H) (nw : Nw (upd (un H0 N) L (.lst vs)) N2) (tn : N2 t = none) (dr : Dr K d (upd (un (upd (un H0 N) L (.lst vs)) N2) t (.lst (ones T'))) H') : Wz K d H0 t L (un N N2) vs T' H' := by
  refine ⟨h.nw.more nw.less, h.t0, un_none h.tn tn, h.l0, un_none h.ln (nw.not upd_same), h.ne, h.hc, ?_⟩
  rw [un_updL, un_assoc] at dr
  exact dr
theorem Wz.sub1 (nw : Nw (upd (un H0 N) L (.lst vs)) N2) : Same N2 (un N N2) := un_new nw.less.out
end
/-- only the tally grows -/
structure Tz (K : PySem.W.Frag) (d : Dd) (H0 : Hp) (t : Addr) (N : Hp) (T : Nat) (H : Hp) : Prop where
  nw : Nw H0 N
  t0 : H0 t = none
  tn : N t = none
  hc : SqL K H0 d.c (d.ns.map V.int)
  dr : Dr K d (upd (un H0 N) t (.lst (ones T))) H
section
variable {K : PySem.W.Frag} {d : Dd} {H0 N N2 H H' : Hp} {t L q : Addr} {vs vs' : List V} {T T' : Nat} {o : HO}
theorem Tz.start (t0 : H0 t = none) (hc : SqL K H0 d.c (d.ns.map V.int)) (dr : Dr K d (upd H0 t (.lst (ones T))) H) : Tz K d H0 t emp T H := ⟨nw_emp, t0, rfl, hc, by rw [un_emp]; exact dr⟩
theorem Tz.open (h : Tz K d H0 t N T H) (n : H L = none) : Wz K d H0 t L N vs T (upd H L (.lst vs)) := by
  have f := h.dr.free n
  have nt : L ≠ t := fun e => by rw [e, upd_same] at f; cases f
  rw [upd_ne nt] at f
  obtain ⟨f0, fn⟩ := un_free f
  refine ⟨h.nw, h.t0, h.tn, f0, fn, nt, h.hc, ?_⟩
  rw [upd_swap nt]
  exact h.dr.new n
theorem Wz.close (h : Wz K d H0 t L N vs T H) : Tz K d H0 t (upd N L (.lst vs)) T H :=
  ⟨h.nw.upd h.l0, h.t0, by rw [upd_ne (Ne.symm h.ne)]; exact h.tn, h.hc, by rw [un_updR h.l0]; exact h.dr⟩
theorem Tz.new (h : Tz K d H0 t N T H) (n : H q = none) : Tz K d H0 t (upd N q o) T (upd H q o) := by
  have f := h.dr.free n
  have nt : q ≠ t := fun e => by rw [e, upd_same] at f; cases f
  rw [upd_ne nt] at f
  obtain ⟨f0, fn⟩ := un_free f
  refine ⟨h.nw.upd f0, h.t0, by rw [upd_ne (Ne.symm nt)]; exact h.tn, h.hc, ?_⟩
  rw [un_updR f0, upd_swap nt]
  exact h.dr.new n
theorem Tz.draws (h : Tz K d H0 t N T H) (dr : Dr K d (upd (un H0 N) t (.lst (ones T))) H') : Tz K d H0 t N T H' := { h with dr := dr }
theorem Tz.tally (h : Tz K d H0 t N T H) : H t = some (.lst (ones T)) := h.dr.old upd_same
theorem Tz.tick (h : Tz K d H0 t N T H) : Tz K d H0 t N T' (upd H t (.lst (ones T'))) := { h with dr := h.dr.put ((un_same).seq h.hc) (un_none h.t0 h.tn) }
theorem Tz.sub (h : Tz K d H0 t N T H) : Same N H := fun a o' e => by
  refine h.dr.old ?_
  have nt : a ≠ t := fun z => by rw [z, h.tn] at e; cases e
  rw [upd_ne nt]
  exact un_new h.nw _ _ e
theorem Tz.call (h : Tz K d H0 t N T H) (nw : Nw (un H0 N) N2) (tn : N2 t = none) (dr : Dr K d (upd (un (un H0 N) N2) t (.lst (ones T'))) H') : Tz K d H0 t (un N N2) T' H' := by
  refine ⟨h.nw.more nw, h.t0, un_none h.tn tn, h.hc, ?_⟩
  rw [un_assoc] at dr
  exact dr
end
/-! ### counts of items -/
section
variable {K : PySem.W.Frag} {e : Nat} {σ : L2.St} {H : Hp} {Q : VK} {te tl : TE} {j : Nat} {vs : List Nat} {b : Addr} {xs : List V} {is : List (ItG (Gr e))}
theorem c_counts (hb : H b = some (.lst xs)) (hF : F2 (RI (RG e) H) xs is) (hn : is.length ≤ 100000) (ha : ∀ R : VK, R (.ref b) H → tl σ H R) (hw : ∀ x, wipe ((wipe σ vs).set j (some x)) vs = wipe σ vs)
    (he : ∀ x i H2, i ∈ is → RI (RG e) H2 x i → Same H H2 → ∀ QV : VK, (∀ H3, Same H2 H3 → QV (.int ((stI (stG e) i).1 : Nat)) H3) → te ((wipe σ vs).set j (some x)) H2 QV)
    (q : ∀ Dl H2, H Dl = none → Same H H2 → (∀ Q' : VK, Q' (.int ((stIs (stG e) is).1 : Nat)) H2 → rSum K [.ref Dl] H2 Q') → Q (.ref Dl) H2) : tLc (iAny K tl) (gName j) tYes te vs σ H Q := by
  have hlen := hF.len
  refine c_lst (K := K) (a := b) (xs := xs) ha (.inl (.inl hb)) (by omega) (fun _ => true) (fun j => .int (((is.map fun i => (stI (stG e) i).1).getD j 0 : Nat) : Int)) hw (fun j x H2 hj s2 QB k => k H2 (Same.refl H2)) (fun j x H2 hj s2 _ QV k => ?_) (fun Dl H2 n2 s2 d2 => ?_)
  · obtain ⟨i, hi, hri⟩ := hF.get j x hj
    have hm := List.mem_of_getElem? hi
    rw [List.getD_eq_getElem?_getD, List.getElem?_map, hi] at k
    exact he x i H2 hm (hri.mono (RG_mono e) s2) s2 QV k
  · rw [kept_all, hlen, ← List.length_map (f := fun i => (stI (stG e) i).1) (as := is), range_getD_map (is.map fun i => (stI (stG e) i).1) 0 (fun n : Nat => V.int (n : Int))] at d2
    refine q Dl H2 n2 s2 fun Q' k => ?_
    refine i_sum (ns := (is.map fun i => (stI (stG e) i).1).map fun n : Nat => (n : Int)) (.inl (.inl (by rw [d2, List.map_map, List.map_map, List.map_map]; rfl))) ?_
    rw [sum_nat, ← stIs_sum]
    exact k
end
theorem wIs_snoc {G : Type} {wg : G → List Nat} (is : List (ItG G)) (i : ItG G) : wIs wg (is ++ [i]) = wIs wg is ++ wI wg i := by
  unfold wIs
  rw [List.map_append, List.flatten_append]
  simp
theorem stIs_snoc {G : Type} {sg : G → Stv} (is : List (ItG G)) (i : ItG G) : (stIs sg (is ++ [i])).1 = (stIs sg is).1 + (stI sg i).1 := by
  rw [stIs_app]
  show (stIs sg is).1 + (stIs sg [i]).1 = _
  rw [stIs_cons]
  rfl
theorem wN_len (t : Nat) : (wN t).length ≤ 2 := by
  unfold wN
  split
  · exact dec_len t
  · exact Nat.zero_le _
theorem wF_len (t : Nat) : (wF t).length ≤ 3 := by
  unfold wF
  split
  · rw [List.length_cons]
    have := dec_len t
    omega
  · exact Nat.zero_le _
theorem wF_zero : wF 0 = [] := rfl
end K04
namespace K04
open PySem PySem.Spec PyProof.Rows L2 Fg
local macro_rules | `(tactic| walk_at "sq") => `(tactic| first
  | assumption
  | exact .inl (.inl (by assumption))
  | exact .inl (.inl upd_same))
local macro_rules | `(tactic| walk_at "st") => `(tactic| first
  | assumption
  | exact .inl (.inl (by assumption))
  | exact .inl (.inl upd_same))
local macro_rules | `(tactic| walk_at "o") => `(tactic| first
  | omega
  | assumption
  | (simp only [List.length_append, List.length_take, List.length_drop, List.length_cons, List.length_nil, List.length_singleton, List.length_map, List.length_range, Int.toNat_natCast] ; omega))
local macro_rules | `(tactic| walk_at "s") => `(tactic| first
  | (with_reducible refine i_seq ?_)
  | (with_reducible refine i_asg ?_)
  | ((with_reducible refine' i_var ?h1 ?_); (case h1 => rfl))
  | (with_reducible refine i_c ?_)
  | ((with_reducible refine' i_gname' ?h1 ?_); (case h1 => (simp only [List.set_cons_zero, List.set_cons_succ]; rfl)))
  | (with_reducible refine i_op ?_)
  | (with_reducible refine i_ifS ?_)
  | (with_reducible refine i_for ?_)
  | (with_reducible refine i_test ?_)
  | (with_reducible refine i_B ?_)
  | (with_reducible refine i_exbl ?_)
  | (with_reducible refine i_exint ?_)
  | (with_reducible refine i_cb ?_)
  | (with_reducible refine i_nil ?_)
  | (with_reducible refine i_cons ?_)
  | (with_reducible refine i_ret ?_)
  | (with_reducible refine i_sl ?_)
  | (with_reducible refine i_nopart ?_)
  | (with_reducible refine i_part ?_)
  | (with_reducible refine i_add_int ?_)
  | (with_reducible refine i_sub ?_)
  | (with_reducible refine i_lt ?_)
  | ((with_reducible refine' i_mod ?h1 ?_); (case h1 => walk_at "o"))
  | ((with_reducible refine' i_fdiv ?h1 ?_); (case h1 => (refine cdiv_small ?_ ?_ <;> walk_at "o")))
  | ((with_reducible refine' i_sl_to ?h1 ?h2 ?_); (case h1 => walk_at "o"); (case h2 => walk_at "o"))
  | ((with_reducible refine' i_sl_from ?h1 ?h2 ?_); (case h1 => walk_at "o"); (case h2 => walk_at "o"))
  | ((with_reducible refine' i_add_str ?h1 ?_); (case h1 => walk_at "o"))
  | ((with_reducible refine' i_mul_int ?h1 ?_); (case h1 => first | (refine mul_small ?_ ?_ <;> walk_at "o") | (refine mul_smallR ?_ ?_ <;> walk_at "o")))
  | (with_reducible refine i_le ?_)
  | (with_reducible refine i_gt ?_)
  | (with_reducible refine i_ge ?_)
  | (with_reducible refine i_eq_int ?_)
  | (with_reducible refine i_eq_str ?_)
  | (with_reducible refine i_ne_int ?_)
  | (with_reducible refine i_ne_str ?_)
  | (with_reducible refine i_eq_bl ?_)
  | (with_reducible refine i_ne_bl ?_)
  | (with_reducible refine i_in_sg ?_)
  | (with_reducible refine i_notIn_sg ?_)
  | (with_reducible refine i_call ?_)
  | (with_reducible refine i_callS ?_)
  | (with_reducible refine i_sp1 ?_)
  | (with_reducible refine i_sp2 ?_)
  | (with_reducible refine i_sp3 ?_)
  | (with_reducible refine i_sp4 ?_)
  | (with_reducible refine i_sp1' ?_)
  | (with_reducible refine i_sp2' ?_)
  | (with_reducible refine i_sp3' ?_)
  | ((with_reducible refine' i_ix_lst ?h1 ?h2 ?_); (case h1 => walk_at "sq"); (case h2 => first | exact atI_nat rfl | rfl))
  | ((with_reducible refine' i_ix_tup ?h1 ?h2 ?_); (case h1 => walk_at "st"); (case h2 => first | exact atI_nat rfl | rfl))
  | (with_reducible refine i_gsub ?_)
  | (with_reducible refine i_par ?_)
  | (with_reducible refine i_lstRg1 ?_)
  | (with_reducible refine i_app ?_)
  | (with_reducible refine i_par2 ?_)
  | ((with_reducible refine' i_aug ?h1 ?_); (case h1 => rfl))
  | (with_reducible refine i_ipI ?_)
  | ((with_reducible refine' i_gtup2 ?h1 ?_); (case h1 => walk_at "st"))
  | (with_reducible refine i_int_bl ?_)
  | (with_reducible refine i_raise ?_)
  | (with_reducible refine i_mkE ?_)
  | (with_reducible refine i_ex1 ?_)
  | (with_reducible refine i_and ?_)
  | (with_reducible refine i_or ?_)
  | (with_reducible refine i_not ?_)
  | (with_reducible refine i_tt ?_)
  | (with_reducible refine i_ff ?_)
  | (with_reducible refine i_nott ?_)
  | (with_reducible refine i_notf ?_)
  | (with_reducible refine i_andV ?_)
  | (with_reducible refine i_orV ?_)
  | (with_reducible refine i_notV ?_)
  | (with_reducible refine i_ifE ?_)
  | (with_reducible refine i_tup ?_)
  | (with_reducible refine i_lst ?_)
  | (with_reducible refine i_un ?_)
  | (with_reducible refine i_neg ?_)
  | (with_reducible refine i_chain ?_)
  | (with_reducible refine i_next ?_)
  | (with_reducible refine i_retN ?_)
  | (with_reducible refine i_drop ?_)
  | (with_reducible refine i_int_int ?_)
  | (with_reducible refine i_abs ?_)
  | (with_reducible refine i_m1c ?_)
  | (with_reducible refine i_is_non ?_)
  | (with_reducible refine i_is_int ?_)
  | (with_reducible refine i_is_bl ?_)
  | (with_reducible refine i_isn_bl ?_)
  | (with_reducible refine i_is_str ?_)
  | (with_reducible refine i_is_ref ?_)
  | (with_reducible refine i_isn_non ?_)
  | (with_reducible refine i_isn_int ?_)
  | (with_reducible refine i_isn_str ?_)
  | (with_reducible refine i_isn_ref ?_)
  | (with_reducible refine i_len_str ?h1 ?_; (case h1 => walk_at "o"))
  | (with_reducible refine i_isi_int_int ?_) | (with_reducible refine i_isi_int_bool ?_) | (with_reducible refine i_isi_int_str ?_) | (with_reducible refine i_isi_int_tuple ?_) | (with_reducible refine i_isi_int_list ?_)
  | (with_reducible refine i_isi_bl_int ?_) | (with_reducible refine i_isi_bl_bool ?_) | (with_reducible refine i_isi_bl_str ?_) | (with_reducible refine i_isi_bl_tuple ?_) | (with_reducible refine i_isi_bl_list ?_)
  | (with_reducible refine i_isi_str_int ?_) | (with_reducible refine i_isi_str_bool ?_) | (with_reducible refine i_isi_str_str ?_) | (with_reducible refine i_isi_str_tuple ?_) | (with_reducible refine i_isi_str_list ?_)
  | (with_reducible refine i_isi_non_int ?_) | (with_reducible refine i_isi_non_bool ?_) | (with_reducible refine i_isi_non_str ?_) | (with_reducible refine i_isi_non_tuple ?_) | (with_reducible refine i_isi_non_list ?_))
local macro_rules | `(tactic| walk_at "go") => `(tactic| (repeat' (walk_at "s")))
local macro_rules | `(tactic| walk_at "n") => `(tactic| simp only [wipe, List.map_cons, List.map_nil, List.set_cons_zero, List.set_cons_succ])
section
variable {P : Program} {w : World} {K : PySem.W.Frag} {mg : Str → Option Value} {base : Heap} {C_GlimError C_BadText C_TooLong : Addr}
/-- a part with room for so many beats -/
def p_rpart (K : PySem.W.Frag) (e : Nat) : P4 := fun x y z u H Q _ => ∃ (H0 : Hp) (d : Dd) (R : Nat) (D : Int) (t : Addr) (T : Nat), x = .ref d.a ∧ y = .int (R : Int) ∧ z = .int D ∧ u = .ref t ∧ 1 ≤ R ∧ R ≤ 24 ∧ 0 ≤ D ∧ D + (e : Int) = 4 ∧ H0 t = none ∧ SqL K H0 d.c (d.ns.map V.int) ∧ Dr K d (upd H0 t (.lst (ones T))) H ∧ T ≤ 100 ∧
  ∀ v (p : PtG (Gr e)) N T' H', Tz K d H0 t N T' H' → RP (RG e) N v p → vP (stG e) (vG e) p → (stP (stG e) p).1 ≤ R → T < T' → T' ≤ max T 39 + 4 * (e + 1) → (wIs (wG e) p.1).length + 4 ≤ 9 * (T' - T) → Q v H'
def p_rtext (K : PySem.W.Frag) (e : Nat) : P4 := fun x y z u H Q _ => ∃ (H0 : Hp) (d : Dd) (R : Nat) (D : Int) (t : Addr) (T : Nat), x = .ref d.a ∧ y = .int (R : Int) ∧ z = .int D ∧ u = .ref t ∧ 1 ≤ R ∧ R ≤ 24 ∧ 0 ≤ D ∧ D + (e : Int) = 4 ∧ H0 t = none ∧ SqL K H0 d.c (d.ns.map V.int) ∧ Dr K d (upd H0 t (.lst (ones T))) H ∧ T ≤ 100 ∧
  ∀ v (ps : List (PtG (Gr e))) N T' H', Tz K d H0 t N T' H' → RPs (RG e) N v ps → vPs (stG e) (vG e) ps → (stPs (stG e) ps).1 ≤ R → T < T' → T' ≤ max T 39 + 4 * (e + 1) → (wPs (wG e) ps).length + 1 ≤ 9 * (T' - T) → Q v H'
def p_rtextD (K : PySem.W.Frag) : Nat → P4
  | 0 => fun _ _ _ _ _ _ _ => False
  | e + 1 => p_rtext K e
/-- behind so many turns -/
def RmS (K : PySem.W.Frag) (d : Dd) (H0 : Hp) (t L : Addr) (e T0 R B i : Nat) (is : List (ItG (Gr e))) (T : Nat) (H : Hp) : Prop :=
  ∃ N vs, Wz K d H0 t L N vs T H ∧ F2 (RI (RG e) N) vs is ∧ (∀ i ∈ is, vI (vG e) i) ∧ (stIs (stG e) is).1 ≤ R ∧ (0 < i → is ≠ []) ∧ T0 + i ≤ T ∧ T ≤ B + i ∧ (wIs (wG e) is).length + 5 * i ≤ 9 * (T - T0)
theorem ok_L_room_part (T : Txt K mg C_GlimError C_BadText C_TooLong) (e : Nat) (he : e ≤ 4) (R : OK P w K mg base CX0 (2 * e + 31) "_law_room_text" ["_law_draw_here", "_law_room", "_law_depth", "_law_tally"] (sp4 (p_rtextD K e))) :
    OK P w K mg base CX0 (2 * e + 32) "_law_room_part" ["_law_draw_here", "_law_room", "_law_depth", "_law_tally"] (sp4 (p_rpart K e)) := by
  refine OK.mk (k := 2 * e + 31) T.d_L_room_part sc_L_room_part len4 fun f cdv A outer s H vs Q E hr h => ?_
  obtain ⟨x, y, z, u, rfl, h⟩ := h
  refine ⟨_, (pss_cons (ps_set (i := 4) sc_L_room_part.nd rfl (Or.inl rfl) (pe_lst pa_nil)) (pss_cons (ps_set (i := 5) sc_L_room_part.nd rfl (Or.inl rfl) pe_int) (pss_cons (ps_for PassesOwn.never rfl (pi_range1 rfl T.b_range (pa_cons (pe_op (opAdd K) pe_int (pe_f (ok_L_pick (K := K) T) (hr.mono (by omega)) pass0 (pa_cons (pv 0) (pa_cons pe_int pa_nil)))) pa_nil)) (pg_name (i := 6) sc_L_room_part.nd rfl (Or.inl rfl)) (pss_cons (ps_expr (peApp K (pv 3) (pa_cons pe_int pa_nil))) (pss_cons (ps_set (i := 7) sc_L_room_part.nd rfl (Or.inl rfl) (pe_op op_subP (pv 1) (pv 5))) (pss_cons (ps_set (i := 8) sc_L_room_part.nd rfl (Or.inl rfl) (pe_f (ok_L_pick (K := K) T) (hr.mono (by omega)) pass0 (pa_cons (pv 0) (pa_cons pe_int pa_nil)))) (Evl.pss_cut (ps_if (pw_and (pt_cmpR op_gtP (pv 7) pe_int (nomark _)) (pw_and (pt_cmpR (opEq K hr.units) (pv 8) pe_int (nomark _)) (pw_and (pt_cmpR op_ltP (pv 2) pe_int (nomark _)) (pw_and1 (pt_cmpR op_ltP (pe_callB (cLen K) (by rfl) T.b_len (by decide +kernel) (pa_cons (pv 3) pa_nil)) pe_int (nomark _)))))).pt (pss_cons (ps_set (i := 9) sc_L_room_part.nd rfl (Or.inl rfl) (pe_op (opAdd K) pe_int (pe_f (ok_L_pick (K := K) T) (hr.mono (by omega)) pass0 (pa_cons (pv 0) (pa_cons (pe_callB (call_min2 rfl) (by rfl) T.b_min (by decide +kernel) (pa_cons pe_int (pa_cons (pe_op op_subP (pv 7) pe_int) pa_nil))) pa_nil))))) (pss_one (ps_expr (peApp K (pv 4) (pa_cons (pe_tup (pa_cons (pv 9) (pa_cons (pe_f R (hr.mono (by omega)) pass0 (pa_cons (pv 0) (pa_cons (pe_op op_fdivP (pv 7) (pv 9)) (pa_cons (pe_op (opAdd K) (pv 2) pe_int) (pa_cons (pv 3) pa_nil))))) pa_nil))) pa_nil))))) (pss_one (ps_if (pw_and (pt_cmpR op_gtP (pv 7) pe_int (nomark _)) (pw_and1 (pt_cmpR (opEq K hr.units) (pv 8) pe_int (nomark _)))).pt (pss_one (ps_expr (peApp K (pv 4) (pa_cons (pe_tup (pa_cons (pe_op (opAdd K) pe_int (pe_f (ok_L_pick (K := K) T) (hr.mono (by omega)) pass0 (pa_cons (pv 0) (pa_cons (pe_callB (call_min2 rfl) (by rfl) T.b_min (by decide +kernel) (pa_cons pe_int (pa_cons (pe_op op_subP (pv 7) pe_int) pa_nil))) pa_nil)))) (pa_cons (pe_f (ok_L_sign (K := K) T) (hr.mono (by omega)) pass0 (pa_cons (pv 0) pa_nil)) pa_nil))) pa_nil)))) (pss_one (ps_if (pt_cmpR op_gtP (pv 7) pe_int (nomark _)) (pss_one (ps_expr (peApp K (pv 4) (pa_cons (pe_tup (pa_cons pe_int (pa_cons (pe_f (ok_L_sign (K := K) T) (hr.mono (by omega)) pass0 (pa_cons (pv 0) pa_nil)) pa_nil))) pa_nil)))) pss_nil))))) (pss_one (ps_set (i := 5) sc_L_room_part.nd rfl (Or.inl rfl) (pe_callB (cSum K rfl) (by rfl) T.b_sum (by decide +kernel) (pa_cons (pe_lc (own := [("_law_item", 10)]) (g := gName 10) (tt := tYes) (by rfl) sc_L_room_part.nd (piAny K (pv 4)) (blkOk_by (own := [("_law_item", 10)]) (N := ["_law_draw_here", "_law_room", "_law_depth", "_law_tally", "_law_items", "_law_used", "_law_turn", "_law_left", "_law_kind", "_law_times", "_law_item"]) (sc := (defScope s_L_room_part)) (by decide +kernel)) (fun _ _ _ _ _ => (pg_name (i := 10) sc_L_room_part.nd rfl (Or.inl rfl))) (fun _ _ _ _ _ => pts_nil) (fun _ _ _ _ _ => (pe_f (icnt_ok (K := K) T e (by omega)) (hr.mono (by omega)) pass0 (pa_cons (pv 10) pa_nil)))) pa_nil))))))))) (pss_cons (ps_if (pt_cmpR (opEq K hr.units) (pe_f (ok_L_pick (K := K) T) (hr.mono (by omega)) pass0 (pa_cons (pv 0) (pa_cons pe_int pa_nil))) pe_int (nomark _)) (pss_one (ps_ret (pe_tup (pa_cons (pv 4) (pa_cons (pe_op (opAdd K) (pv 5) (pe_f (ok_L_pick (K := K) T) (hr.mono (by omega)) pass0 (pa_cons (pv 0) (pa_cons (pe_op (opAdd K) (pe_op op_subP (pv 1) (pv 5)) pe_int) pa_nil)))) pa_nil))))) pss_nil) (pss_one (ps_ret (pe_tup (pa_cons (pv 4) (pa_cons pe_int pa_nil))))))))), ?_⟩
  show (_ : TS) { nx := fun _ H' => Q .non H', rt := Q } [some x, some y, some z, some u, none, none, none, none, none, none, none] H
  obtain ⟨H0, d, Rm, D, t, T0, rfl, rfl, rfl, rfl, hR1, hR2, hD0, hD, nt, hc, dr, hT, q⟩ := h
  walk_at "go"
  refine i_new (by show 0 ≤ 100000; omega) fun L nL => ?_
  have w0 := (Tz.start nt hc dr).open (vs := []) nL
  walk_at "go"
  refine i_forR ?_
  walk_at "go"
  refine ⟨_, d, 4, rfl, rfl, w0.dr, by decide, fun n H1 dr1 b1 => ?_⟩
  have n0 := b1.1
  have n1 := b1.2.1 (by decide)
  have w1 := w0.draws dr1
  walk_at "go"
  refine i_rngD (by omega) (by omega) (fun i σ' H' => ∃ (is : List (ItG (Gr e))) (Ti : Nat) (v6 v7 v8 v9 : Option V), σ' = [some (.ref d.a), some (.int (Rm : Int)), some (.int D), some (.ref t), some (.ref L), some (.int ((stIs (stG e) is).1 : Nat)), v6, v7, v8, v9, none] ∧ RmS K d H0 t L e T0 Rm (max T0 39 + 4 * e) i is Ti H' ∧ i ≤ 4) ⟨[], T0, _, _, _, _, rfl, ⟨emp, [], w1, .nil, by simp, Nat.zero_le _, by omega, by omega, by omega, by show 0 + 0 ≤ _; omega⟩, by omega⟩ ?_ ?_
  · rintro i σ' H' hi ⟨is, Ti, v6, v7, v8, v9, rfl, ⟨N, vs, wz, hF, hv, hs, hne, t1, t2, t3⟩, hi4⟩
    generalize hu : (stIs (stG e) is).1 = used at *
    have hsm := len_items hv
    have hlen := hF.len
    walk_at "go"
    refine i_appAt wz.tally ?_
    walk_at "go"
    refine i_appEnd wz.tally (by unfold ones; rw [List.length_replicate]; omega) ?_
    rw [ones_succ]
    have w2 := wz.tick (T' := Ti + 1)
    walk_at "go"
    refine ⟨_, d, 4, rfl, rfl, w2.dr, by decide, fun k H2 dr2 b2 => ?_⟩
    have w3 := w2.draws dr2
    walk_at "go"
    refine i_cut (fun σ' H' => ∃ (is : List (ItG (Gr e))) (Tj : Nat) (v9 : Option V), σ' = [some (.ref d.a), some (.int (Rm : Int)), some (.int D), some (.ref t), some (.ref L), some (.int (used : Int)), some (.int (i : Int)), some (.int ((Rm : Int) - (used : Int))), some (.int k), v9, none] ∧ RmS K d H0 t L e T0 Rm (max T0 39 + 4 * e) (i + 1) is Tj H') ?_ ?_
    · -- a new item
      have plain : ∀ (tt c : Nat) H3 q v9, Wz K d H0 t L (upd N q (.tup [.int (tt : Int), S [c]])) vs (Ti + 1) H3 → N q = none → (tt = 0 ∨ (2 ≤ tt ∧ tt ≤ 24)) → c ∈ SG → used + max 1 tt ≤ Rm → ∃ (is' : List (ItG (Gr e))) (Tj : Nat) (v9' : Option V), ([some (.ref d.a), some (.int (Rm : Int)), some (.int D), some (.ref t), some (.ref L), some (.int (used : Int)), some (.int (i : Int)), some (.int ((Rm : Int) - (used : Int))), some (.int k), v9, none] : L2.St) = [some (.ref d.a), some (.int (Rm : Int)), some (.int D), some (.ref t), some (.ref L), some (.int (used : Int)), some (.int (i : Int)), some (.int ((Rm : Int) - (used : Int))), some (.int k), v9', none] ∧ RmS K d H0 t L e T0 Rm (max T0 39 + 4 * e) (i + 1) is' Tj (upd H3 L (.lst (vs ++ [.ref q]))) := fun tt c H3 q v9 w nq ht hc' hle => by
        refine ⟨is ++ [.inl (tt, c)], Ti + 1, v9, rfl, _, _, w.lset (vs' := vs ++ [.ref q]), (hF.imp fun _ _ h => h.mono (RG_mono e) (same_upd nq)).snoc (show RI (RG e) (upd N q (.tup [.int (tt : Int), S [c]])) (.ref q) (.inl (tt, c)) from ⟨q, rfl, upd_same⟩), fun x hx => ?_, ?_, fun _ => by simp, by omega, by omega, ?_⟩
        · rcases List.mem_append.mp hx with hx | hx
          · exact hv x hx
          · rw [List.mem_singleton.mp hx]; exact ⟨hc', ht⟩
        · rw [stIs_snoc, hu]
          show used + 1 * max 1 tt ≤ Rm
          omega
        · rw [wIs_snoc, List.length_append]
          have := wN_len tt
          show _ + (wN tt ++ [c]).length + _ ≤ _
          rw [List.length_append, List.length_singleton]
          omega
      walk_at "go"
      refine i_dec (fun a1 => ?_) (fun a1 => ?_)
      · have hL3 := w3.list
        walk_at "go"
        refine i_dec (fun a2 => ?_) (fun a2 => ?_)
        · walk_at "go"
          refine i_dec (fun a3 => ?_) (fun a3 => ?_)
          · walk_at "go"
            refine i_len_lst (.inl (.inl w3.tally)) ?_
            walk_at "go"
            rw [show (ones (Ti + 1)).length = Ti + 1 from List.length_replicate]
            refine i_dec (fun a4 => ?_) (fun a4 => ?_)
            · -- a group
              obtain ⟨e', rfl⟩ : ∃ e', e = e' + 1 := ⟨e - 1, by omega⟩
              walk_at "go"
              refine ⟨3, (Rm : Int) - (used : Int) - 1, rfl, ?_⟩
              obtain ⟨m, hm, m1, m2, m3⟩ : ∃ m : Int, (if (Rm : Int) - (used : Int) - 1 < 3 then (Rm : Int) - (used : Int) - 1 else 3) = m ∧ 1 ≤ m ∧ m ≤ 3 ∧ m ≤ (Rm : Int) - (used : Int) - 1 := ⟨_, rfl, by split <;> omega, by split <;> omega, by split <;> omega⟩
              rw [hm]
              walk_at "go"
              refine ⟨_, d, m, rfl, rfl, w3.dr, by omega, fun y H3 dr3 b3 => ?_⟩
              have y0 := b3.1
              have y1 := b3.2.1
              have y2 := b3.2.2
              obtain ⟨y, rfl⟩ : ∃ y' : Nat, y = (y' : Int) := ⟨y.toNat, by omega⟩
              have hy : 2 + y + used ≤ Rm := by omega
              have w4 := w3.draws dr3
              have hL4 := w4.list
              walk_at "go"
              refine i_appAt hL4 ?_
              walk_at "go"
              obtain ⟨g, hg⟩ : ∃ g : Nat, ((Rm : Int) - (used : Int)) / (2 + (y : Int)) = (g : Int) := ⟨(((Rm : Int) - (used : Int)) / (2 + (y : Int))).toNat, by rw [Int.toNat_of_nonneg (Int.ediv_nonneg (by omega) (by omega))]⟩
              have g1 : 1 ≤ g := by
                have : (1 : Int) ≤ ((Rm : Int) - (used : Int)) / (2 + (y : Int)) := (Int.le_ediv_iff_mul_le (by omega)).mpr (by omega)
                omega
              have g2 : g * (2 + y) ≤ Rm - used := by
                have := Int.ediv_mul_le ((Rm : Int) - (used : Int)) (show (2 + (y : Int)) ≠ 0 by omega)
                rw [hg] at this
                have e1 : ((g * (2 + y) : Nat) : Int) = (g : Int) * (2 + (y : Int)) := by rw [Int.natCast_mul, Int.natCast_add]; rfl
                omega
              have g3 : g ≤ 24 := by
                have : g ≤ g * (2 + y) := Nat.le_mul_of_pos_right _ (by omega)
                omega
              rw [hg]
              refine ⟨_, d, g, D + 1, t, Ti + 1, rfl, rfl, rfl, rfl, g1, g3, by omega, by omega, by rw [upd_ne (Ne.symm w4.ne)]; exact w4.unT, (same_upd w4.unL).seq (un_same.seq hc), w4.dr, by omega, fun v ps N2 T2 H4 tz hps hvp hle k1 k2 k3 => ?_⟩
              have w5 := w4.call tz.nw tz.tn tz.dr
              walk_at "go"
              refine i_new (by show 2 ≤ 100000; omega) fun q5 nq => ?_
              have w6 := w5.new (o := .tup [.int (2 + (y : Int)), v]) nq
              have nq5 := w5.sub.free nq
              walk_at "go"
              refine i_appEnd w6.list (by omega) ?_
              refine ⟨is ++ [.inr (2 + y, ps)], T2, _, rfl, _, _, w6.lset (vs' := vs ++ [.ref q5]), (hF.imp fun _ _ h => h.mono (RG_mono _) (un_same.trans (same_upd nq5))).snoc (show RI (RG (e' + 1)) _ (.ref q5) (.inr (2 + y, ps)) from ⟨q5, v, rfl, by rw [upd_same, Int.natCast_add]; rfl, RPs.mono (RG_mono _) hps ((Wz.sub1 tz.nw).trans (same_upd nq5))⟩), fun x hx => ?_, ?_, fun _ => by simp, by omega, by omega, ?_⟩
              · rcases List.mem_append.mp hx with hx | hx
                · exact hv x hx
                · rw [List.mem_singleton.mp hx]; exact ⟨by omega, by omega, hvp⟩
              · rw [stIs_snoc, hu]
                show used + (stPs (stG e') ps).1 * max 1 (2 + y) ≤ Rm
                have : (stPs (stG e') ps).1 * (2 + y) ≤ g * (2 + y) := Nat.mul_le_mul_right _ hle
                rw [show max 1 (2 + y) = 2 + y by omega]
                omega
              · rw [wIs_snoc, List.length_append]
                have := wN_len (2 + y)
                show _ + (wN (2 + y) ++ ([40] ++ (wPs (wG e') ps ++ [41]))).length + _ ≤ _
                simp only [List.length_append, List.length_singleton]
                omega
            all_goals
              have hL3 := w3.list
              walk_at "go"
              refine i_dec (fun _ => ?_) (fun z => absurd a1 z)
              walk_at "go"
              refine i_dec (fun z => absurd z (by omega)) (fun _ => ?_)
              walk_at "go"
              refine i_dec (fun _ => ?_) (fun z => absurd (show (0 : Int) < _ by omega) z)
              walk_at "go"
              refine i_appAt hL3 ?_
              walk_at "go"
              refine ⟨_, d, rfl, w3.dr, fun c H3 dr3 hc' => ?_⟩
              have w4 := w3.draws dr3
              walk_at "go"
              refine i_new (by show 2 ≤ 100000; omega) fun q5 nq => ?_
              have w5 := w4.new (o := .tup [.int ((0 : Nat) : Int), S [c]]) nq
              walk_at "go"
              refine i_appEnd w5.list (by omega) ?_
              exact plain 0 c _ q5 _ w5 (w4.sub.free nq) (.inl rfl) hc' (by omega)
          all_goals
            have hL3 := w3.list
            walk_at "go"
            refine i_dec (fun _ => ?_) (fun z => absurd a1 z)
            walk_at "go"
            refine i_dec (fun z => absurd z (by omega)) (fun _ => ?_)
            walk_at "go"
            refine i_dec (fun _ => ?_) (fun z => absurd (show (0 : Int) < _ by omega) z)
            walk_at "go"
            refine i_appAt hL3 ?_
            walk_at "go"
            refine ⟨_, d, rfl, w3.dr, fun c H3 dr3 hc' => ?_⟩
            have w4 := w3.draws dr3
            walk_at "go"
            refine i_new (by show 2 ≤ 100000; omega) fun q5 nq => ?_
            have w5 := w4.new (o := .tup [.int ((0 : Nat) : Int), S [c]]) nq
            walk_at "go"
            refine i_appEnd w5.list (by omega) ?_
            exact plain 0 c _ q5 _ w5 (w4.sub.free nq) (.inl rfl) hc' (by omega)
        · walk_at "go"
          refine i_dec (fun _ => ?_) (fun z => absurd a1 z)
          walk_at "go"
          refine i_dec (fun a3 => ?_) (fun a3 => ?_)
          · walk_at "go"
            refine i_appAt hL3 ?_
            walk_at "go"
            refine ⟨23, (Rm : Int) - (used : Int) - 1, rfl, ?_⟩
            obtain ⟨m, hm, m1, m2, m3⟩ : ∃ m : Int, (if (Rm : Int) - (used : Int) - 1 < 23 then (Rm : Int) - (used : Int) - 1 else 23) = m ∧ 1 ≤ m ∧ m ≤ 23 ∧ m ≤ (Rm : Int) - (used : Int) - 1 := ⟨_, rfl, by split <;> omega, by split <;> omega, by split <;> omega⟩
            rw [hm]
            walk_at "go"
            refine ⟨_, d, m, rfl, rfl, w3.dr, by omega, fun y H3 dr3 b3 => ?_⟩
            have y0 := b3.1
            have y1 := b3.2.1
            have y2 := b3.2.2
            obtain ⟨y, rfl⟩ : ∃ y' : Nat, y = (y' : Int) := ⟨y.toNat, by omega⟩
            have hy : 2 + y + used ≤ Rm := by omega
            walk_at "go"
            refine ⟨_, d, rfl, dr3, fun c H4 dr4 hc' => ?_⟩
            have w4 := w3.draws dr4
            walk_at "go"
            refine i_new (by show 2 ≤ 100000; omega) fun q5 nq => ?_
            have w5 := w4.new (o := .tup [.int ((2 + y : Nat) : Int), S [c]]) nq
            walk_at "go"
            refine i_appEnd w5.list (by omega) ?_
            exact plain (2 + y) c _ q5 _ w5 (w4.sub.free nq) (.inr ⟨by omega, by omega⟩) hc' (by omega)
          · walk_at "go"
            refine i_dec (fun _ => ?_) (fun z => absurd (show (0 : Int) < _ by omega) z)
            walk_at "go"
            refine i_appAt hL3 ?_
            walk_at "go"
            refine ⟨_, d, rfl, w3.dr, fun c H3 dr3 hc' => ?_⟩
            have w4 := w3.draws dr3
            walk_at "go"
            refine i_new (by show 2 ≤ 100000; omega) fun q5 nq => ?_
            have w5 := w4.new (o := .tup [.int ((0 : Nat) : Int), S [c]]) nq
            walk_at "go"
            refine i_appEnd w5.list (by omega) ?_
            exact plain 0 c _ q5 _ w5 (w4.sub.free nq) (.inl rfl) hc' (by omega)
      · have hL3 := w3.list
        walk_at "go"
        refine i_dec (fun z => absurd z a1) (fun _ => ?_)
        walk_at "go"
        refine i_dec (fun a2 => ?_) (fun a2 => ?_)
        · walk_at "go"
          refine i_appAt hL3 ?_
          walk_at "go"
          refine ⟨_, d, rfl, w3.dr, fun c H3 dr3 hc' => ?_⟩
          have w4 := w3.draws dr3
          walk_at "go"
          refine i_new (by show 2 ≤ 100000; omega) fun q5 nq => ?_
          have w5 := w4.new (o := .tup [.int ((0 : Nat) : Int), S [c]]) nq
          walk_at "go"
          refine i_appEnd w5.list (by omega) ?_
          exact plain 0 c _ q5 _ w5 (w4.sub.free nq) (.inl rfl) hc' (by omega)
        · walk_at "go"
          have ne0 : is ≠ [] := fun z => by
            subst z
            have : (0 : Nat) = used := hu
            omega
          exact ⟨is, Ti + 1, _, rfl, N, vs, w3, hF, hv, by omega, fun _ => ne0, by omega, by omega, by omega⟩
    · rintro σ' H' ⟨is', Tj, v9, rfl, N', vs', w4, hF', hv', hs', hne', t1', t2', t3'⟩
      have hsm' := len_items hv'
      walk_at "go"
      refine c_counts w4.list (hF'.imp fun _ _ h => h.mono (RG_mono e) w4.sub) (by omega) (fun R k => by walk_at "go"; exact k) (fun _ => rfl) (fun x i H2 hi hri s2 QV k => ?_) (fun Dl H2 n2 s2 k => ?_)
      · walk_at "n"
        walk_at "go"
        exact ⟨i, hri, hv' i hi, Nat.le_trans (wIs_item hi) (by omega), k⟩
      · walk_at "go"
        refine k _ ?_
        walk_at "go"
        exact ⟨is', Tj, _, _, _, _, rfl, ⟨N', vs', w4.same s2, hF', hv', hs', hne', t1', t2', t3'⟩, by omega⟩
  · rintro σ' H' ⟨is, Ti, v6, v7, v8, v9, rfl, ⟨N, vs, wz, hF, hv, hs, hne, t1, t2, t3⟩, hi4⟩
    generalize hu : (stIs (stG e) is).1 = used at *
    have hsm := len_items hv
    have en : (1 + n).toNat = 1 + n.toNat := by omega
    rw [en] at t1 t2 t3 hne
    have fin : ∀ (f : Nat) H3 q5, Wz K d H0 t L N vs Ti H3 → H3 q5 = none → (f = 0 ∨ (used ≤ f ∧ f ≤ Rm)) → Q (.ref q5) (upd H3 q5 (.tup [.ref L, .int (f : Int)])) := fun f H3 q5 w nq hf => by
      have w1 := w.close
      have nl := w1.sub.free nq
      refine q (.ref q5) (is, f) _ Ti _ (w1.new (o := .tup [.ref L, .int (f : Int)]) nq) ⟨q5, _, rfl, upd_same, L, vs, rfl, (upd_ne (fun z => by rw [← z, upd_same] at nl; cases nl)).trans upd_same, hF.imp fun _ _ h => h.mono (RG_mono e) ((same_upd w.ln).trans (same_upd nl))⟩ ⟨hne (by omega), hv, ?_⟩ ?_ (by omega) (by omega) ?_
      · show f = 0 ∨ ((stIs (stG e) is).1 ≤ f ∧ f ≤ 24)
        omega
      · unfold stP
        dsimp only
        split
        · show f ≤ Rm; omega
        · rw [hu]; exact hs
      · show (wIs (wG e) is).length + 4 ≤ _
        omega
    walk_at "go"
    refine ⟨_, d, 4, rfl, rfl, wz.dr, by decide, fun k H2 dr2 b2 => ?_⟩
    have w2 := wz.draws dr2
    walk_at "go"
    refine i_dec (fun a1 => ?_) (fun a1 => ?_)
    · walk_at "go"
      refine ⟨_, d, (Rm : Int) - (used : Int) + 1, rfl, rfl, dr2, by omega, fun y H3 dr3 b3 => ?_⟩
      have y0 := b3.1
      have y1 := b3.2.1
      have y2 := b3.2.2
      obtain ⟨y, rfl⟩ : ∃ y' : Nat, y = (y' : Int) := ⟨y.toNat, by omega⟩
      walk_at "go"
      refine i_new (by show 2 ≤ 100000; omega) fun q5 nq => ?_
      have := fin (used + y) H3 q5 (w2.draws dr3) nq (.inr ⟨by omega, by omega⟩)
      rw [Int.natCast_add] at this
      exact this
    · walk_at "go"
      refine i_new (by show 2 ≤ 100000; omega) fun q5 nq => ?_
      exact fin 0 H2 q5 w2 nq (.inl rfl)
end
end K04
namespace K04
open PySem PySem.Spec PyProof.Rows L2 Fg
local macro_rules | `(tactic| walk_at "sq") => `(tactic| first
  | assumption
  | exact .inl (.inl (by assumption))
  | exact .inl (.inl upd_same))
local macro_rules | `(tactic| walk_at "st") => `(tactic| first
  | assumption
  | exact .inl (.inl (by assumption))
  | exact .inl (.inl upd_same))
local macro_rules | `(tactic| walk_at "o") => `(tactic| first
  | omega
  | assumption
  | (simp only [List.length_append, List.length_take, List.length_drop, List.length_cons, List.length_nil, List.length_singleton, List.length_map, List.length_range, Int.toNat_natCast] ; omega))
local macro_rules | `(tactic| walk_at "s") => `(tactic| first
  | (with_reducible refine i_seq ?_)
  | (with_reducible refine i_asg ?_)
  | ((with_reducible refine' i_var ?h1 ?_); (case h1 => rfl))
  | (with_reducible refine i_c ?_)
  | ((with_reducible refine' i_gname' ?h1 ?_); (case h1 => (simp only [List.set_cons_zero, List.set_cons_succ]; rfl)))
  | (with_reducible refine i_op ?_)
  | (with_reducible refine i_ifS ?_)
  | (with_reducible refine i_for ?_)
  | (with_reducible refine i_test ?_)
  | (with_reducible refine i_B ?_)
  | (with_reducible refine i_exbl ?_)
  | (with_reducible refine i_exint ?_)
  | (with_reducible refine i_cb ?_)
  | (with_reducible refine i_nil ?_)
  | (with_reducible refine i_cons ?_)
  | (with_reducible refine i_ret ?_)
  | (with_reducible refine i_sl ?_)
  | (with_reducible refine i_nopart ?_)
  | (with_reducible refine i_part ?_)
  | (with_reducible refine i_add_int ?_)
  | (with_reducible refine i_sub ?_)
  | (with_reducible refine i_lt ?_)
  | ((with_reducible refine' i_mod ?h1 ?_); (case h1 => walk_at "o"))
  | ((with_reducible refine' i_fdiv ?h1 ?_); (case h1 => (refine cdiv_small ?_ ?_ <;> walk_at "o")))
  | ((with_reducible refine' i_sl_to ?h1 ?h2 ?_); (case h1 => walk_at "o"); (case h2 => walk_at "o"))
  | ((with_reducible refine' i_sl_from ?h1 ?h2 ?_); (case h1 => walk_at "o"); (case h2 => walk_at "o"))
  | ((with_reducible refine' i_add_str ?h1 ?_); (case h1 => walk_at "o"))
  | ((with_reducible refine' i_mul_int ?h1 ?_); (case h1 => first | (refine mul_small ?_ ?_ <;> walk_at "o") | (refine mul_smallR ?_ ?_ <;> walk_at "o")))
  | (with_reducible refine i_le ?_)
  | (with_reducible refine i_gt ?_)
  | (with_reducible refine i_ge ?_)
  | (with_reducible refine i_eq_int ?_)
  | (with_reducible refine i_eq_str ?_)
  | (with_reducible refine i_ne_int ?_)
  | (with_reducible refine i_ne_str ?_)
  | (with_reducible refine i_eq_bl ?_)
  | (with_reducible refine i_ne_bl ?_)
  | (with_reducible refine i_in_sg ?_)
  | (with_reducible refine i_notIn_sg ?_)
  | (with_reducible refine i_call ?_)
  | (with_reducible refine i_callS ?_)
  | (with_reducible refine i_sp1 ?_)
  | (with_reducible refine i_sp2 ?_)
  | (with_reducible refine i_sp3 ?_)
  | (with_reducible refine i_sp4 ?_)
  | (with_reducible refine i_sp1' ?_)
  | (with_reducible refine i_sp2' ?_)
  | (with_reducible refine i_sp3' ?_)
  | ((with_reducible refine' i_ix_lst ?h1 ?h2 ?_); (case h1 => walk_at "sq"); (case h2 => first | exact atI_nat rfl | rfl))
  | ((with_reducible refine' i_ix_tup ?h1 ?h2 ?_); (case h1 => walk_at "st"); (case h2 => first | exact atI_nat rfl | rfl))
  | (with_reducible refine i_gsub ?_)
  | (with_reducible refine i_par ?_)
  | (with_reducible refine i_lstRg1 ?_)
  | (with_reducible refine i_app ?_)
  | (with_reducible refine i_par2 ?_)
  | ((with_reducible refine' i_aug ?h1 ?_); (case h1 => rfl))
  | (with_reducible refine i_ipI ?_)
  | ((with_reducible refine' i_gtup2 ?h1 ?_); (case h1 => walk_at "st"))
  | (with_reducible refine i_int_bl ?_)
  | (with_reducible refine i_raise ?_)
  | (with_reducible refine i_mkE ?_)
  | (with_reducible refine i_ex1 ?_)
  | (with_reducible refine i_and ?_)
  | (with_reducible refine i_or ?_)
  | (with_reducible refine i_not ?_)
  | (with_reducible refine i_tt ?_)
  | (with_reducible refine i_ff ?_)
  | (with_reducible refine i_nott ?_)
  | (with_reducible refine i_notf ?_)
  | (with_reducible refine i_andV ?_)
  | (with_reducible refine i_orV ?_)
  | (with_reducible refine i_notV ?_)
  | (with_reducible refine i_ifE ?_)
  | (with_reducible refine i_tup ?_)
  | (with_reducible refine i_lst ?_)
  | (with_reducible refine i_un ?_)
  | (with_reducible refine i_neg ?_)
  | (with_reducible refine i_chain ?_)
  | (with_reducible refine i_next ?_)
  | (with_reducible refine i_retN ?_)
  | (with_reducible refine i_drop ?_)
  | (with_reducible refine i_int_int ?_)
  | (with_reducible refine i_abs ?_)
  | (with_reducible refine i_m1c ?_)
  | (with_reducible refine i_is_non ?_)
  | (with_reducible refine i_is_int ?_)
  | (with_reducible refine i_is_bl ?_)
  | (with_reducible refine i_isn_bl ?_)
  | (with_reducible refine i_is_str ?_)
  | (with_reducible refine i_is_ref ?_)
  | (with_reducible refine i_isn_non ?_)
  | (with_reducible refine i_isn_int ?_)
  | (with_reducible refine i_isn_str ?_)
  | (with_reducible refine i_isn_ref ?_)
  | (with_reducible refine i_len_str ?h1 ?_; (case h1 => walk_at "o"))
  | (with_reducible refine i_isi_int_int ?_) | (with_reducible refine i_isi_int_bool ?_) | (with_reducible refine i_isi_int_str ?_) | (with_reducible refine i_isi_int_tuple ?_) | (with_reducible refine i_isi_int_list ?_)
  | (with_reducible refine i_isi_bl_int ?_) | (with_reducible refine i_isi_bl_bool ?_) | (with_reducible refine i_isi_bl_str ?_) | (with_reducible refine i_isi_bl_tuple ?_) | (with_reducible refine i_isi_bl_list ?_)
  | (with_reducible refine i_isi_str_int ?_) | (with_reducible refine i_isi_str_bool ?_) | (with_reducible refine i_isi_str_str ?_) | (with_reducible refine i_isi_str_tuple ?_) | (with_reducible refine i_isi_str_list ?_)
  | (with_reducible refine i_isi_non_int ?_) | (with_reducible refine i_isi_non_bool ?_) | (with_reducible refine i_isi_non_str ?_) | (with_reducible refine i_isi_non_tuple ?_) | (with_reducible refine i_isi_non_list ?_))
local macro_rules | `(tactic| walk_at "go") => `(tactic| (repeat' (walk_at "s")))
local macro_rules | `(tactic| walk_at "n") => `(tactic| simp only [wipe, List.map_cons, List.map_nil, List.set_cons_zero, List.set_cons_succ])
theorem wP_le {G : Type} {wg : G → List Nat} (p : PtG G) : (wP wg p).length ≤ (wIs wg p.1).length + 3 := by
  unfold wP
  rw [List.length_append]
  have := wF_len p.2
  omega
theorem stIs_le {G : Type} {sg : G → Stv} {vg : G → Prop} {p : PtG G} (h : vP sg vg p) : (stIs sg p.1).1 ≤ (stP sg p).1 := by
  obtain ⟨_, _, h⟩ := h
  unfold stP
  split
  · show _ ≤ p.2; omega
  · exact Nat.le_refl _
section
variable {K : PySem.W.Frag} {σ : L2.St} {H : Hp} {Q : VK} {te : TE} {tt : TT} {ta : TA} {j : Nat} {vs : List Nat}
/-- [te for j in range(lo, n) if tt] -/
theorem c_rng2 (lo n : Nat) (ha : ∀ R : List V → Hp → Prop, R [.int (lo : Int), .int (n : Int)] H → ta σ H R) (hn : lo ≤ 100000 ∧ n ≤ 100000) (f : Nat → Bool) (v : Nat → V) (hw : ∀ x, wipe ((wipe σ vs).set j (some x)) vs = wipe σ vs)
    (ht : ∀ i H2, lo + i < n → Same H H2 → ∀ QB : Bool → Hp → Prop, (∀ H3, Same H2 H3 → QB (f i) H3) → tt ((wipe σ vs).set j (some (.int ((lo + i : Nat) : Int)))) H2 QB)
    (he : ∀ i H2, lo + i < n → Same H H2 → f i = true → ∀ QV : VK, (∀ H3, Same H2 H3 → QV (v i) H3) → te ((wipe σ vs).set j (some (.int ((lo + i : Nat) : Int)))) H2 QV)
    (q : ∀ Dl H2, H Dl = none → Same H H2 → H2 Dl = some (.lst (kept f v (n - lo))) → Q (.ref Dl) H2) : tLc (iRng2 ta) (gName j) tt te vs σ H Q := by
  refine ha _ ⟨(lo : Int), (n : Int), rfl, ⟨by omega, by omega, by omega, by omega⟩, fun Dl nD => ?_⟩
  have e : ((n : Int) - (lo : Int)).toNat = n - lo := by omega
  rw [e]
  refine lc_range (Lw H Dl (kept f v)) ⟨nD, same_upd nD, upd_same⟩ (fun i H' hi p => ?_) (fun H' p => q Dl H' p.1 p.2.1 p.2.2)
  rw [← Int.natCast_add]
  exact ⟨hw _, lw_turn p (by omega) (fun H2 s2 => ht i H2 (by omega) s2) (fun H2 s2 => he i H2 (by omega) s2)⟩
end
theorem kept_mem {f : Nat → Bool} {v : Nat → V} {n k : Nat} (h : k < (kept f v n).length) : ∃ i, i < n ∧ f i = true ∧ (kept f v n)[k]? = some (v i) := by
  have hm : (kept f v n)[k] ∈ kept f v n := List.getElem_mem h
  unfold kept at hm
  obtain ⟨i, hi, e⟩ := List.mem_map.mp hm
  obtain ⟨h1, h2⟩ := List.mem_filter.mp hi
  exact ⟨i, List.mem_range.mp h1, h2, by rw [List.getElem?_eq_getElem h]; exact congrArg some e.symm⟩
theorem kept_some {f : Nat → Bool} {v : Nat → V} {n i : Nat} (h : i < n) (hf : f i = true) : 1 ≤ (kept f v n).length := by
  unfold kept
  rw [List.length_map]
  exact List.length_pos_of_mem (List.mem_filter.mpr ⟨List.mem_range.mpr h, hf⟩)
theorem wPs_sum {G : Type} {wg : G → List Nat} : ∀ {ps : List (PtG G)}, ps ≠ [] → (wPs wg ps).length + 1 = (ps.map fun p => (wP wg p).length + 1).sum
  | [], h => absurd rfl h
  | p :: r, _ => by
    rw [wPs_cons, List.length_append, List.map_cons, List.sum_cons]
    have : (r.flatMap fun p => 38 :: wP wg p).length = (r.map fun p => (wP wg p).length + 1).sum := by
      induction r with
      | nil => rfl
      | cons y r ih => rw [List.flatMap_cons, List.length_append, List.length_cons, List.map_cons, List.sum_cons, ih (by simp)]
    omega
theorem stPs_snoc {G : Type} {sg : G → Stv} (ps : List (PtG G)) (p : PtG G) : (stPs sg (ps ++ [p])).1 = Nat.lcm (stPs sg ps).1 (stP sg p).1 := by
  show lcmL ((ps ++ [p]).map (stP sg)) = _
  rw [List.map_append]
  exact lcmL_snoc _ _
theorem stPs_one {G : Type} {sg : G → Stv} (p : PtG G) : (stPs sg [p]).1 = (stP sg p).1 := by
  show Nat.lcm 1 (stP sg p).1 = _
  simp [Nat.lcm]
section
variable {P : Program} {w : World} {K : PySem.W.Frag} {mg : Str → Option Value} {base : Heap} {C_GlimError C_BadText C_TooLong : Addr}
theorem ok_L_room_text (T : Txt K mg C_GlimError C_BadText C_TooLong) (e : Nat) (he : e ≤ 4) (R : OK P w K mg base CX0 (2 * e + 32) "_law_room_part" ["_law_draw_here", "_law_room", "_law_depth", "_law_tally"] (sp4 (p_rpart K e))) :
    OK P w K mg base CX0 (2 * e + 33) "_law_room_text" ["_law_draw_here", "_law_room", "_law_depth", "_law_tally"] (sp4 (p_rtext K e)) := by
  refine OK.mk (k := 2 * e + 32) T.d_L_room_text sc_L_room_text len4 fun f cdv A outer s H vs Q E hr h => ?_
  obtain ⟨x, y, z, u, rfl, h⟩ := h
  refine ⟨_, (pss_cons (ps_set (i := 4) sc_L_room_text.nd rfl (Or.inl rfl) (pe_lst (pa_cons (pe_f R (hr.mono (by omega)) pass0 (pa_cons (pv 0) (pa_cons (pv 1) (pa_cons (pv 2) (pa_cons (pv 3) pa_nil))))) pa_nil))) (pss_cons (ps_for PassesOwn.never rfl (pi_range1 rfl T.b_range (pa_cons (pe_ix (ixK K) (pe_lst (pa_cons pe_int (pa_cons pe_int (pa_cons pe_int (pa_cons pe_int (pa_cons pe_int pa_nil)))))) (pe_f (ok_L_pick (K := K) T) (hr.mono (by omega)) pass0 (pa_cons (pv 0) (pa_cons pe_int pa_nil))) (fun _ _ => rfl)) pa_nil)) (pg_name (i := 5) sc_L_room_text.nd rfl (Or.inl rfl)) (pss_cons (ps_set (i := 6) sc_L_room_text.nd rfl (Or.inr rfl) (pe_f (cnt_ok (K := K) T e (by omega)) (hr.mono (by omega)) pass0 (pa_cons (pv 4) pa_nil))) (pss_one (ps_if (pw_and (pt_cmpR op_ltP (pe_callB (cLen K) (by rfl) T.b_len (by decide +kernel) (pa_cons (pv 3) pa_nil)) pe_int (nomark _)) (pw_and1 (pt_cmpR (opEq K hr.units) (pe_f (ok_L_pick (K := K) T) (hr.mono (by omega)) pass0 (pa_cons (pv 0) (pa_cons pe_int pa_nil))) pe_int (nomark _)))).pt (pss_cons (ps_setLc (i := 7) (own := [("_law_number", 9)]) (g := gName 9) (by rfl) sc_L_room_text.nd rfl rfl (sw_true rfl rfl rfl (by decide +kernel)) (pi_range2 rfl T.b_range (pa_cons pe_int (pa_cons (pe_op (opAdd K) (pv 6) pe_int) pa_nil))) (blkOk_by (own := [("_law_number", 9)]) (N := ["_law_draw_here", "_law_room", "_law_depth", "_law_tally", "_law_parts", "_law_turn", "_law_many", "_law_shorts", "_law_short", "_law_number"]) (sc := (defScope s_L_room_text)) (by decide +kernel)) (fun _ _ _ _ _ => (pg_name (i := 9) sc_L_room_text.nd rfl (Or.inl rfl))) (fun _ _ _ _ _ => (pts_one (pt_cmpR (opEq K hr.units) (pe_op op_modP (pe_callTy call_intP (by rfl) T.b_int (by decide +kernel) (pa_cons (pv 6) pa_nil)) (pv 9)) pe_int (nomark _)))) (fun _ _ _ _ _ => (pv 9))) (pss_cons (ps_set (i := 8) sc_L_room_text.nd rfl (Or.inl rfl) (pe_ix (ixK K) (pv 7) (pe_f (ok_L_pick (K := K) T) (hr.mono (by omega)) pass0 (pa_cons (pv 0) (pa_cons (pe_callB (cLen K) (by rfl) T.b_len (by decide +kernel) (pa_cons (pv 7) pa_nil)) pa_nil))) (fun _ _ => rfl))) (pss_one (ps_expr (peApp K (pv 4) (pa_cons (pe_tup (pa_cons (pe_ix (ixK K) (pe_f R (hr.mono (by omega)) pass0 (pa_cons (pv 0) (pa_cons (pv 8) (pa_cons (pv 2) (pa_cons (pv 3) pa_nil))))) pe_int (fun _ _ => rfl)) (pa_cons (pv 8) pa_nil))) pa_nil)))))) (pss_one (ps_if (pt_cmpR op_ltP (pe_callB (cLen K) (by rfl) T.b_len (by decide +kernel) (pa_cons (pv 3) pa_nil)) pe_int (nomark _)) (pss_one (ps_expr (peApp K (pv 4) (pa_cons (pe_f R (hr.mono (by omega)) pass0 (pa_cons (pv 0) (pa_cons (pe_op op_fdivP (pv 1) (pv 6)) (pa_cons (pv 2) (pa_cons (pv 3) pa_nil))))) pa_nil)))) pss_nil)))))) (pss_one (ps_ret (pv 4))))), ?_⟩
  show (_ : TS) { nx := fun _ H' => Q .non H', rt := Q } [some x, some y, some z, some u, none, none, none, none, none, none] H
  obtain ⟨H0, d, Rm, D, t, T0, rfl, rfl, rfl, rfl, hR1, hR2, hD0, hD, nt, hc, dr, hT, q⟩ := h
  walk_at "go"
  refine ⟨H0, d, Rm, D, t, T0, rfl, rfl, rfl, rfl, hR1, hR2, hD0, hD, nt, hc, dr, hT, fun v p N1 T1 H1 tz1 hp1 hv1 hs1 g1 g2 g3 => ?_⟩
  walk_at "go"
  refine i_new (by show 1 ≤ 100000; omega) fun L nL => ?_
  have w0 := tz1.open (vs := [v]) nL
  walk_at "go"
  refine i_forR ?_
  walk_at "go"
  refine i_new (by show 5 ≤ 100000; omega) fun p5 np => ?_
  have w1 := w0.same (same_upd (o := .lst [.int 0, .int 0, .int 0, .int 1, .int 2]) np)
  walk_at "go"
  refine ⟨_, d, 5, rfl, rfl, w0.dr.new (o := .lst [.int 0, .int 0, .int 0, .int 1, .int 2]) np, by decide, fun n H2 dr3 b3 => ?_⟩
  have b0 := b3.1
  have b1 := b3.2.1 (by decide)
  have key : ∃ m : Int, [V.int 0, V.int 0, V.int 0, V.int 1, V.int 2][n.toNat]? = some (.int m) ∧ 0 ≤ m ∧ m ≤ 2 := by
    have hn : n.toNat = 0 ∨ n.toNat = 1 ∨ n.toNat = 2 ∨ n.toNat = 3 ∨ n.toNat = 4 := by omega
    rcases hn with h | h | h | h | h <;> rw [h] <;> exact ⟨_, rfl, by decide, by decide⟩
  obtain ⟨m, hm, m1, m2⟩ := key
  refine i_ix_lst (v := .int m) (.inl (.inl (dr3.old upd_same))) (atI_int b0 hm) ?_
  have w2 := w0.draws (dr3.less w0.dr.cells (w0.dr.free np))
  walk_at "go"
  refine i_rngD m1 (by omega) (fun i σ' H' => ∃ (ps : List (PtG (Gr e))) (Ti : Nat) (N : Hp) (vs : List V) (v5 v6 v7 v8 : Option V), σ' = [some (.ref d.a), some (.int (Rm : Int)), some (.int D), some (.ref t), some (.ref L), v5, v6, v7, v8, none] ∧ Wz K d H0 t L N vs Ti H' ∧ F2 (RP (RG e) N) vs ps ∧ vPs (stG e) (vG e) ps ∧ (stPs (stG e) ps).1 ≤ Rm ∧ T0 < Ti ∧ Ti ≤ max T0 39 + 4 * (e + 1) ∧ (wPs (wG e) ps).length + 1 ≤ 9 * (Ti - T0) ∧ ps.length ≤ 10 + i ∧ i ≤ 100) ⟨[p], T1, N1, [v], _, _, _, _, rfl, w2, .cons hp1 .nil, ⟨by simp, fun x hx => by rw [List.mem_singleton.mp hx]; exact hv1⟩, by rw [stPs_one]; exact hs1, g1, g2, by rw [wPs_sum (by simp)]; have := wP_le (wg := wG e) p; simp only [List.map_cons, List.map_nil, List.sum_cons, List.sum_nil]; omega, by simp, by omega⟩ ?_ ?_
  · rintro i σ' H' hi ⟨ps, Ti, N, vs, v5, v6, v7, v8, rfl, wz, hF, hv, hs, t1, t2, t3, t4, t5⟩
    have hpos := (stPs_pos (stG_pos e) hv).1
    walk_at "go"
    refine ⟨ps, ⟨L, vs, rfl, wz.list, hF.imp fun _ _ h => h.mono (RG_mono e) wz.sub⟩, hv, by omega, fun H3 s3 => ?_⟩
    generalize hmany : (stPs (stG e) ps).1 = many at *
    have w3 := wz.same s3
    walk_at "go"
    refine i_len_lst (.inl (.inl w3.tally)) ?_
    walk_at "go"
    rw [show (ones Ti).length = Ti from List.length_replicate]
    -- one part more
    have more : ∀ (v : V) (p : PtG (Gr e)) N2 T2 H4, Wz K d H0 t L (un N N2) vs T2 H4 → Nw N N2 → RP (RG e) (un N N2) v p → vP (stG e) (vG e) p → Nat.lcm many (stP (stG e) p).1 ≤ Rm → Ti < T2 → T2 ≤ max T0 39 + 4 * (e + 1) → (wP (wG e) p).length + 1 ≤ 9 * (T2 - Ti) → ∀ v5 v6 v7 v8, ∃ (ps' : List (PtG (Gr e))) (Tj : Nat) (N : Hp) (vs' : List V) (v5' v6' v7' v8' : Option V), ([some (.ref d.a), some (.int (Rm : Int)), some (.int D), some (.ref t), some (.ref L), v5, v6, v7, v8, none] : L2.St) = [some (.ref d.a), some (.int (Rm : Int)), some (.int D), some (.ref t), some (.ref L), v5', v6', v7', v8', none] ∧ Wz K d H0 t L N vs' Tj (upd H4 L (.lst (vs ++ [v]))) ∧ F2 (RP (RG e) N) vs' ps' ∧ vPs (stG e) (vG e) ps' ∧ (stPs (stG e) ps').1 ≤ Rm ∧ T0 < Tj ∧ Tj ≤ max T0 39 + 4 * (e + 1) ∧ (wPs (wG e) ps').length + 1 ≤ 9 * (Tj - T0) ∧ ps'.length ≤ 10 + (i + 1) ∧ i + 1 ≤ 100 := fun v p N2 T2 H4 w nw hp hvp hl g1 g2 g3 v5 v6 v7 v8 => by
      refine ⟨ps ++ [p], T2, _, _, v5, v6, v7, v8, rfl, w.lset (vs' := vs ++ [v]), (hF.imp fun _ _ h => h.mono (RG_mono e) un_same).snoc hp, ⟨by simp, fun x hx => ?_⟩, by rw [stPs_snoc, hmany]; exact hl, by omega, g2, ?_, by rw [List.length_append]; show ps.length + 1 ≤ _; omega, by omega⟩
      · rcases List.mem_append.mp hx with hx | hx
        · exact hv.2 x hx
        · rw [List.mem_singleton.mp hx]; exact hvp
      · rw [wPs_sum hv.1] at t3
        rw [wPs_sum (by simp), List.map_append, List.sum_append]
        simp only [List.map_cons, List.map_nil, List.sum_cons, List.sum_nil]
        omega
    have hcL : SqL K (upd (un H0 N) L (.lst vs)) d.c (d.ns.map V.int) := (same_upd w3.unL).seq (un_same.seq hc)
    have ntL : (upd (un H0 N) L (.lst vs)) t = none := by rw [upd_ne (Ne.symm w3.ne)]; exact w3.unT
    have hlen := hF.len
    refine i_dec (fun a1 => ?_) (fun a1 => ?_)
    · walk_at "go"
      refine ⟨_, d, 2, rfl, rfl, w3.dr, by decide, fun k H4 dr4 _ => ?_⟩
      have w4 := w3.draws dr4
      walk_at "go"
      refine i_dec (fun a2 => ?_) (fun a2 => ?_)
      · -- a short one, filled
        walk_at "go"
        refine c_rng2 1 (many + 1) (fun R k => by walk_at "go"; rw [Int.natCast_add] at k; exact k) ⟨by decide, by omega⟩ (fun i => decide ((many : Int) % ((1 + i : Nat) : Int) = 0)) (fun i => .int ((1 + i : Nat) : Int)) (fun _ => rfl) (fun i H2 hi s2 QB k => ?_) (fun i H2 hi s2 _ QV k => ?_) (fun Dl H5 n5 s5 d5 => ?_)
        · walk_at "n"
          walk_at "go"
          exact k H2 (Same.refl H2)
        · walk_at "n"
          walk_at "go"
          exact k H2 (Same.refl H2)
        · have h1 : 1 ≤ (kept (fun i => decide ((many : Int) % ((1 + i : Nat) : Int) = 0)) (fun i => V.int ((1 + i : Nat) : Int)) (many + 1 - 1)).length := kept_some (i := 0) (by omega) (decide_eq_true (Int.emod_one _))
          have hk := fun k => kept_mem (f := fun i => decide ((many : Int) % ((1 + i : Nat) : Int) = 0)) (v := fun i => V.int ((1 + i : Nat) : Int)) (n := many + 1 - 1) (k := k)
          have hz := kept_len (fun i => decide ((many : Int) % ((1 + i : Nat) : Int) = 0)) (fun i => V.int ((1 + i : Nat) : Int)) (many + 1 - 1)
          generalize kept (fun i => decide ((many : Int) % ((1 + i : Nat) : Int) = 0)) (fun i => V.int ((1 + i : Nat) : Int)) (many + 1 - 1) = ks at *
          walk_at "go"
          refine i_len_lst (.inl (.inl d5)) ?_
          walk_at "go"
          refine ⟨_, d, (ks.length : Int), rfl, rfl, dr4.got n5 s5 d5, by omega, fun x H6 dr6 b6 => ?_⟩
          have x0 := b6.1
          have x1 := b6.2.1
          have x2 := b6.2.2
          obtain ⟨i2, hi2, hf2, hx2⟩ := hk x.toNat (by omega)
          have e6 : H6 Dl = some (.lst ks) := dr6.old upd_same
          refine i_ix_lst (.inl (.inl e6)) (atI_int x0 hx2) ?_
          have w6 := w4.draws (dr6.less dr4.cells (dr4.free n5))
          have hd : (1 + i2) ∣ many := by
            have := of_decide_eq_true hf2
            exact Nat.dvd_of_mod_eq_zero (by omega)
          have hle : 1 + i2 ≤ many := Nat.le_of_dvd hpos hd
          have hL6 := w6.list
          generalize hsh : 1 + i2 = sh at *
          walk_at "go"
          refine i_appAt hL6 ?_
          walk_at "go"
          refine ⟨_, d, sh, D, t, Ti, rfl, rfl, rfl, rfl, by omega, by omega, hD0, hD, ntL, hcL, w6.dr, by omega, fun v p N2 T2 H7 tz ⟨a7, w7, ev, h7, hi7⟩ hvp hle7 k1 k2 k3 => ?_⟩
          subst ev
          have w8 := w6.call tz.nw tz.tn tz.dr
          have e7 : H7 a7 = some (.tup [w7, .int (p.2 : Int)]) := tz.sub _ _ h7
          walk_at "go"
          refine i_new (by show 2 ≤ 100000; omega) fun q5 nq => ?_
          have nN2 := tz.sub.free nq
          have w9 := w8.new (o := .tup [w7, .int (sh : Int)]) nq
          walk_at "go"
          refine i_appEnd w9.list (by omega) ?_
          have nu := w8.sub.free nq
          have hu : un N (upd N2 q5 (.tup [w7, .int (sh : Int)])) = upd (un N N2) q5 (.tup [w7, .int (sh : Int)]) := un_updR (un_free nu).1
          rw [← hu] at w9
          have hs2 := stIs_le hvp
          have hst : (stP (stG e) (p.1, sh)).1 = sh := by unfold stP; rw [if_pos (by show 0 < sh; omega)]; rfl
          refine more (.ref q5) (p.1, sh) _ T2 _ w9 (tz.nw.less.out.upd (un_free nu).1) ⟨q5, w7, rfl, by rw [hu, upd_same], hi7.mono (RG_mono e) (by rw [hu]; exact (Wz.sub1 tz.nw).trans (same_upd nu))⟩ ⟨hvp.1, hvp.2.1, .inr ⟨by show (stIs (stG e) p.1).1 ≤ sh; omega, by show sh ≤ 24; omega⟩⟩ ?_ k1 (by omega) ?_ _ _ _ _
          · rw [hst]
            exact Nat.le_trans (Nat.le_of_dvd hpos (Nat.lcm_dvd (Nat.dvd_refl _) hd)) hs
          · have := wP_le (wg := wG e) (p.1, sh)
            dsimp only at this
            omega
      · have hL4 := w4.list
        walk_at "go"
        refine i_len_lst (.inl (.inl w4.tally)) ?_
        walk_at "go"
        rw [show (ones Ti).length = Ti from List.length_replicate]
        refine i_dec (fun _ => ?_) (fun z => absurd a1 z)
        walk_at "go"
        refine i_appAt hL4 ?_
        walk_at "go"
        have hdiv : ((Rm : Int) / (many : Int)) = ((Rm / many : Nat) : Int) := by rw [Int.natCast_ediv]
        have hd1 : 1 ≤ Rm / many := (Nat.one_le_div_iff hpos).mpr hs
        have hd2 : Rm / many ≤ Rm := Nat.div_le_self _ _
        have hd3 : many * (Rm / many) ≤ Rm := Nat.mul_div_le _ _
        rw [hdiv]
        refine ⟨_, d, Rm / many, D, t, Ti, rfl, rfl, rfl, rfl, hd1, by omega, hD0, hD, ntL, hcL, w4.dr, by omega, fun v p N2 T2 H7 tz hp hvp hle7 k1 k2 k3 => ?_⟩
        have w8 := w4.call tz.nw tz.tn tz.dr
        walk_at "go"
        refine i_appEnd w8.list (by omega) ?_
        refine more v p _ T2 _ w8 tz.nw.less.out (hp.mono (RG_mono e) (Wz.sub1 tz.nw)) hvp ?_ k1 (by omega) ?_ _ _ _ _
        · exact Nat.le_trans (Nat.le_trans (lcm_le_mul hpos (stP_pos (stG_pos e) hvp).1) (Nat.mul_le_mul_left _ hle7)) hd3
        · have := wP_le (wg := wG e) p
          omega
    · walk_at "go"
      refine i_len_lst (.inl (.inl w3.tally)) ?_
      walk_at "go"
      rw [show (ones Ti).length = Ti from List.length_replicate]
      refine i_dec (fun z => absurd z a1) (fun _ => ?_)
      walk_at "go"
      exact ⟨ps, Ti, N, vs, _, _, _, _, rfl, w3, hF, hv, by omega, t1, t2, t3, by omega, by omega⟩
  · rintro σ' H' ⟨ps, Ti, N, vs, v5, v6, v7, v8, rfl, wz, hF, hv, hs, t1, t2, t3, t4, t5⟩
    walk_at "go"
    exact q _ ps _ Ti H' wz.close ⟨L, vs, rfl, upd_same, hF.imp fun _ _ h => h.mono (RG_mono e) (same_upd wz.ln)⟩ hv hs t1 t2 t3
end
end K04
namespace K04
open PySem PySem.Spec PyProof.Rows L2 Fg
local macro_rules | `(tactic| walk_at "sq") => `(tactic| first
  | assumption
  | exact .inl (.inl (by assumption))
  | exact .inl (.inl upd_same))
local macro_rules | `(tactic| walk_at "st") => `(tactic| first
  | assumption
  | exact .inl (.inl (by assumption))
  | exact .inl (.inl upd_same))
local macro_rules | `(tactic| walk_at "o") => `(tactic| first
  | omega
  | assumption
  | (simp only [List.length_append, List.length_take, List.length_drop, List.length_cons, List.length_nil, List.length_singleton, List.length_map, List.length_range, Int.toNat_natCast] ; omega))
local macro_rules | `(tactic| walk_at "s") => `(tactic| first
  | (with_reducible refine i_seq ?_)
  | (with_reducible refine i_asg ?_)
  | ((with_reducible refine' i_var ?h1 ?_); (case h1 => rfl))
  | (with_reducible refine i_c ?_)
  | ((with_reducible refine' i_gname' ?h1 ?_); (case h1 => (simp only [List.set_cons_zero, List.set_cons_succ]; rfl)))
  | (with_reducible refine i_op ?_)
  | (with_reducible refine i_ifS ?_)
  | (with_reducible refine i_for ?_)
  | (with_reducible refine i_test ?_)
  | (with_reducible refine i_B ?_)
  | (with_reducible refine i_exbl ?_)
  | (with_reducible refine i_exint ?_)
  | (with_reducible refine i_cb ?_)
  | (with_reducible refine i_nil ?_)
  | (with_reducible refine i_cons ?_)
  | (with_reducible refine i_ret ?_)
  | (with_reducible refine i_sl ?_)
  | (with_reducible refine i_nopart ?_)
  | (with_reducible refine i_part ?_)
  | (with_reducible refine i_add_int ?_)
  | (with_reducible refine i_sub ?_)
  | (with_reducible refine i_lt ?_)
  | ((with_reducible refine' i_mod ?h1 ?_); (case h1 => walk_at "o"))
  | ((with_reducible refine' i_fdiv ?h1 ?_); (case h1 => (refine cdiv_small ?_ ?_ <;> walk_at "o")))
  | ((with_reducible refine' i_sl_to ?h1 ?h2 ?_); (case h1 => walk_at "o"); (case h2 => walk_at "o"))
  | ((with_reducible refine' i_sl_from ?h1 ?h2 ?_); (case h1 => walk_at "o"); (case h2 => walk_at "o"))
  | ((with_reducible refine' i_add_str ?h1 ?_); (case h1 => walk_at "o"))
  | ((with_reducible refine' i_mul_int ?h1 ?_); (case h1 => first | (refine mul_small ?_ ?_ <;> walk_at "o") | (refine mul_smallR ?_ ?_ <;> walk_at "o")))
  | (with_reducible refine i_le ?_)
  | (with_reducible refine i_gt ?_)
  | (with_reducible refine i_ge ?_)
  | (with_reducible refine i_eq_int ?_)
  | (with_reducible refine i_eq_str ?_)
  | (with_reducible refine i_ne_int ?_)
  | (with_reducible refine i_ne_str ?_)
  | (with_reducible refine i_eq_bl ?_)
  | (with_reducible refine i_ne_bl ?_)
  | (with_reducible refine i_in_sg ?_)
  | (with_reducible refine i_notIn_sg ?_)
  | (with_reducible refine i_call ?_)
  | (with_reducible refine i_callS ?_)
  | (with_reducible refine i_sp1 ?_)
  | (with_reducible refine i_sp2 ?_)
  | (with_reducible refine i_sp3 ?_)
  | (with_reducible refine i_sp4 ?_)
  | (with_reducible refine i_sp1' ?_)
  | (with_reducible refine i_sp2' ?_)
  | (with_reducible refine i_sp3' ?_)
  | ((with_reducible refine' i_ix_lst ?h1 ?h2 ?_); (case h1 => walk_at "sq"); (case h2 => first | exact atI_nat rfl | rfl))
  | ((with_reducible refine' i_ix_tup ?h1 ?h2 ?_); (case h1 => walk_at "st"); (case h2 => first | exact atI_nat rfl | rfl))
  | (with_reducible refine i_gsub ?_)
  | (with_reducible refine i_par ?_)
  | (with_reducible refine i_lstRg1 ?_)
  | (with_reducible refine i_app ?_)
  | (with_reducible refine i_par2 ?_)
  | ((with_reducible refine' i_aug ?h1 ?_); (case h1 => rfl))
  | (with_reducible refine i_ipI ?_)
  | ((with_reducible refine' i_gtup2 ?h1 ?_); (case h1 => walk_at "st"))
  | (with_reducible refine i_int_bl ?_)
  | (with_reducible refine i_raise ?_)
  | (with_reducible refine i_mkE ?_)
  | (with_reducible refine i_ex1 ?_)
  | (with_reducible refine i_and ?_)
  | (with_reducible refine i_or ?_)
  | (with_reducible refine i_not ?_)
  | (with_reducible refine i_tt ?_)
  | (with_reducible refine i_ff ?_)
  | (with_reducible refine i_nott ?_)
  | (with_reducible refine i_notf ?_)
  | (with_reducible refine i_andV ?_)
  | (with_reducible refine i_orV ?_)
  | (with_reducible refine i_notV ?_)
  | (with_reducible refine i_ifE ?_)
  | (with_reducible refine i_tup ?_)
  | (with_reducible refine i_lst ?_)
  | (with_reducible refine i_un ?_)
  | (with_reducible refine i_neg ?_)
  | (with_reducible refine i_chain ?_)
  | (with_reducible refine i_next ?_)
  | (with_reducible refine i_retN ?_)
  | (with_reducible refine i_drop ?_)
  | (with_reducible refine i_int_int ?_)
  | (with_reducible refine i_abs ?_)
  | (with_reducible refine i_m1c ?_)
  | (with_reducible refine i_is_non ?_)
  | (with_reducible refine i_is_int ?_)
  | (with_reducible refine i_is_bl ?_)
  | (with_reducible refine i_isn_bl ?_)
  | (with_reducible refine i_is_str ?_)
  | (with_reducible refine i_is_ref ?_)
  | (with_reducible refine i_isn_non ?_)
  | (with_reducible refine i_isn_int ?_)
  | (with_reducible refine i_isn_str ?_)
  | (with_reducible refine i_isn_ref ?_)
  | (with_reducible refine i_len_str ?h1 ?_; (case h1 => walk_at "o"))
  | (with_reducible refine i_isi_int_int ?_) | (with_reducible refine i_isi_int_bool ?_) | (with_reducible refine i_isi_int_str ?_) | (with_reducible refine i_isi_int_tuple ?_) | (with_reducible refine i_isi_int_list ?_)
  | (with_reducible refine i_isi_bl_int ?_) | (with_reducible refine i_isi_bl_bool ?_) | (with_reducible refine i_isi_bl_str ?_) | (with_reducible refine i_isi_bl_tuple ?_) | (with_reducible refine i_isi_bl_list ?_)
  | (with_reducible refine i_isi_str_int ?_) | (with_reducible refine i_isi_str_bool ?_) | (with_reducible refine i_isi_str_str ?_) | (with_reducible refine i_isi_str_tuple ?_) | (with_reducible refine i_isi_str_list ?_)
  | (with_reducible refine i_isi_non_int ?_) | (with_reducible refine i_isi_non_bool ?_) | (with_reducible refine i_isi_non_str ?_) | (with_reducible refine i_isi_non_tuple ?_) | (with_reducible refine i_isi_non_list ?_))
local macro_rules | `(tactic| walk_at "go") => `(tactic| (repeat' (walk_at "s")))
local macro_rules | `(tactic| walk_at "n") => `(tactic| simp only [wipe, List.map_cons, List.map_nil, List.set_cons_zero, List.set_cons_succ])
/-! ### what is new beside what stands -/
structure Yz (K : PySem.W.Frag) (d : Dd) (H0 N H : Hp) : Prop where
  nw : Nw H0 N
  dr : Dr K d (un H0 N) H
section
variable {K : PySem.W.Frag} {d : Dd} {H0 N N2 H H' : Hp} {t q : Addr} {T : Nat} (o : HO)
theorem Yz.start (dr : Dr K d H0 H) : Yz K d H0 emp H := ⟨nw_emp, by rw [un_emp]; exact dr⟩
theorem Yz.add (h : Yz K d H0 N H) (n : H q = none) : ∃ N', Same N N' ∧ N' q = some o ∧ Yz K d H0 N' (upd H q o) := by
  obtain ⟨f0, fn⟩ := un_free (h.dr.free n)
  exact ⟨upd N q o, same_upd fn, upd_same, h.nw.upd f0, by rw [un_updR f0]; exact h.dr.new n⟩
theorem Yz.draws (h : Yz K d H0 N H) (dr : Dr K d (un H0 N) H') : Yz K d H0 N H' := ⟨h.nw, dr⟩
theorem Yz.same (h : Yz K d H0 N H) (s : Same H H') : Yz K d H0 N H' := ⟨h.nw, h.dr.same s⟩
theorem Yz.sub (h : Yz K d H0 N H) : Same N H := (un_new h.nw).trans h.dr.1
theorem Yz.tally (h : Yz K d H0 N H) (n : H t = none) : un H0 N t = none ∧ Dr K d (upd (un H0 N) t (.lst (ones 0))) (upd H t (.lst [])) := ⟨h.dr.free n, h.dr.new n⟩
theorem Tz.toY (h : Tz K d (un H0 N) t N2 T H) (nw : Nw H0 N) : Yz K d H0 (un N N2) H :=
  ⟨nw.more h.nw, by rw [← un_assoc]; exact h.dr.less (un_same.seq h.hc) (un_none h.t0 h.tn)⟩
end
/-- a list of items; a text of parts -/
def ItS (K : PySem.W.Frag) (d : Dd) (H0 : Hp) (e X : Nat) (v : V) (H : Hp) : Prop := ∃ N, ∃ is : List (ItG (Gr e)), Yz K d H0 N H ∧ RIs (RG e) N v is ∧ is ≠ [] ∧ (∀ i ∈ is, vI (vG e) i) ∧ (wIs (wG e) is).length ≤ X
def PsS (K : PySem.W.Frag) (d : Dd) (H0 : Hp) (e X : Nat) (v : V) (H : Hp) : Prop := ∃ N, ∃ ps : List (PtG (Gr e)), Yz K d H0 N H ∧ RPs (RG e) N v ps ∧ vPs (stG e) (vG e) ps ∧ (wPs (wG e) ps).length ≤ X
theorem wPs_one {G : Type} {wg : G → List Nat} (is : List (ItG G)) : wPs wg [(is, 0)] = wIs wg is := by
  show wIs wg is ++ wF 0 = _
  rw [wF_zero, List.append_nil]
/-- [(items, 0)] -/
theorem ItS.one {K : PySem.W.Frag} {d : Dd} {H0 H : Hp} {e X : Nat} {v : V} {q1 q2 : Addr} (h : ItS K d H0 e X v H) (n1 : H q1 = none) (n2 : upd H q1 (.tup [v, .int 0]) q2 = none) : PsS K d H0 e X (.ref q2) (upd (upd H q1 (.tup [v, .int 0])) q2 (.lst [.ref q1])) := by
  obtain ⟨N, is, y, hr, hne, hv, hl⟩ := h
  obtain ⟨N1, s1, e1, y1⟩ := y.add (.tup [v, .int 0]) n1
  obtain ⟨N2, s2, e2, y2⟩ := y1.add (.lst [.ref q1]) n2
  refine ⟨N2, [(is, 0)], y2, ⟨q2, _, rfl, e2, .cons ⟨q1, v, rfl, s2 _ _ e1, hr.mono (RG_mono e) (s1.trans s2)⟩ .nil⟩, ⟨by simp, fun p hp => ?_⟩, by rw [wPs_one]; exact hl⟩
  rw [List.mem_singleton.mp hp]
  exact ⟨hne, hv, .inl rfl⟩
section
variable {P : Program} {w : World} {K : PySem.W.Frag} {mg : Str → Option Value} {base : Heap} {C_GlimError C_BadText C_TooLong : Addr}
theorem rooms_all (T : Txt K mg C_GlimError C_BadText C_TooLong) : ∀ e, e ≤ 5 → OK P w K mg base CX0 (2 * e + 31) "_law_room_text" ["_law_draw_here", "_law_room", "_law_depth", "_law_tally"] (sp4 (p_rtextD K e))
  | 0, _ => by
    refine OK.mk (k := 30) T.d_L_room_text sc_L_room_text len4 fun f cdv A outer s H vs Q E hr h => ?_
    obtain ⟨x, y, z, u, rfl, h⟩ := h
    exact h.elim
  | e + 1, he => ok_L_room_text T e (by omega) (ok_L_room_part T e (by omega) (rooms_all T e (by omega)))
theorem rpart_ok (T : Txt K mg C_GlimError C_BadText C_TooLong) (e : Nat) (he : e ≤ 4) : OK P w K mg base CX0 (2 * e + 32) "_law_room_part" ["_law_draw_here", "_law_room", "_law_depth", "_law_tally"] (sp4 (p_rpart K e)) := ok_L_room_part T e he (rooms_all T e (by omega))
theorem rtext_ok (T : Txt K mg C_GlimError C_BadText C_TooLong) (e : Nat) (he : e ≤ 4) : OK P w K mg base CX0 (2 * e + 33) "_law_room_text" ["_law_draw_here", "_law_room", "_law_depth", "_law_tally"] (sp4 (p_rtext K e)) := rooms_all T (e + 1) (by omega)
def p_edge (K : PySem.W.Frag) : P1 := fun x H Q _ => ∃ (H0 : Hp) (d : Dd), x = .ref d.a ∧ Dr K d H0 H ∧ ∀ v H', PsS K d H0 4 1000 v H' → Q v H'
theorem ok_L_edge_text (T : Txt K mg C_GlimError C_BadText C_TooLong) : OK P w K mg base CX0 41 "_law_edge_text" ["_law_draw_here"] (sp1  (p_edge K)) := by
  refine OK.mk (k := 40) T.d_L_edge_text sc_L_edge_text len1 fun f cdv A outer s H vs Q E hr h => ?_
  obtain ⟨x, rfl, h⟩ := h
  refine ⟨_, (pss_cons (ps_set (i := 1) sc_L_edge_text.nd rfl (Or.inl rfl) (pe_ix (ixK K) (pe_f (rpart_ok (K := K) T 4 (by decide)) (hr.mono (by decide)) pass0 (pa_cons (pv 0) (pa_cons pe_int (pa_cons pe_int (pa_cons (pe_lst pa_nil) pa_nil))))) pe_int (fun _ _ => rfl))) (pss_cons (ps_set (i := 2) sc_L_edge_text.nd rfl (Or.inl rfl) (pe_op op_subP (pe_op (opAdd K) pe_int (pe_f (ok_L_pick (K := K) T) (hr.mono (by decide)) pass0 (pa_cons (pv 0) (pa_cons pe_int pa_nil)))) (pe_callB (cSum K rfl) (by rfl) T.b_sum (by decide +kernel) (pa_cons (pe_lc (own := [("_law_item", 3)]) (g := gName 3) (tt := tYes) (by rfl) sc_L_edge_text.nd (piAny K (pv 1)) (blkOk_by (own := [("_law_item", 3)]) (N := ["_law_draw_here", "_law_items", "_law_left", "_law_item"]) (sc := (defScope s_L_edge_text)) (by decide +kernel)) (fun _ _ _ _ _ => (pg_name (i := 3) sc_L_edge_text.nd rfl (Or.inl rfl))) (fun _ _ _ _ _ => pts_nil) (fun _ _ _ _ _ => (pe_f (icnt_ok (K := K) T 4 (by decide)) (hr.mono (by decide)) pass0 (pa_cons (pv 3) pa_nil)))) pa_nil)))) (pss_cons (ps_if (pt_cmpR (opEq K hr.units) (pv 2) pe_int (nomark _)) (pss_one (ps_ret (pe_lst (pa_cons (pe_tup (pa_cons (pe_op (opAdd K) (pv 1) (pe_lst (pa_cons (pe_tup (pa_cons pe_int (pa_cons (pe_f (ok_L_sign (K := K) T) (hr.mono (by decide)) pass0 (pa_cons (pv 0) pa_nil)) pa_nil))) pa_nil))) (pa_cons pe_int pa_nil))) pa_nil)))) pss_nil) (pss_cons (ps_if (pt_cmpR op_gtP (pv 2) pe_int (nomark _)) (pss_one (ps_ret (pe_lst (pa_cons (pe_tup (pa_cons (pe_op (opAdd K) (pe_lst (pa_cons (pe_tup (pa_cons (pv 2) (pa_cons (pe_f (ok_L_sign (K := K) T) (hr.mono (by decide)) pass0 (pa_cons (pv 0) pa_nil)) pa_nil))) pa_nil)) (pv 1)) (pa_cons pe_int pa_nil))) pa_nil)))) pss_nil) (pss_one (ps_ret (pe_lst (pa_cons (pe_tup (pa_cons (pv 1) (pa_cons pe_int pa_nil))) pa_nil)))))))), ?_⟩
  show (_ : TS) { nx := fun _ H' => Q .non H', rt := Q } [some x, none, none, none] H
  obtain ⟨H0, d, rfl, dr, q⟩ := h
  walk_at "go"
  refine i_new (by show 0 ≤ 100000; omega) fun t nt => ?_
  walk_at "go"
  refine ⟨H0, d, 24, 0, t, 0, rfl, rfl, rfl, rfl, by decide, by decide, by decide, by decide, dr.free nt, dr.cells, dr.new nt, by decide, fun v p N T1 H1 tz ⟨a1, v1, ev, h1, hi1⟩ hvp hle g1 g2 g3 => ?_⟩
  subst ev
  have y1 : Yz K d H0 N H1 := ⟨tz.nw, tz.dr.less (un_same.seq tz.hc) (un_none tz.t0 tz.tn)⟩
  have e1 := y1.sub _ _ h1
  walk_at "go"
  refine ⟨_, d, 2, rfl, rfl, y1.dr, by decide, fun b H2 dr2 b2 => ?_⟩
  have b0 := b2.1
  have bb := b2.2.1 (by decide)
  have y2 := y1.draws dr2
  obtain ⟨is, f⟩ := p
  obtain ⟨b', vs, ev, hb, hF⟩ := hi1
  subst ev
  obtain ⟨hne, hvi, hf⟩ := id hvp
  dsimp only at hne hvi hf hF g3
  have hsm := len_items hvi
  have hw1 : (wIs (wG 4) is).length ≤ 600 := by omega
  have hb2 := y2.sub _ _ hb
  have hu : (stIs (stG 4) is).1 ≤ 24 := Nat.le_trans (stIs_le hvp) hle
  have hu1 := (stIs_len (stG_pos 4) hvi).2 hne
  walk_at "go"
  refine c_counts hb2 (hF.imp fun _ _ h => h.mono (RG_mono 4) y2.sub) (by omega) (fun R k => by walk_at "go"; exact k) (fun _ => rfl) (fun x i H3 hi hri s2 QV k => ?_) (fun Dl H3 n2 s2 k => ?_)
  · walk_at "n"
    walk_at "go"
    exact ⟨i, hri, hvi i hi, Nat.le_trans (wIs_item hi) (by omega), k⟩
  walk_at "go"
  refine k _ ?_
  have y3 := y2.same s2
  have hb3 := y3.sub _ _ hb
  generalize (stIs (stG 4) is).1 = used at *
  have hlen := hF.len
  walk_at "go"
  refine i_dec (fun a1 => ?_) (fun a1 => ?_)
  · walk_at "go"
    refine ⟨_, d, rfl, y3.dr, fun c H4 dr4 hc => ?_⟩
    have y4 := y3.draws dr4
    walk_at "go"
    refine i_new (by show 2 ≤ 100000; omega) fun q1 n1 => ?_
    obtain ⟨N5, s5, e5, y5⟩ := y4.add (.tup [.int 0, S [c]]) n1
    walk_at "go"
    refine i_new (by show 1 ≤ 100000; omega) fun q2 n2 => ?_
    obtain ⟨N6, s6, e6, y6⟩ := y5.add (.lst [.ref q1]) n2
    refine i_catL (y6.sub _ _ (s6 _ _ (s5 _ _ hb))) upd_same (by show vs.length + 1 ≤ _; omega) fun q3 n3 => ?_
    obtain ⟨N7, s7, e7, y7⟩ := y6.add (.lst (vs ++ [.ref q1])) n3
    have it : ItS K d H0 4 1000 (.ref q3) (upd (upd (upd H4 q1 (.tup [.int 0, S [c]])) q2 (.lst [.ref q1])) q3 (.lst (vs ++ [.ref q1]))) := by
      refine ⟨N7, is ++ [.inl (0, c)], y7, ⟨q3, _, rfl, e7, (hF.imp fun _ _ h => h.mono (RG_mono 4) ((s5.trans s6).trans s7)).snoc (show RI (RG 4) N7 (.ref q1) (.inl (0, c)) from ⟨q1, rfl, s7 _ _ (s6 _ _ e5)⟩)⟩, by simp, fun x hx => ?_, ?_⟩
      · rcases List.mem_append.mp hx with hx | hx
        · exact hvi x hx
        · rw [List.mem_singleton.mp hx]; exact ⟨hc, .inl rfl⟩
      · rw [wIs_snoc, List.length_append]
        show _ + 1 ≤ _
        omega
    walk_at "go"
    refine i_new (by show 2 ≤ 100000; omega) fun q4 n4 => ?_
    walk_at "go"
    refine i_new (by show 1 ≤ 100000; omega) fun q5 n5 => ?_
    exact q _ _ (it.one n4 n5)
  walk_at "go"
  refine i_dec (fun a2 => ?_) (fun a2 => ?_)
  · obtain ⟨l, hl, l2⟩ : ∃ l : Nat, (24 : Int) + b - (used : Int) = (l : Int) ∧ 2 ≤ l ∧ l ≤ 24 := ⟨((24 : Int) + b - (used : Int)).toNat, by omega, by omega, by omega⟩
    rw [hl]
    walk_at "go"
    refine ⟨_, d, rfl, y3.dr, fun c H4 dr4 hc => ?_⟩
    have y4 := y3.draws dr4
    walk_at "go"
    refine i_new (by show 2 ≤ 100000; omega) fun q1 n1 => ?_
    obtain ⟨N5, s5, e5, y5⟩ := y4.add (.tup [.int (l : Int), S [c]]) n1
    walk_at "go"
    refine i_new (by show 1 ≤ 100000; omega) fun q2 n2 => ?_
    obtain ⟨N6, s6, e6, y6⟩ := y5.add (.lst [.ref q1]) n2
    walk_at "go"
    refine i_catL upd_same (y6.sub _ _ (s6 _ _ (s5 _ _ hb))) (by show 1 + vs.length ≤ _; omega) fun q3 n3 => ?_
    obtain ⟨N7, s7, e7, y7⟩ := y6.add (.lst ([.ref q1] ++ vs)) n3
    have it : ItS K d H0 4 1000 (.ref q3) (upd (upd (upd H4 q1 (.tup [.int (l : Int), S [c]])) q2 (.lst [.ref q1])) q3 (.lst ([.ref q1] ++ vs))) := by
      refine ⟨N7, .inl (l, c) :: is, y7, ⟨q3, _, rfl, e7, .cons (show RI (RG 4) N7 (.ref q1) (.inl (l, c)) from ⟨q1, rfl, s7 _ _ (s6 _ _ e5)⟩) (hF.imp fun _ _ h => h.mono (RG_mono 4) ((s5.trans s6).trans s7))⟩, by simp, fun x hx => ?_, ?_⟩
      · rcases List.mem_cons.mp hx with rfl | hx
        · exact ⟨hc, .inr l2⟩
        · exact hvi x hx
      · have := wN_len l
        show ((wN l ++ [c]) ++ wIs (wG 4) is).length ≤ _
        simp only [List.length_append, List.length_singleton]
        omega
    walk_at "go"
    refine i_new (by show 2 ≤ 100000; omega) fun q4 n4 => ?_
    walk_at "go"
    refine i_new (by show 1 ≤ 100000; omega) fun q5 n5 => ?_
    exact q _ _ (it.one n4 n5)
  · walk_at "go"
    refine i_new (by show 2 ≤ 100000; omega) fun q4 n4 => ?_
    walk_at "go"
    refine i_new (by show 1 ≤ 100000; omega) fun q5 n5 => ?_
    have it : ItS K d H0 4 1000 (.ref b') H3 := ⟨N, is, y3, ⟨b', vs, rfl, hb, hF⟩, hne, hvi, by omega⟩
    exact q _ _ (it.one n4 n5)
end
end K04
namespace K04
open PySem PySem.Spec PyProof.Rows L2 Fg
local macro_rules | `(tactic| walk_at "sq") => `(tactic| first
  | assumption
  | exact .inl (.inl (by assumption))
  | exact .inl (.inl upd_same))
local macro_rules | `(tactic| walk_at "st") => `(tactic| first
  | assumption
  | exact .inl (.inl (by assumption))
  | exact .inl (.inl upd_same))
local macro_rules | `(tactic| walk_at "o") => `(tactic| first
  | omega
  | assumption
  | (simp only [List.length_append, List.length_take, List.length_drop, List.length_cons, List.length_nil, List.length_singleton, List.length_map, List.length_range, Int.toNat_natCast] ; omega))
local macro_rules | `(tactic| walk_at "s") => `(tactic| first
  | (with_reducible refine i_seq ?_)
  | (with_reducible refine i_asg ?_)
  | ((with_reducible refine' i_var ?h1 ?_); (case h1 => rfl))
  | (with_reducible refine i_c ?_)
  | ((with_reducible refine' i_gname' ?h1 ?_); (case h1 => (simp only [List.set_cons_zero, List.set_cons_succ]; rfl)))
  | (with_reducible refine i_op ?_)
  | (with_reducible refine i_ifS ?_)
  | (with_reducible refine i_for ?_)
  | (with_reducible refine i_test ?_)
  | (with_reducible refine i_B ?_)
  | (with_reducible refine i_exbl ?_)
  | (with_reducible refine i_exint ?_)
  | (with_reducible refine i_cb ?_)
  | (with_reducible refine i_nil ?_)
  | (with_reducible refine i_cons ?_)
  | (with_reducible refine i_ret ?_)
  | (with_reducible refine i_sl ?_)
  | (with_reducible refine i_nopart ?_)
  | (with_reducible refine i_part ?_)
  | (with_reducible refine i_add_int ?_)
  | (with_reducible refine i_sub ?_)
  | (with_reducible refine i_lt ?_)
  | ((with_reducible refine' i_mod ?h1 ?_); (case h1 => walk_at "o"))
  | ((with_reducible refine' i_fdiv ?h1 ?_); (case h1 => (refine cdiv_small ?_ ?_ <;> walk_at "o")))
  | ((with_reducible refine' i_sl_to ?h1 ?h2 ?_); (case h1 => walk_at "o"); (case h2 => walk_at "o"))
  | ((with_reducible refine' i_sl_from ?h1 ?h2 ?_); (case h1 => walk_at "o"); (case h2 => walk_at "o"))
  | ((with_reducible refine' i_add_str ?h1 ?_); (case h1 => walk_at "o"))
  | ((with_reducible refine' i_mul_int ?h1 ?_); (case h1 => first | (refine mul_small ?_ ?_ <;> walk_at "o") | (refine mul_smallR ?_ ?_ <;> walk_at "o")))
  | (with_reducible refine i_le ?_)
  | (with_reducible refine i_gt ?_)
  | (with_reducible refine i_ge ?_)
  | (with_reducible refine i_eq_int ?_)
  | (with_reducible refine i_eq_str ?_)
  | (with_reducible refine i_ne_int ?_)
  | (with_reducible refine i_ne_str ?_)
  | (with_reducible refine i_eq_bl ?_)
  | (with_reducible refine i_ne_bl ?_)
  | (with_reducible refine i_in_sg ?_)
  | (with_reducible refine i_notIn_sg ?_)
  | (with_reducible refine i_call ?_)
  | (with_reducible refine i_callS ?_)
  | (with_reducible refine i_sp1 ?_)
  | (with_reducible refine i_sp2 ?_)
  | (with_reducible refine i_sp3 ?_)
  | (with_reducible refine i_sp4 ?_)
  | (with_reducible refine i_sp1' ?_)
  | (with_reducible refine i_sp2' ?_)
  | (with_reducible refine i_sp3' ?_)
  | ((with_reducible refine' i_ix_lst ?h1 ?h2 ?_); (case h1 => walk_at "sq"); (case h2 => first | exact atI_nat rfl | rfl))
  | ((with_reducible refine' i_ix_tup ?h1 ?h2 ?_); (case h1 => walk_at "st"); (case h2 => first | exact atI_nat rfl | rfl))
  | (with_reducible refine i_gsub ?_)
  | (with_reducible refine i_par ?_)
  | (with_reducible refine i_lstRg1 ?_)
  | (with_reducible refine i_app ?_)
  | (with_reducible refine i_par2 ?_)
  | ((with_reducible refine' i_aug ?h1 ?_); (case h1 => rfl))
  | (with_reducible refine i_ipI ?_)
  | ((with_reducible refine' i_gtup2 ?h1 ?_); (case h1 => walk_at "st"))
  | (with_reducible refine i_int_bl ?_)
  | (with_reducible refine i_raise ?_)
  | (with_reducible refine i_mkE ?_)
  | (with_reducible refine i_ex1 ?_)
  | (with_reducible refine i_and ?_)
  | (with_reducible refine i_or ?_)
  | (with_reducible refine i_not ?_)
  | (with_reducible refine i_tt ?_)
  | (with_reducible refine i_ff ?_)
  | (with_reducible refine i_nott ?_)
  | (with_reducible refine i_notf ?_)
  | (with_reducible refine i_andV ?_)
  | (with_reducible refine i_orV ?_)
  | (with_reducible refine i_notV ?_)
  | (with_reducible refine i_ifE ?_)
  | (with_reducible refine i_tup ?_)
  | (with_reducible refine i_lst ?_)
  | (with_reducible refine i_un ?_)
  | (with_reducible refine i_neg ?_)
  | (with_reducible refine i_chain ?_)
  | (with_reducible refine i_next ?_)
  | (with_reducible refine i_retN ?_)
  | (with_reducible refine i_drop ?_)
  | (with_reducible refine i_int_int ?_)
  | (with_reducible refine i_abs ?_)
  | (with_reducible refine i_m1c ?_)
  | (with_reducible refine i_is_non ?_)
  | (with_reducible refine i_is_int ?_)
  | (with_reducible refine i_is_bl ?_)
  | (with_reducible refine i_isn_bl ?_)
  | (with_reducible refine i_is_str ?_)
  | (with_reducible refine i_is_ref ?_)
  | (with_reducible refine i_isn_non ?_)
  | (with_reducible refine i_isn_int ?_)
  | (with_reducible refine i_isn_str ?_)
  | (with_reducible refine i_isn_ref ?_)
  | (with_reducible refine i_len_str ?h1 ?_; (case h1 => walk_at "o"))
  | (with_reducible refine i_isi_int_int ?_) | (with_reducible refine i_isi_int_bool ?_) | (with_reducible refine i_isi_int_str ?_) | (with_reducible refine i_isi_int_tuple ?_) | (with_reducible refine i_isi_int_list ?_)
  | (with_reducible refine i_isi_bl_int ?_) | (with_reducible refine i_isi_bl_bool ?_) | (with_reducible refine i_isi_bl_str ?_) | (with_reducible refine i_isi_bl_tuple ?_) | (with_reducible refine i_isi_bl_list ?_)
  | (with_reducible refine i_isi_str_int ?_) | (with_reducible refine i_isi_str_bool ?_) | (with_reducible refine i_isi_str_str ?_) | (with_reducible refine i_isi_str_tuple ?_) | (with_reducible refine i_isi_str_list ?_)
  | (with_reducible refine i_isi_non_int ?_) | (with_reducible refine i_isi_non_bool ?_) | (with_reducible refine i_isi_non_str ?_) | (with_reducible refine i_isi_non_tuple ?_) | (with_reducible refine i_isi_non_list ?_))
local macro_rules | `(tactic| walk_at "go") => `(tactic| (repeat' (walk_at "s")))
local macro_rules | `(tactic| walk_at "n") => `(tactic| simp only [wipe, List.map_cons, List.map_nil, List.set_cons_zero, List.set_cons_succ])
section
variable {P : Program} {w : World} {K : PySem.W.Frag} {mg : Str → Option Value} {base : Heap} {C_GlimError C_BadText C_TooLong : Addr}
def p_deep (K : PySem.W.Frag) : P1 := fun x H Q _ => ∃ (H0 : Hp) (d : Dd), x = .ref d.a ∧ Dr K d H0 H ∧ ∀ v e H', e ≤ 6 → PsS K d H0 e 1500 v H' → Q v H'
theorem ok_L_deep_text (T : Txt K mg C_GlimError C_BadText C_TooLong) : OK P w K mg base CX0 42 "_law_deep_text" ["_law_draw_here"] (sp1  (p_deep K)) := by
  refine OK.mk (k := 41) T.d_L_deep_text sc_L_deep_text len1 fun f cdv A outer s H vs Q E hr h => ?_
  obtain ⟨x, rfl, h⟩ := h
  refine ⟨_, (pss_cons (ps_set (i := 1) sc_L_deep_text.nd rfl (Or.inl rfl) (pe_f (rtext_ok (K := K) T 0 (by decide)) (hr.mono (by decide)) pass0 (pa_cons (pv 0) (pa_cons pe_int (pa_cons pe_int (pa_cons (pe_lst pa_nil) pa_nil)))))) (pss_cons (ps_for PassesOwn.never rfl (pi_range1 rfl T.b_range (pa_cons (pe_op (opAdd K) pe_int (pe_f (ok_L_pick (K := K) T) (hr.mono (by decide)) pass0 (pa_cons (pv 0) (pa_cons pe_int pa_nil)))) pa_nil)) (pg_name (i := 2) sc_L_deep_text.nd rfl (Or.inl rfl)) (pss_cons (ps_set (i := 3) sc_L_deep_text.nd rfl (Or.inl rfl) (pe_lst (pa_cons (pe_tup (pa_cons (pe_ix (ixK K) (pe_lst (pa_cons pe_int (pa_cons pe_int (pa_cons pe_int (pa_cons pe_int (pa_cons pe_int pa_nil)))))) (pe_f (ok_L_pick (K := K) T) (hr.mono (by decide)) pass0 (pa_cons (pv 0) (pa_cons pe_int pa_nil))) (fun _ _ => rfl)) (pa_cons (pv 1) pa_nil))) pa_nil))) (pss_cons (ps_set (i := 4) sc_L_deep_text.nd rfl (Or.inl rfl) (pe_f (ok_L_pick (K := K) T) (hr.mono (by decide)) pass0 (pa_cons (pv 0) (pa_cons pe_int pa_nil)))) (Evl.pss_cut (ps_if (pt_cmpR (opEq K hr.units) (pv 4) pe_int (nomark _)) (pss_one (ps_set (i := 3) sc_L_deep_text.nd rfl (Or.inl rfl) (pe_op (opAdd K) (pe_lst (pa_cons (pe_tup (pa_cons pe_int (pa_cons (pe_f (ok_L_sign (K := K) T) (hr.mono (by decide)) pass0 (pa_cons (pv 0) pa_nil)) pa_nil))) pa_nil)) (pv 3)))) pss_nil) (Evl.pss_cut (ps_if (pt_cmpR (opEq K hr.units) (pv 4) pe_int (nomark _)) (pss_one (ps_set (i := 3) sc_L_deep_text.nd rfl (Or.inl rfl) (pe_op (opAdd K) (pv 3) (pe_lst (pa_cons (pe_tup (pa_cons pe_int (pa_cons (pe_f (ok_L_sign (K := K) T) (hr.mono (by decide)) pass0 (pa_cons (pv 0) pa_nil)) pa_nil))) pa_nil))))) pss_nil) (pss_cons (ps_set (i := 1) sc_L_deep_text.nd rfl (Or.inl rfl) (pe_lst (pa_cons (pe_tup (pa_cons (pv 3) (pa_cons pe_int pa_nil))) pa_nil))) (Evl.pss_cut (ps_if (pt_cmpR (opEq K hr.units) (pv 4) pe_int (nomark _)) (pss_one (ps_set (i := 1) sc_L_deep_text.nd rfl (Or.inl rfl) (pe_lst (pa_cons (pe_tup (pa_cons (pe_lst (pa_cons (pe_tup (pa_cons pe_int (pa_cons (pe_f (ok_L_sign (K := K) T) (hr.mono (by decide)) pass0 (pa_cons (pv 0) pa_nil)) pa_nil))) pa_nil)) (pa_cons pe_int pa_nil))) (pa_cons (pe_tup (pa_cons (pv 3) (pa_cons pe_int pa_nil))) pa_nil))))) pss_nil) (pss_one (ps_if (pt_cmpR (opEq K hr.units) (pv 4) pe_int (nomark _)) (pss_one (ps_set (i := 1) sc_L_deep_text.nd rfl (Or.inl rfl) (pe_lst (pa_cons (pe_tup (pa_cons (pv 3) (pa_cons pe_int pa_nil))) (pa_cons (pe_tup (pa_cons (pe_lst (pa_cons (pe_tup (pa_cons pe_int (pa_cons (pe_f (ok_L_sign (K := K) T) (hr.mono (by decide)) pass0 (pa_cons (pv 0) pa_nil)) pa_nil))) (pa_cons (pe_tup (pa_cons pe_int (pa_cons (pe_f (ok_L_sign (K := K) T) (hr.mono (by decide)) pass0 (pa_cons (pv 0) pa_nil)) pa_nil))) pa_nil))) (pa_cons pe_int pa_nil))) pa_nil))))) pss_nil))))))))) (pss_one (ps_ret (pv 1))))), ?_⟩
  show (_ : TS) { nx := fun _ H' => Q .non H', rt := Q } [some x, none, none, none, none] H
  obtain ⟨H0, d, rfl, dr, q⟩ := h
  walk_at "go"
  refine i_new (by show 0 ≤ 100000; omega) fun t nt => ?_
  walk_at "go"
  refine ⟨H0, d, 3, 4, t, 0, rfl, rfl, rfl, rfl, by decide, by decide, by decide, by decide, dr.free nt, dr.cells, dr.new nt, by decide, fun v ps N T1 H1 tz hps hvp hle g1 g2 g3 => ?_⟩
  have y1 : Yz K d H0 N H1 := ⟨tz.nw, tz.dr.less (un_same.seq tz.hc) (un_none tz.t0 tz.tn)⟩
  walk_at "go"
  refine i_forR ?_
  walk_at "go"
  refine ⟨_, d, 6, rfl, rfl, y1.dr, by decide, fun n H2 dr2 b2 => ?_⟩
  have n0 := b2.1
  have n1 := b2.2.1 (by decide)
  have y2 := y1.draws dr2
  walk_at "go"
  refine i_rngD (by omega) (by omega) (fun i σ' H' => ∃ (v : V) (v2 v3 v4 : Option V), σ' = [some (.ref d.a), some v, v2, v3, v4] ∧ PsS K d H0 i (540 + 40 * i) v H' ∧ i ≤ 6) ⟨v, _, _, _, rfl, ⟨N, ps, y2, hps, hvp, by omega⟩, by omega⟩ ?_ ?_
  · rintro i σ' H' hi ⟨v, v2, v3, v4, rfl, ⟨N, ps, y, hps, hvp, hl⟩, hi6⟩
    walk_at "go"
    refine i_new (by show 5 ≤ 100000; omega) fun p5 np => ?_
    walk_at "go"
    refine ⟨_, d, 5, rfl, rfl, y.dr.new np, by decide, fun k H3 dr3 b3 => ?_⟩
    have k0 := b3.1
    have k1 := b3.2.1 (by decide)
    have key : ∃ m : Nat, [V.int 2, V.int 2, V.int 2, V.int 3, V.int 24][k.toNat]? = some (.int (m : Int)) ∧ 2 ≤ m ∧ m ≤ 24 := by
      have hn : k.toNat = 0 ∨ k.toNat = 1 ∨ k.toNat = 2 ∨ k.toNat = 3 ∨ k.toNat = 4 := by omega
      rcases hn with h | h | h | h | h <;> rw [h]
      · exact ⟨2, rfl, by decide, by decide⟩
      · exact ⟨2, rfl, by decide, by decide⟩
      · exact ⟨2, rfl, by decide, by decide⟩
      · exact ⟨3, rfl, by decide, by decide⟩
      · exact ⟨24, rfl, by decide, by decide⟩
    obtain ⟨m, hm, m1, m2⟩ := key
    refine i_ix_lst (v := .int (m : Int)) (.inl (.inl (dr3.old upd_same))) (atI_int k0 hm) ?_
    have y3 := y.draws (dr3.less y.dr.cells (y.dr.free np))
    walk_at "go"
    refine i_new (by show 2 ≤ 100000; omega) fun q1 n1 => ?_
    obtain ⟨N4, s4, e4, y4⟩ := y3.add (.tup [.int (m : Int), v]) n1
    walk_at "go"
    refine i_new (by show 1 ≤ 100000; omega) fun q2 n2 => ?_
    obtain ⟨N5, s5, e5, y5⟩ := y4.add (.lst [.ref q1]) n2
    have it : ItS K d H0 (i + 1) (544 + 40 * i) (.ref q2) (upd (upd H3 q1 (.tup [.int (m : Int), v])) q2 (.lst [.ref q1])) := by
      refine ⟨N5, [.inr (m, ps)], y5, ⟨q2, _, rfl, e5, .cons (show RI (RG (i + 1)) N5 (.ref q1) (.inr (m, ps)) from ⟨q1, v, rfl, s5 _ _ e4, RPs.mono (RG_mono i) hps (s4.trans s5)⟩) .nil⟩, by simp, fun x hx => ?_, ?_⟩
      · rw [List.mem_singleton.mp hx]; exact ⟨m1, m2, hvp⟩
      · have := wN_len m
        show ((wN m ++ ([40] ++ (wPs (wG i) ps ++ [41]))) ++ []).length ≤ _
        simp only [List.length_append, List.length_singleton, List.append_nil]
        omega
    walk_at "go"
    refine ⟨_, d, 8, rfl, rfl, y5.dr, by decide, fun kind H6 dr6 _ => ?_⟩
    replace it : ItS K d H0 (i + 1) (544 + 40 * i) (.ref q2) H6 := by
      obtain ⟨N', is, y', a, b⟩ := it
      exact ⟨N5, [.inr (m, ps)], y5.draws dr6, ⟨q2, _, rfl, e5, .cons (show RI (RG (i + 1)) N5 (.ref q1) (.inr (m, ps)) from ⟨q1, v, rfl, s5 _ _ e4, RPs.mono (RG_mono i) hps (s4.trans s5)⟩) .nil⟩, by simp, fun x hx => by rw [List.mem_singleton.mp hx]; exact ⟨m1, m2, hvp⟩, by
        have := wN_len m
        show ((wN m ++ ([40] ++ (wPs (wG i) ps ++ [41]))) ++ []).length ≤ _
        simp only [List.length_append, List.length_singleton, List.append_nil]
        omega⟩
    walk_at "go"
    refine i_cut (fun σ' H' => ∃ (v' : V), σ' = [some (.ref d.a), some v, some (.int (i : Int)), some v', some (.int kind)] ∧ ItS K d H0 (i + 1) (550 + 40 * i) v' H') ?_ ?_
    · obtain ⟨N, is, y, ⟨b', vs, ev, hb, hF⟩, hne, hvi, hl⟩ := it
      cases ev
      have hlen := hF.len
      have hsm := len_items hvi
      walk_at "go"
      refine i_dec (fun a1 => ?_) (fun a1 => ?_)
      · walk_at "go"
        refine ⟨_, d, rfl, y.dr, fun c H4 dr4 hc => ?_⟩
        have y4 := y.draws dr4
        walk_at "go"
        refine i_new (by show 2 ≤ 100000; omega) fun q1 n1 => ?_
        obtain ⟨N5, s5, e5, y5⟩ := y4.add (.tup [.int 0, S [c]]) n1
        walk_at "go"
        refine i_new (by show 1 ≤ 100000; omega) fun q2 n2 => ?_
        obtain ⟨N6, s6, e6, y6⟩ := y5.add (.lst [.ref q1]) n2
        walk_at "go"
        refine i_catL upd_same (y6.sub _ _ (s6 _ _ (s5 _ _ hb))) (by show 1 + vs.length ≤ _; omega) fun q3 n3 => ?_
        obtain ⟨N7, s7, e7, y7⟩ := y6.add (.lst ([.ref q1] ++ vs)) n3
        refine ⟨_, rfl, N7, .inl (0, c) :: is, y7, ⟨q3, _, rfl, e7, .cons (show RI (RG (i + 1)) N7 (.ref q1) (.inl (0, c)) from ⟨q1, rfl, s7 _ _ (s6 _ _ e5)⟩) (hF.imp fun _ _ h => h.mono (RG_mono _) ((s5.trans s6).trans s7))⟩, by simp, fun x hx => ?_, ?_⟩
        · rcases List.mem_cons.mp hx with rfl | hx
          · exact ⟨hc, .inl rfl⟩
          · exact hvi x hx
        · show ([c] ++ wIs (wG (i + 1)) is).length ≤ _
          simp only [List.length_append, List.length_singleton]
          omega
      · walk_at "go"
        exact ⟨_, rfl, N, is, y, ⟨_, vs, rfl, hb, hF⟩, hne, hvi, by omega⟩
    rintro σ' H7 ⟨v', rfl, N, is, y, ⟨b', vs, rfl, hb, hF⟩, hne, hvi, hl⟩
    have hlen := hF.len
    have hsm := len_items hvi
    have hb7 := y.sub _ _ hb
    refine i_cut (fun σ' H' => ∃ (v' : V), σ' = [some (.ref d.a), some v, some (.int (i : Int)), some v', some (.int kind)] ∧ ItS K d H0 (i + 1) (555 + 40 * i) v' H') ?_ ?_
    · walk_at "go"
      refine i_dec (fun a1 => ?_) (fun a1 => ?_)
      · walk_at "go"
        refine ⟨_, d, rfl, y.dr, fun c H4 dr4 hc => ?_⟩
        have y4 := y.draws dr4
        walk_at "go"
        refine i_new (by show 2 ≤ 100000; omega) fun q1 n1 => ?_
        obtain ⟨N5, s5, e5, y5⟩ := y4.add (.tup [.int 2, S [c]]) n1
        walk_at "go"
        refine i_new (by show 1 ≤ 100000; omega) fun q2 n2 => ?_
        obtain ⟨N6, s6, e6, y6⟩ := y5.add (.lst [.ref q1]) n2
        refine i_catL (y6.sub _ _ (s6 _ _ (s5 _ _ hb))) upd_same (by show vs.length + 1 ≤ _; omega) fun q3 n3 => ?_
        obtain ⟨N7, s7, e7, y7⟩ := y6.add (.lst (vs ++ [.ref q1])) n3
        refine ⟨_, rfl, N7, is ++ [.inl (2, c)], y7, ⟨q3, _, rfl, e7, (hF.imp fun _ _ h => h.mono (RG_mono _) ((s5.trans s6).trans s7)).snoc (show RI (RG (i + 1)) N7 (.ref q1) (.inl (2, c)) from ⟨q1, rfl, s7 _ _ (s6 _ _ e5)⟩)⟩, by simp, fun x hx => ?_, ?_⟩
        · rcases List.mem_append.mp hx with hx | hx
          · exact hvi x hx
          · rw [List.mem_singleton.mp hx]; exact ⟨hc, .inr ⟨by decide, by decide⟩⟩
        · rw [wIs_snoc, List.length_append]
          have := wN_len 2
          show _ + (wN 2 ++ [c]).length ≤ _
          rw [List.length_append, List.length_singleton]
          omega
      · walk_at "go"
        exact ⟨_, rfl, N, is, y, ⟨_, vs, rfl, hb, hF⟩, hne, hvi, by omega⟩
    clear y hF hne hvi hl hlen hsm hb hb7 it
    rintro σ' H8 ⟨v', rfl, it⟩
    obtain ⟨N, is, y, ⟨b', vs, rfl, hb, hF⟩, hne, hvi, hl⟩ := id it
    walk_at "go"
    refine i_new (by show 2 ≤ 100000; omega) fun q1 n1 => ?_
    walk_at "go"
    refine i_new (by show 1 ≤ 100000; omega) fun q2 n2 => ?_
    have one := it.one n1 n2
    have y2 : Yz K d H0 N (upd (upd H8 q1 (.tup [.ref b', .int 0])) q2 (.lst [.ref q1])) := (y.same (same_upd n1)).same (same_upd n2)
    generalize (upd (upd H8 q1 (.tup [.ref b', .int 0])) q2 (.lst [.ref q1])) = H9 at *
    refine i_cut (fun σ' H' => ∃ (v2 : V), σ' = [some (.ref d.a), some v2, some (.int (i : Int)), some (.ref b'), some (.int kind)] ∧ PsS K d H0 (i + 1) (560 + 40 * i) v2 H' ∧ Yz K d H0 N H') ?_ ?_
    · walk_at "go"
      refine i_dec (fun a1 => ?_) (fun a1 => ?_)
      · walk_at "go"
        refine ⟨_, d, rfl, y2.dr, fun c H4 dr4 hc => ?_⟩
        have y4 := y2.draws dr4
        walk_at "go"
        refine i_new (by show 2 ≤ 100000; omega) fun q1 n1 => ?_
        obtain ⟨N5, s5, e5, y5⟩ := y4.add (.tup [.int 0, S [c]]) n1
        walk_at "go"
        refine i_new (by show 1 ≤ 100000; omega) fun q2 n2 => ?_
        obtain ⟨N6, s6, e6, y6⟩ := y5.add (.lst [.ref q1]) n2
        walk_at "go"
        refine i_new (by show 2 ≤ 100000; omega) fun q3 n3 => ?_
        obtain ⟨N7, s7, e7, y7⟩ := y6.add (.tup [.ref q2, .int 0]) n3
        walk_at "go"
        refine i_new (by show 2 ≤ 100000; omega) fun q4 n4 => ?_
        obtain ⟨N8, s8, e8, y8⟩ := y7.add (.tup [.ref b', .int 0]) n4
        walk_at "go"
        refine i_new (by show 2 ≤ 100000; omega) fun q5 n5 => ?_
        obtain ⟨N9, s9, e9, y9⟩ := y8.add (.lst [.ref q3, .ref q4]) n5
        refine ⟨_, rfl, ⟨N9, [([.inl (0, c)], 0), (is, 0)], y9, ⟨q5, _, rfl, e9, .cons ⟨q3, .ref q2, rfl, s9 _ _ (s8 _ _ e7), q2, _, rfl, s9 _ _ (s8 _ _ (s7 _ _ e6)), .cons (show RI (RG (i + 1)) N9 (.ref q1) (.inl (0, c)) from ⟨q1, rfl, s9 _ _ (s8 _ _ (s7 _ _ (s6 _ _ e5)))⟩) .nil⟩ (.cons ⟨q4, .ref b', rfl, s9 _ _ e8, b', vs, rfl, s9 _ _ (s8 _ _ (s7 _ _ (s6 _ _ (s5 _ _ hb)))), hF.imp fun _ _ h => h.mono (RG_mono _) ((((s5.trans s6).trans s7).trans s8).trans s9)⟩ .nil)⟩, ⟨by simp, fun p hp => ?_⟩, ?_⟩, ((((y4.same (same_upd n1)).same (same_upd n2)).same (same_upd n3)).same (same_upd n4)).same (same_upd n5)⟩
        · rcases List.mem_cons.mp hp with rfl | hp
          · exact ⟨by simp, fun x hx => by rw [List.mem_singleton.mp hx]; exact ⟨hc, .inl rfl⟩, .inl rfl⟩
          · rw [List.mem_singleton.mp hp]
            exact ⟨hne, hvi, .inl rfl⟩
        · have e1 := wP_le (wg := wG (i + 1)) ([.inl (0, c)], 0)
          have e2 : (wP (wG (i + 1)) (is, 0)).length = (wIs (wG (i + 1)) is).length := by
            show (wIs (wG (i + 1)) is ++ wF 0).length = _
            rw [wF_zero, List.append_nil]
          have e3 := wPs_sum (wg := wG (i + 1)) (ps := [([.inl (0, c)], 0), (is, 0)]) (by simp)
          simp only [List.map_cons, List.map_nil, List.sum_cons, List.sum_nil] at e3
          have e4 : (wIs (wG (i + 1)) [.inl (0, c)]).length = 1 := rfl
          dsimp only at e1
          omega
      · walk_at "go"
        exact ⟨_, rfl, ⟨one.choose, one.choose_spec.choose, one.choose_spec.choose_spec.1, one.choose_spec.choose_spec.2.1, one.choose_spec.choose_spec.2.2.1, Nat.le_trans one.choose_spec.choose_spec.2.2.2 (by omega)⟩, y2⟩
    rintro σ' H10 ⟨v2, rfl, two, y3⟩
    walk_at "go"
    refine i_dec (fun a1 => ?_) (fun a1 => ?_)
    · walk_at "go"
      refine i_new (by show 2 ≤ 100000; omega) fun q1 n1 => ?_
      obtain ⟨N5, s5, e5, y5⟩ := y3.add (.tup [.ref b', .int 0]) n1
      walk_at "go"
      refine ⟨_, d, rfl, y5.dr, fun c H4 dr4 hc => ?_⟩
      have y5 := y5.draws dr4
      walk_at "go"
      refine i_new (by show 2 ≤ 100000; omega) fun q2 n2 => ?_
      obtain ⟨N6, s6, e6, y6⟩ := y5.add (.tup [.int 0, S [c]]) n2
      walk_at "go"
      refine ⟨_, d, rfl, y6.dr, fun c2 H5 dr5 hc2 => ?_⟩
      have y6 := y6.draws dr5
      walk_at "go"
      refine i_new (by show 2 ≤ 100000; omega) fun q3 n3 => ?_
      obtain ⟨N7, s7, e7, y7⟩ := y6.add (.tup [.int 3, S [c2]]) n3
      walk_at "go"
      refine i_new (by show 2 ≤ 100000; omega) fun q4 n4 => ?_
      obtain ⟨N8, s8, e8, y8⟩ := y7.add (.lst [.ref q2, .ref q3]) n4
      walk_at "go"
      refine i_new (by show 2 ≤ 100000; omega) fun q5 n5 => ?_
      obtain ⟨N9, s9, e9, y9⟩ := y8.add (.tup [.ref q4, .int 5]) n5
      walk_at "go"
      refine i_new (by show 2 ≤ 100000; omega) fun q6 n6 => ?_
      obtain ⟨N10, s10, e10, y10⟩ := y9.add (.lst [.ref q1, .ref q5]) n6
      refine ⟨_, _, _, _, rfl, ⟨N10, [(is, 0), ([.inl (0, c), .inl (3, c2)], 5)], y10, ⟨q6, _, rfl, e10, .cons ⟨q1, .ref b', rfl, s10 _ _ (s9 _ _ (s8 _ _ (s7 _ _ (s6 _ _ e5)))), b', vs, rfl, s10 _ _ (s9 _ _ (s8 _ _ (s7 _ _ (s6 _ _ (s5 _ _ hb))))), hF.imp fun _ _ h => h.mono (RG_mono _) (((((s5.trans s6).trans s7).trans s8).trans s9).trans s10)⟩ (.cons ⟨q5, .ref q4, rfl, s10 _ _ e9, q4, _, rfl, s10 _ _ (s9 _ _ e8), .cons (show RI (RG (i + 1)) N10 (.ref q2) (.inl (0, c)) from ⟨q2, rfl, s10 _ _ (s9 _ _ (s8 _ _ (s7 _ _ e6)))⟩) (.cons (show RI (RG (i + 1)) N10 (.ref q3) (.inl (3, c2)) from ⟨q3, rfl, s10 _ _ (s9 _ _ (s8 _ _ e7))⟩) .nil)⟩ .nil)⟩, ⟨by simp, fun p hp => ?_⟩, ?_⟩, by omega⟩
      · rcases List.mem_cons.mp hp with rfl | hp
        · exact ⟨hne, hvi, .inl rfl⟩
        · rw [List.mem_singleton.mp hp]
          refine ⟨by simp, fun x hx => ?_, .inr ⟨(by decide : 4 ≤ 5), (by decide : 5 ≤ 24)⟩⟩
          rcases List.mem_cons.mp hx with rfl | hx
          · exact ⟨hc, .inl rfl⟩
          · rw [List.mem_singleton.mp hx]
            exact ⟨hc2, .inr ⟨by decide, by decide⟩⟩
      · have e1 := wP_le (wg := wG (i + 1)) ([.inl (0, c), .inl (3, c2)], 5)
        have e2 : (wP (wG (i + 1)) (is, 0)).length = (wIs (wG (i + 1)) is).length := by
          show (wIs (wG (i + 1)) is ++ wF 0).length = _
          rw [wF_zero, List.append_nil]
        have e3 := wPs_sum (wg := wG (i + 1)) (ps := [(is, 0), ([.inl (0, c), .inl (3, c2)], 5)]) (by simp)
        simp only [List.map_cons, List.map_nil, List.sum_cons, List.sum_nil] at e3
        have e4 : (wIs (wG (i + 1)) [.inl (0, c), .inl (3, c2)]).length = 3 := rfl
        dsimp only at e1
        omega
    · walk_at "go"
      exact ⟨_, _, _, _, rfl, ⟨two.choose, two.choose_spec.choose, two.choose_spec.choose_spec.1, two.choose_spec.choose_spec.2.1, two.choose_spec.choose_spec.2.2.1, Nat.le_trans two.choose_spec.choose_spec.2.2.2 (by omega)⟩, by omega⟩
  · rintro σ' H' ⟨v, v2, v3, v4, rfl, ⟨N, ps, y, hps, hvp, hl⟩, hi6⟩
    walk_at "go"
    exact q v _ H' hi6 ⟨N, ps, y, hps, hvp, by omega⟩
end
end K04
namespace K04
open PySem PySem.Spec PyProof.Rows L2 Fg
local macro_rules | `(tactic| walk_at "sq") => `(tactic| first
  | assumption
  | exact .inl (.inl (by assumption))
  | exact .inl (.inl upd_same))
local macro_rules | `(tactic| walk_at "st") => `(tactic| first
  | assumption
  | exact .inl (.inl (by assumption))
  | exact .inl (.inl upd_same))
local macro_rules | `(tactic| walk_at "o") => `(tactic| first
  | omega
  | assumption
  | (simp only [List.length_append, List.length_take, List.length_drop, List.length_cons, List.length_nil, List.length_singleton, List.length_map, List.length_range, Int.toNat_natCast] ; omega))
local macro_rules | `(tactic| walk_at "s") => `(tactic| first
  | (with_reducible refine i_seq ?_)
  | (with_reducible refine i_asg ?_)
  | ((with_reducible refine' i_var ?h1 ?_); (case h1 => rfl))
  | (with_reducible refine i_c ?_)
  | ((with_reducible refine' i_gname' ?h1 ?_); (case h1 => (simp only [List.set_cons_zero, List.set_cons_succ]; rfl)))
  | (with_reducible refine i_op ?_)
  | (with_reducible refine i_ifS ?_)
  | (with_reducible refine i_for ?_)
  | (with_reducible refine i_test ?_)
  | (with_reducible refine i_B ?_)
  | (with_reducible refine i_exbl ?_)
  | (with_reducible refine i_exint ?_)
  | (with_reducible refine i_cb ?_)
  | (with_reducible refine i_nil ?_)
  | (with_reducible refine i_cons ?_)
  | (with_reducible refine i_ret ?_)
  | (with_reducible refine i_sl ?_)
  | (with_reducible refine i_nopart ?_)
  | (with_reducible refine i_part ?_)
  | (with_reducible refine i_add_int ?_)
  | (with_reducible refine i_sub ?_)
  | (with_reducible refine i_lt ?_)
  | ((with_reducible refine' i_mod ?h1 ?_); (case h1 => walk_at "o"))
  | ((with_reducible refine' i_fdiv ?h1 ?_); (case h1 => (refine cdiv_small ?_ ?_ <;> walk_at "o")))
  | ((with_reducible refine' i_sl_to ?h1 ?h2 ?_); (case h1 => walk_at "o"); (case h2 => walk_at "o"))
  | ((with_reducible refine' i_sl_from ?h1 ?h2 ?_); (case h1 => walk_at "o"); (case h2 => walk_at "o"))
  | ((with_reducible refine' i_add_str ?h1 ?_); (case h1 => walk_at "o"))
  | ((with_reducible refine' i_mul_int ?h1 ?_); (case h1 => first | (refine mul_small ?_ ?_ <;> walk_at "o") | (refine mul_smallR ?_ ?_ <;> walk_at "o")))
  | (with_reducible refine i_le ?_)
  | (with_reducible refine i_gt ?_)
  | (with_reducible refine i_ge ?_)
  | (with_reducible refine i_eq_int ?_)
  | (with_reducible refine i_eq_str ?_)
  | (with_reducible refine i_ne_int ?_)
  | (with_reducible refine i_ne_str ?_)
  | (with_reducible refine i_eq_bl ?_)
  | (with_reducible refine i_ne_bl ?_)
  | (with_reducible refine i_in_sg ?_)
  | (with_reducible refine i_notIn_sg ?_)
  | (with_reducible refine i_call ?_)
  | (with_reducible refine i_callS ?_)
  | (with_reducible refine i_sp1 ?_)
  | (with_reducible refine i_sp2 ?_)
  | (with_reducible refine i_sp3 ?_)
  | (with_reducible refine i_sp4 ?_)
  | (with_reducible refine i_sp1' ?_)
  | (with_reducible refine i_sp2' ?_)
  | (with_reducible refine i_sp3' ?_)
  | ((with_reducible refine' i_ix_lst ?h1 ?h2 ?_); (case h1 => walk_at "sq"); (case h2 => first | exact atI_nat rfl | rfl))
  | ((with_reducible refine' i_ix_tup ?h1 ?h2 ?_); (case h1 => walk_at "st"); (case h2 => first | exact atI_nat rfl | rfl))
  | (with_reducible refine i_gsub ?_)
  | (with_reducible refine i_par ?_)
  | (with_reducible refine i_lstRg1 ?_)
  | (with_reducible refine i_app ?_)
  | (with_reducible refine i_par2 ?_)
  | ((with_reducible refine' i_aug ?h1 ?_); (case h1 => rfl))
  | (with_reducible refine i_ipI ?_)
  | ((with_reducible refine' i_gtup2 ?h1 ?_); (case h1 => walk_at "st"))
  | (with_reducible refine i_int_bl ?_)
  | (with_reducible refine i_raise ?_)
  | (with_reducible refine i_mkE ?_)
  | (with_reducible refine i_ex1 ?_)
  | (with_reducible refine i_and ?_)
  | (with_reducible refine i_or ?_)
  | (with_reducible refine i_not ?_)
  | (with_reducible refine i_tt ?_)
  | (with_reducible refine i_ff ?_)
  | (with_reducible refine i_nott ?_)
  | (with_reducible refine i_notf ?_)
  | (with_reducible refine i_andV ?_)
  | (with_reducible refine i_orV ?_)
  | (with_reducible refine i_notV ?_)
  | (with_reducible refine i_ifE ?_)
  | (with_reducible refine i_tup ?_)
  | (with_reducible refine i_lst ?_)
  | (with_reducible refine i_un ?_)
  | (with_reducible refine i_neg ?_)
  | (with_reducible refine i_chain ?_)
  | (with_reducible refine i_next ?_)
  | (with_reducible refine i_retN ?_)
  | (with_reducible refine i_drop ?_)
  | (with_reducible refine i_int_int ?_)
  | (with_reducible refine i_abs ?_)
  | (with_reducible refine i_m1c ?_)
  | (with_reducible refine i_is_non ?_)
  | (with_reducible refine i_is_int ?_)
  | (with_reducible refine i_is_bl ?_)
  | (with_reducible refine i_isn_bl ?_)
  | (with_reducible refine i_is_str ?_)
  | (with_reducible refine i_is_ref ?_)
  | (with_reducible refine i_isn_non ?_)
  | (with_reducible refine i_isn_int ?_)
  | (with_reducible refine i_isn_str ?_)
  | (with_reducible refine i_isn_ref ?_)
  | (with_reducible refine i_len_str ?h1 ?_; (case h1 => walk_at "o"))
  | (with_reducible refine i_isi_int_int ?_) | (with_reducible refine i_isi_int_bool ?_) | (with_reducible refine i_isi_int_str ?_) | (with_reducible refine i_isi_int_tuple ?_) | (with_reducible refine i_isi_int_list ?_)
  | (with_reducible refine i_isi_bl_int ?_) | (with_reducible refine i_isi_bl_bool ?_) | (with_reducible refine i_isi_bl_str ?_) | (with_reducible refine i_isi_bl_tuple ?_) | (with_reducible refine i_isi_bl_list ?_)
  | (with_reducible refine i_isi_str_int ?_) | (with_reducible refine i_isi_str_bool ?_) | (with_reducible refine i_isi_str_str ?_) | (with_reducible refine i_isi_str_tuple ?_) | (with_reducible refine i_isi_str_list ?_)
  | (with_reducible refine i_isi_non_int ?_) | (with_reducible refine i_isi_non_bool ?_) | (with_reducible refine i_isi_non_str ?_) | (with_reducible refine i_isi_non_tuple ?_) | (with_reducible refine i_isi_non_list ?_))
local macro_rules | `(tactic| walk_at "go") => `(tactic| (repeat' (walk_at "s")))
local macro_rules | `(tactic| walk_at "n") => `(tactic| simp only [wipe, List.map_cons, List.map_nil, List.set_cons_zero, List.set_cons_succ])
/-! a comprehension over a range, its list and what it makes anew -/
def LcG (g : TG) (tt : TT) (te : TE) (vs : List Nat) (σ : L2.St) (Q : VK) : It → Hp → Prop := fun J H1 => tLc (fun _ _ R => R J H1) g tt te vs σ H1 Q
section
variable {σ : L2.St} {H : Hp} {Q : VK} {te : TE} {tt : TT} {g : TG} {ta : TA} {j : Nat} {vs : List Nat}
theorem i_lcR (q : ta σ H fun us H1 => ∃ n : Int, us = [.int n] ∧ -(2 ^ 62) ≤ n ∧ n < 2 ^ 62 ∧ LcG g tt te vs σ Q (Itr 0 n.toNat) H1) : tLc (iRng1 ta) g tt te vs σ H Q := q
theorem i_lcRg {n : Int} (h0 : 0 ≤ n) (h : n ≤ 100000) (hw : ∀ x, wipe ((wipe σ vs).set j (some x)) vs = wipe σ vs)
    (k : ∀ Dl, H Dl = none → ∃ W : Nat → Hp → Prop, W 0 (upd H Dl (.lst [])) ∧ (∀ (i : Nat) H', (i : Int) < n → W i H' → te ((wipe σ vs).set j (some (.int (i : Int)))) H' fun y H2 => ∃ acc, H2 Dl = some (.lst acc) ∧ acc.length < sizeLine ∧ W (i + 1) (upd H2 Dl (.lst (acc ++ [y])))) ∧ ∀ H', W n.toNat H' → Q (.ref Dl) H') :
    ∃ n' : Int, [V.int n] = [.int n'] ∧ -(2 ^ 62) ≤ n' ∧ n' < 2 ^ 62 ∧ LcG (gName j) tYes te vs σ Q (Itr 0 n'.toNat) H := by
  refine ⟨n, rfl, by omega, by omega, fun Dl nD => ?_⟩
  obtain ⟨W, w0, ws, wd⟩ := k Dl nD
  refine lc_range W w0 (fun i H' hi p => ?_) wd
  rw [Int.zero_add]
  exact ⟨hw _, i_yes (i_tt (ws i H' (by omega) p))⟩
end
section
variable {P : Program} {w : World} {K : PySem.W.Frag} {mg : Str → Option Value} {base : Heap} {C_GlimError C_BadText C_TooLong : Addr}
def p_fpart (K : PySem.W.Frag) (e : Nat) : P3 := fun x z u H Q _ => ∃ (H0 : Hp) (d : Dd) (D : Int) (t : Addr) (T : Nat), x = .ref d.a ∧ z = .int D ∧ u = .ref t ∧ 0 ≤ D ∧ D + (e : Int) = 6 ∧ H0 t = none ∧ SqL K H0 d.c (d.ns.map V.int) ∧ Dr K d (upd H0 t (.lst (ones T))) H ∧ T ≤ 200 ∧
  ∀ v (p : PtG (Gr e)) N T' H', Tz K d H0 t N T' H' → RP (RG e) N v p → vP (stG e) (vG e) p → T < T' → T' ≤ max (T + 3) (39 + 9 * e + 3) → (wP (wG e) p).length + 1 ≤ 9 * (T' - T) → Q v H'
def p_ftext (K : PySem.W.Frag) (e : Nat) : P3 := fun x z u H Q _ => ∃ (H0 : Hp) (d : Dd) (D : Int) (t : Addr) (T : Nat), x = .ref d.a ∧ z = .int D ∧ u = .ref t ∧ 0 ≤ D ∧ D + (e : Int) = 6 ∧ H0 t = none ∧ SqL K H0 d.c (d.ns.map V.int) ∧ Dr K d (upd H0 t (.lst (ones T))) H ∧ T ≤ 100 ∧
  ∀ v (ps : List (PtG (Gr e))) N T' H', Tz K d H0 t N T' H' → RPs (RG e) N v ps → vPs (stG e) (vG e) ps → T < T' → T' ≤ max (T + 9) (39 + 9 * e + 9) → (wPs (wG e) ps).length + 1 ≤ 9 * (T' - T) → Q v H'
def p_ftextD (K : PySem.W.Frag) : Nat → P3
  | 0 => fun _ _ _ _ _ _ => False
  | e + 1 => p_ftext K e
theorem ok_L_free_part (T : Txt K mg C_GlimError C_BadText C_TooLong) (e : Nat) (he : e ≤ 6) (R : OK P w K mg base CX0 (2 * e + 31) "_law_free_text" ["_law_draw_here", "_law_depth", "_law_tally"] (sp3 (p_ftextD K e))) :
    OK P w K mg base CX0 (2 * e + 32) "_law_free_part" ["_law_draw_here", "_law_depth", "_law_tally"] (sp3 (p_fpart K e)) := by
  refine OK.mk (k := 2 * e + 31) T.d_L_free_part sc_L_free_part len3 fun f cdv A outer s H vs Q E hr h => ?_
  obtain ⟨x, y, z, rfl, h⟩ := h
  refine ⟨_, (pss_cons (ps_set (i := 3) sc_L_free_part.nd rfl (Or.inl rfl) (pe_lst pa_nil)) (pss_cons (ps_for PassesOwn.never rfl (pi_range1 rfl T.b_range (pa_cons (pe_op (opAdd K) pe_int (pe_f (ok_L_pick (K := K) T) (hr.mono (by omega)) pass0 (pa_cons (pv 0) (pa_cons pe_int pa_nil)))) pa_nil)) (pg_name (i := 4) sc_L_free_part.nd rfl (Or.inl rfl)) (pss_cons (ps_expr (peApp K (pv 2) (pa_cons pe_int pa_nil))) (pss_cons (ps_set (i := 5) sc_L_free_part.nd rfl (Or.inl rfl) (pe_f (ok_L_pick (K := K) T) (hr.mono (by omega)) pass0 (pa_cons (pv 0) (pa_cons pe_int pa_nil)))) (pss_one (ps_if (pw_and (pt_cmpR (opEq K hr.units) (pv 5) pe_int (nomark _)) (pw_and (pt_cmpR op_ltP (pv 1) pe_int (nomark _)) (pw_and1 (pt_cmpR op_ltP (pe_callB (cLen K) (by rfl) T.b_len (by decide +kernel) (pa_cons (pv 2) pa_nil)) pe_int (nomark _))))).pt (pss_one (ps_expr (peApp K (pv 3) (pa_cons (pe_tup (pa_cons (pe_op (opAdd K) pe_int (pe_f (ok_L_pick (K := K) T) (hr.mono (by omega)) pass0 (pa_cons (pv 0) (pa_cons pe_int pa_nil)))) (pa_cons (pe_f R (hr.mono (by omega)) pass0 (pa_cons (pv 0) (pa_cons (pe_op (opAdd K) (pv 1) pe_int) (pa_cons (pv 2) pa_nil)))) pa_nil))) pa_nil)))) (pss_one (ps_if (pt_cmpR (opEq K hr.units) (pv 5) pe_int (nomark _)) (pss_one (ps_expr (peApp K (pv 3) (pa_cons (pe_tup (pa_cons (pe_op (opAdd K) pe_int (pe_f (ok_L_pick (K := K) T) (hr.mono (by omega)) pass0 (pa_cons (pv 0) (pa_cons pe_int pa_nil)))) (pa_cons (pe_f (ok_L_sign (K := K) T) (hr.mono (by omega)) pass0 (pa_cons (pv 0) pa_nil)) pa_nil))) pa_nil)))) (pss_one (ps_expr (peApp K (pv 3) (pa_cons (pe_tup (pa_cons pe_int (pa_cons (pe_f (ok_L_sign (K := K) T) (hr.mono (by omega)) pass0 (pa_cons (pv 0) pa_nil)) pa_nil))) pa_nil))))))))))) (pss_cons (ps_set (i := 6) sc_L_free_part.nd rfl (Or.inl rfl) (pe_callB (cSum K rfl) (by rfl) T.b_sum (by decide +kernel) (pa_cons (pe_lc (own := [("_law_item", 7)]) (g := gName 7) (tt := tYes) (by rfl) sc_L_free_part.nd (piAny K (pv 3)) (blkOk_by (own := [("_law_item", 7)]) (N := ["_law_draw_here", "_law_depth", "_law_tally", "_law_items", "_law_turn", "_law_kind", "_law_used", "_law_item"]) (sc := (defScope s_L_free_part)) (by decide +kernel)) (fun _ _ _ _ _ => (pg_name (i := 7) sc_L_free_part.nd rfl (Or.inl rfl))) (fun _ _ _ _ _ => pts_nil) (fun _ _ _ _ _ => (pe_f (icnt_ok (K := K) T e (by omega)) (hr.mono (by omega)) pass0 (pa_cons (pv 7) pa_nil)))) pa_nil))) (pss_cons (ps_if (pw_and (pt_cmpR op_leP (pv 6) pe_int (nomark _)) (pw_and1 (pt_cmpR (opEq K hr.units) (pe_f (ok_L_pick (K := K) T) (hr.mono (by omega)) pass0 (pa_cons (pv 0) (pa_cons pe_int pa_nil))) pe_int (nomark _)))).pt (pss_one (ps_ret (pe_tup (pa_cons (pv 3) (pa_cons (pe_op (opAdd K) (pv 6) (pe_f (ok_L_pick (K := K) T) (hr.mono (by omega)) pass0 (pa_cons (pv 0) (pa_cons (pe_op op_subP pe_int (pv 6)) pa_nil)))) pa_nil))))) pss_nil) (pss_one (ps_ret (pe_tup (pa_cons (pv 3) (pa_cons pe_int pa_nil))))))))), ?_⟩
  show (_ : TS) { nx := fun _ H' => Q .non H', rt := Q } [some x, some y, some z, none, none, none, none, none] H
  obtain ⟨H0, d, D, t, T0, rfl, rfl, rfl, hD0, hD, nt, hc, dr, hT, q⟩ := h
  walk_at "go"
  refine i_new (by show 0 ≤ 100000; omega) fun L nL => ?_
  have w0 := (Tz.start nt hc dr).open (vs := []) nL
  walk_at "go"
  refine i_forR ?_
  walk_at "go"
  refine ⟨_, d, 3, rfl, rfl, w0.dr, by decide, fun n H1 dr1 b1 => ?_⟩
  have n0 := b1.1
  have n1 := b1.2.1 (by decide)
  have w1 := w0.draws dr1
  walk_at "go"
  refine i_rngD (by omega) (by omega) (fun i σ' H' => ∃ (is : List (ItG (Gr e))) (Ti : Nat) (N : Hp) (vs : List V) (v4 v5 : Option V), σ' = [some (.ref d.a), some (.int D), some (.ref t), some (.ref L), v4, v5, none, none] ∧ Wz K d H0 t L N vs Ti H' ∧ F2 (RI (RG e) N) vs is ∧ (∀ i ∈ is, vI (vG e) i) ∧ (0 < i → is ≠ []) ∧ T0 + i ≤ Ti ∧ Ti ≤ max (T0 + i) (39 + 9 * e + i) ∧ (wIs (wG e) is).length + 4 * i ≤ 9 * (Ti - T0) ∧ i ≤ 3) ⟨[], T0, emp, [], _, _, rfl, w1, .nil, by simp, by omega, by omega, by omega, by show 0 + 0 ≤ _; omega, by omega⟩ ?_ ?_
  · rintro i σ' H' hi ⟨is, Ti, N, vs, v4, v5, rfl, wz, hF, hv, hne, t1, t2, t3, t4⟩
    have hsm := len_items hv
    have hlen := hF.len
    have i3 : (i : Int) < 3 := by omega
    walk_at "go"
    refine i_appAt wz.tally ?_
    walk_at "go"
    refine i_appEnd wz.tally (by unfold ones; rw [List.length_replicate]; omega) ?_
    rw [ones_succ]
    have w2 := wz.tick (T' := Ti + 1)
    walk_at "go"
    refine ⟨_, d, 4, rfl, rfl, w2.dr, by decide, fun k H2 dr2 b2 => ?_⟩
    have w3 := w2.draws dr2
    have plain : ∀ (tt c : Nat) H3 q v4 v5, Wz K d H0 t L (upd N q (.tup [.int (tt : Int), S [c]])) vs (Ti + 1) H3 → N q = none → (tt = 0 ∨ (2 ≤ tt ∧ tt ≤ 24)) → c ∈ SG → ∃ (is' : List (ItG (Gr e))) (Tj : Nat) (N : Hp) (vs' : List V) (v4' v5' : Option V), ([some (.ref d.a), some (.int D), some (.ref t), some (.ref L), v4, v5, none, none] : L2.St) = [some (.ref d.a), some (.int D), some (.ref t), some (.ref L), v4', v5', none, none] ∧ Wz K d H0 t L N vs' Tj (upd H3 L (.lst (vs ++ [.ref q]))) ∧ F2 (RI (RG e) N) vs' is' ∧ (∀ i ∈ is', vI (vG e) i) ∧ (0 < i + 1 → is' ≠ []) ∧ T0 + (i + 1) ≤ Tj ∧ Tj ≤ max (T0 + (i + 1)) (39 + 9 * e + (i + 1)) ∧ (wIs (wG e) is').length + 4 * (i + 1) ≤ 9 * (Tj - T0) ∧ i + 1 ≤ 3 := fun tt c H3 q v4 v5 w nq ht hc' => by
      refine ⟨is ++ [.inl (tt, c)], Ti + 1, _, _, v4, v5, rfl, w.lset (vs' := vs ++ [.ref q]), (hF.imp fun _ _ h => h.mono (RG_mono e) (same_upd nq)).snoc (show RI (RG e) (upd N q (.tup [.int (tt : Int), S [c]])) (.ref q) (.inl (tt, c)) from ⟨q, rfl, upd_same⟩), fun x hx => ?_, fun _ => by simp, by omega, by omega, ?_, by omega⟩
      · rcases List.mem_append.mp hx with hx | hx
        · exact hv x hx
        · rw [List.mem_singleton.mp hx]; exact ⟨hc', ht⟩
      · rw [wIs_snoc, List.length_append]
        have := wN_len tt
        show _ + (wN tt ++ [c]).length + _ ≤ _
        rw [List.length_append, List.length_singleton]
        omega
    walk_at "go"
    refine i_dec (fun a1 => ?_) (fun a1 => ?_)
    · walk_at "go"
      refine i_dec (fun a2 => ?_) (fun a2 => ?_)
      · walk_at "go"
        refine i_len_lst (.inl (.inl w3.tally)) ?_
        walk_at "go"
        rw [show (ones (Ti + 1)).length = Ti + 1 from List.length_replicate]
        refine i_dec (fun a3 => ?_) (fun a3 => ?_)
        · -- a group
          obtain ⟨e', rfl⟩ : ∃ e', e = e' + 1 := ⟨e - 1, by omega⟩
          have hL3 := w3.list
          walk_at "go"
          refine i_appAt hL3 ?_
          walk_at "go"
          refine ⟨_, d, 23, rfl, rfl, w3.dr, by decide, fun y H3 dr3 b3 => ?_⟩
          have y0 := b3.1
          have y1 := b3.2.1 (by decide)
          obtain ⟨y, rfl⟩ : ∃ y' : Nat, y = (y' : Int) := ⟨y.toNat, by omega⟩
          have w4 := w3.draws dr3
          walk_at "go"
          refine ⟨_, d, D + 1, t, Ti + 1, rfl, rfl, rfl, by omega, by omega, by rw [upd_ne (Ne.symm w4.ne)]; exact w4.unT, (same_upd w4.unL).seq (un_same.seq hc), w4.dr, by omega, fun v ps N2 T2 H4 tz hps hvp k1 k2 k3 => ?_⟩
          have w5 := w4.call tz.nw tz.tn tz.dr
          walk_at "go"
          refine i_new (by show 2 ≤ 100000; omega) fun q5 nq => ?_
          have w6 := w5.new (o := .tup [.int (2 + (y : Int)), v]) nq
          have nq5 := w5.sub.free nq
          walk_at "go"
          refine i_appEnd w6.list (by omega) ?_
          refine ⟨is ++ [.inr (2 + y, ps)], T2, _, _, _, _, rfl, w6.lset (vs' := vs ++ [.ref q5]), (hF.imp fun _ _ h => h.mono (RG_mono _) (un_same.trans (same_upd nq5))).snoc (show RI (RG (e' + 1)) _ (.ref q5) (.inr (2 + y, ps)) from ⟨q5, v, rfl, by rw [upd_same, Int.natCast_add]; rfl, RPs.mono (RG_mono _) hps ((Wz.sub1 tz.nw).trans (same_upd nq5))⟩), fun x hx => ?_, fun _ => by simp, by omega, by omega, ?_, by omega⟩
          · rcases List.mem_append.mp hx with hx | hx
            · exact hv x hx
            · rw [List.mem_singleton.mp hx]; exact ⟨by omega, by omega, hvp⟩
          · rw [wIs_snoc, List.length_append]
            have := wN_len (2 + y)
            show _ + (wN (2 + y) ++ ([40] ++ (wPs (wG e') ps ++ [41]))).length + _ ≤ _
            simp only [List.length_append, List.length_singleton]
            omega
        all_goals
          have hL3 := w3.list
          walk_at "go"
          refine i_dec (fun z => absurd z (by omega)) (fun _ => ?_)
          walk_at "go"
          refine i_appAt hL3 ?_
          walk_at "go"
          refine ⟨_, d, rfl, w3.dr, fun c H3 dr3 hc' => ?_⟩
          have w4 := w3.draws dr3
          walk_at "go"
          refine i_new (by show 2 ≤ 100000; omega) fun q5 nq => ?_
          have w5 := w4.new (o := .tup [.int ((0 : Nat) : Int), S [c]]) nq
          walk_at "go"
          refine i_appEnd w5.list (by omega) ?_
          exact plain 0 c _ q5 _ _ w5 (w4.sub.free nq) (.inl rfl) hc'
      all_goals
        have hL3 := w3.list
        walk_at "go"
        refine i_dec (fun z => absurd z (by omega)) (fun _ => ?_)
        walk_at "go"
        refine i_appAt hL3 ?_
        walk_at "go"
        refine ⟨_, d, rfl, w3.dr, fun c H3 dr3 hc' => ?_⟩
        have w4 := w3.draws dr3
        walk_at "go"
        refine i_new (by show 2 ≤ 100000; omega) fun q5 nq => ?_
        have w5 := w4.new (o := .tup [.int ((0 : Nat) : Int), S [c]]) nq
        walk_at "go"
        refine i_appEnd w5.list (by omega) ?_
        exact plain 0 c _ q5 _ _ w5 (w4.sub.free nq) (.inl rfl) hc'
    · have hL3 := w3.list
      walk_at "go"
      refine i_dec (fun a2 => ?_) (fun a2 => ?_)
      · walk_at "go"
        refine i_appAt hL3 ?_
        walk_at "go"
        refine ⟨_, d, 23, rfl, rfl, w3.dr, by decide, fun y H3 dr3 b3 => ?_⟩
        have y0 := b3.1
        have y1 := b3.2.1 (by decide)
        obtain ⟨y, rfl⟩ : ∃ y' : Nat, y = (y' : Int) := ⟨y.toNat, by omega⟩
        walk_at "go"
        refine ⟨_, d, rfl, dr3, fun c H4 dr4 hc' => ?_⟩
        have w4 := w3.draws dr4
        walk_at "go"
        refine i_new (by show 2 ≤ 100000; omega) fun q5 nq => ?_
        have w5 := w4.new (o := .tup [.int ((2 + y : Nat) : Int), S [c]]) nq
        walk_at "go"
        refine i_appEnd w5.list (by omega) ?_
        exact plain (2 + y) c _ q5 _ _ w5 (w4.sub.free nq) (.inr ⟨by omega, by omega⟩) hc'
      · walk_at "go"
        refine i_appAt hL3 ?_
        walk_at "go"
        refine ⟨_, d, rfl, w3.dr, fun c H3 dr3 hc' => ?_⟩
        have w4 := w3.draws dr3
        walk_at "go"
        refine i_new (by show 2 ≤ 100000; omega) fun q5 nq => ?_
        have w5 := w4.new (o := .tup [.int ((0 : Nat) : Int), S [c]]) nq
        walk_at "go"
        refine i_appEnd w5.list (by omega) ?_
        exact plain 0 c _ q5 _ _ w5 (w4.sub.free nq) (.inl rfl) hc'
  · rintro σ' H' ⟨is, Ti, N, vs, v4, v5, rfl, wz, hF, hv, hne, t1, t2, t3, t4⟩
    have hsm := len_items hv
    have en : (1 + n).toNat = 1 + n.toNat := by omega
    rw [en] at t1 t2 t3 hne
    have hL := wz.list
    have fin : ∀ (f : Nat) H3 q5, Wz K d H0 t L N vs Ti H3 → H3 q5 = none → (f = 0 ∨ ((stIs (stG e) is).1 ≤ f ∧ f ≤ 24)) → Q (.ref q5) (upd H3 q5 (.tup [.ref L, .int (f : Int)])) := fun f H3 q5 w nq hf => by
      have w1 := w.close
      have nl := w1.sub.free nq
      refine q (.ref q5) (is, f) _ Ti _ (w1.new (o := .tup [.ref L, .int (f : Int)]) nq) ⟨q5, _, rfl, upd_same, L, vs, rfl, (upd_ne (fun z => by rw [← z, upd_same] at nl; cases nl)).trans upd_same, hF.imp fun _ _ h => h.mono (RG_mono e) ((same_upd w.ln).trans (same_upd nl))⟩ ⟨hne (by omega), hv, hf⟩ (by omega) (by omega) ?_
      have := wP_le (wg := wG e) (is, f)
      dsimp only at this
      omega
    walk_at "go"
    refine c_counts hL (hF.imp fun _ _ h => h.mono (RG_mono e) wz.sub) (by omega) (fun R k => by walk_at "go"; exact k) (fun _ => rfl) (fun x i H2 hi hri s2 QV k => ?_) (fun Dl H2 n2 s2 k => ?_)
    · walk_at "n"
      walk_at "go"
      exact ⟨i, hri, hv i hi, Nat.le_trans (wIs_item hi) (by omega), k⟩
    walk_at "go"
    refine k _ ?_
    have w2 := wz.same s2
    generalize hu : (stIs (stG e) is).1 = used at *
    walk_at "go"
    refine i_dec (fun a1 => ?_) (fun a1 => ?_)
    · walk_at "go"
      refine ⟨_, d, 4, rfl, rfl, w2.dr, by decide, fun k H3 dr3 b3 => ?_⟩
      have w3 := w2.draws dr3
      walk_at "go"
      refine i_dec (fun a2 => ?_) (fun a2 => ?_)
      · walk_at "go"
        refine ⟨_, d, (25 : Int) - (used : Int), rfl, rfl, dr3, by omega, fun y H4 dr4 b4 => ?_⟩
        have y0 := b4.1
        have y1 := b4.2.1
        have y2 := b4.2.2
        obtain ⟨y, rfl⟩ : ∃ y' : Nat, y = (y' : Int) := ⟨y.toNat, by omega⟩
        walk_at "go"
        refine i_new (by show 2 ≤ 100000; omega) fun q5 nq => ?_
        have := fin (used + y) H4 q5 (w3.draws dr4) nq (.inr ⟨by omega, by omega⟩)
        rw [Int.natCast_add] at this
        exact this
      · walk_at "go"
        refine i_new (by show 2 ≤ 100000; omega) fun q5 nq => ?_
        exact fin 0 H3 q5 w3 nq (.inl rfl)
    · walk_at "go"
      refine i_new (by show 2 ≤ 100000; omega) fun q5 nq => ?_
      exact fin 0 H2 q5 w2 nq (.inl rfl)
theorem ok_L_free_text (T : Txt K mg C_GlimError C_BadText C_TooLong) (e : Nat) (he : e ≤ 6) (R : OK P w K mg base CX0 (2 * e + 32) "_law_free_part" ["_law_draw_here", "_law_depth", "_law_tally"] (sp3 (p_fpart K e))) :
    OK P w K mg base CX0 (2 * e + 33) "_law_free_text" ["_law_draw_here", "_law_depth", "_law_tally"] (sp3 (p_ftext K e)) := by
  refine OK.mk (k := 2 * e + 32) T.d_L_free_text sc_L_free_text len3 fun f cdv A outer s H vs Q E hr h => ?_
  obtain ⟨x, y, z, rfl, h⟩ := h
  refine ⟨_, (pss_one (ps_ret (pe_lc (own := [("_law_turn", 3)]) (g := gName 3) (tt := tYes) (by rfl) sc_L_free_text.nd (pi_range1 rfl T.b_range (pa_cons (pe_ix (ixK K) (pe_lst (pa_cons pe_int (pa_cons pe_int (pa_cons pe_int (pa_cons pe_int pa_nil))))) (pe_f (ok_L_pick (K := K) T) (hr.mono (by omega)) pass0 (pa_cons (pv 0) (pa_cons pe_int pa_nil))) (fun _ _ => rfl)) pa_nil)) (blkOk_by (own := [("_law_turn", 3)]) (N := ["_law_draw_here", "_law_depth", "_law_tally", "_law_turn"]) (sc := (defScope s_L_free_text)) (by decide +kernel)) (fun _ _ _ _ _ => (pg_name (i := 3) sc_L_free_text.nd rfl (Or.inl rfl))) (fun _ _ _ _ _ => pts_nil) (fun _ _ _ _ _ => (pe_f R (hr.mono (by omega)) pass0 (pa_cons (pv 0) (pa_cons (pv 1) (pa_cons (pv 2) pa_nil)))))))), ?_⟩
  show (_ : TS) { nx := fun _ H' => Q .non H', rt := Q } [some x, some y, some z, none] H
  obtain ⟨H0, d, D, t, T0, rfl, rfl, rfl, hD0, hD, nt, hc, dr, hT, q⟩ := h
  have z0 := Tz.start nt hc dr
  walk_at "go"
  refine i_lcR ?_
  walk_at "go"
  refine i_new (by show 4 ≤ 100000; omega) fun p5 np => ?_
  walk_at "go"
  refine ⟨_, d, 4, rfl, rfl, dr.new np, by decide, fun n H2 dr3 b3 => ?_⟩
  have b0 := b3.1
  have b1 := b3.2.1 (by decide)
  have key : ∃ m : Int, [V.int 1, V.int 1, V.int 2, V.int 3][n.toNat]? = some (.int m) ∧ 1 ≤ m ∧ m ≤ 3 := by
    have hn : n.toNat = 0 ∨ n.toNat = 1 ∨ n.toNat = 2 ∨ n.toNat = 3 := by omega
    rcases hn with h | h | h | h <;> rw [h] <;> exact ⟨_, rfl, by decide, by decide⟩
  obtain ⟨m, hm, m1, m2⟩ := key
  refine i_ix_lst (v := .int m) (.inl (.inl (dr3.old upd_same))) (atI_int b0 hm) ?_
  have z1 := z0.draws (by rw [un_emp]; exact dr3.less dr.cells (dr.free np))
  refine i_lcRg (by omega) (by omega) (fun _ => rfl) fun Dl nD => ?_
  refine ⟨fun i H' => ∃ (N : Hp) (acc : List V) (ps : List (PtG (Gr e))) (Ti : Nat), Wz K d H0 t Dl N acc Ti H' ∧ F2 (RP (RG e) N) acc ps ∧ (∀ p ∈ ps, vP (stG e) (vG e) p) ∧ ps.length = i ∧ T0 + i ≤ Ti ∧ Ti ≤ max (T0 + 3 * i) (39 + 9 * e + 3 * i) ∧ (ps.map fun p => (wP (wG e) p).length + 1).sum ≤ 9 * (Ti - T0), ⟨emp, [], [], T0, z1.open nD, .nil, by simp, rfl, by omega, by omega, by simp⟩, ?_, ?_⟩
  · rintro i H' hi ⟨N, acc, ps, Ti, wz, hF, hv, hl, t1, t2, t3⟩
    have hlen := hF.len
    walk_at "n"
    walk_at "go"
    refine ⟨_, d, D, t, Ti, rfl, rfl, rfl, hD0, hD, by rw [upd_ne (Ne.symm wz.ne)]; exact wz.unT, (same_upd wz.unL).seq (un_same.seq hc), wz.dr, by omega, fun v p N2 T2 H4 tz hps hvp k1 k2 k3 => ?_⟩
    have w5 := wz.call tz.nw tz.tn tz.dr
    refine ⟨acc, w5.list, ?_, un N N2, acc ++ [v], ps ++ [p], T2, w5.lset, (hF.imp fun _ _ h => h.mono (RG_mono _) un_same).snoc (hps.mono (RG_mono _) (Wz.sub1 tz.nw)), fun x hx => ?_, by rw [List.length_append, hl]; rfl, by omega, by omega, ?_⟩
    · rw [sizeLine_eq]; omega
    · rcases List.mem_append.mp hx with hx | hx
      · exact hv x hx
      · rw [List.mem_singleton.mp hx]; exact hvp
    · rw [List.map_append, List.sum_append]
      simp only [List.map_cons, List.map_nil, List.sum_cons, List.sum_nil]
      omega
  · rintro H' ⟨N, acc, ps, Ti, wz, hF, hv, hl, t1, t2, t3⟩
    have hne : ps ≠ [] := fun z => by rw [z] at hl; have hl : 0 = m.toNat := hl; omega
    exact q (.ref Dl) ps _ Ti H' wz.close ⟨Dl, acc, rfl, upd_same, hF.imp fun _ _ h => h.mono (RG_mono _) (same_upd wz.ln)⟩ ⟨hne, hv⟩ (by omega) (by omega) (by rw [wPs_sum hne]; exact t3)
theorem frees_all (T : Txt K mg C_GlimError C_BadText C_TooLong) : ∀ e, e ≤ 7 → OK P w K mg base CX0 (2 * e + 31) "_law_free_text" ["_law_draw_here", "_law_depth", "_law_tally"] (sp3 (p_ftextD K e))
  | 0, _ => by
    refine OK.mk (k := 30) T.d_L_free_text sc_L_free_text len3 fun f cdv A outer s H vs Q E hr h => ?_
    obtain ⟨x, y, z, rfl, h⟩ := h
    exact h.elim
  | e + 1, he => ok_L_free_text T e (by omega) (ok_L_free_part T e (by omega) (frees_all T e (by omega)))
theorem ftext_ok (T : Txt K mg C_GlimError C_BadText C_TooLong) (e : Nat) (he : e ≤ 6) : OK P w K mg base CX0 (2 * e + 33) "_law_free_text" ["_law_draw_here", "_law_depth", "_law_tally"] (sp3 (p_ftext K e)) := frees_all T (e + 1) (by omega)
def p_text (K : PySem.W.Frag) : P1 := fun x H Q _ => ∃ (H0 : Hp) (d : Dd), x = .ref d.a ∧ Dr K d H0 H ∧ ∀ v e H', e ≤ 6 → PsS K d H0 e 1500 v H' → Q v H'
theorem PsS.mono {K : PySem.W.Frag} {d : Dd} {H0 H : Hp} {e X Y : Nat} {v : V} (h : PsS K d H0 e X v H) (l : X ≤ Y) : PsS K d H0 e Y v H := by
  obtain ⟨N, ps, a, b, c, g⟩ := h
  exact ⟨N, ps, a, b, c, Nat.le_trans g l⟩
theorem ok_L_text (T : Txt K mg C_GlimError C_BadText C_TooLong) : OK P w K mg base CX0 46 "_law_text" ["_law_draw_here"] (sp1  (p_text K)) := by
  refine OK.mk (k := 45) T.d_L_text sc_L_text len1 fun f cdv A outer s H vs Q E hr h => ?_
  obtain ⟨x, rfl, h⟩ := h
  refine ⟨_, (pss_cons (ps_set (i := 1) sc_L_text.nd rfl (Or.inl rfl) (pe_f (ok_L_pick (K := K) T) (hr.mono (by decide)) pass0 (pa_cons (pv 0) (pa_cons pe_int pa_nil)))) (pss_cons (ps_if (pt_cmpR op_ltP (pv 1) pe_int (nomark _)) (pss_one (ps_ret (pe_f (rtext_ok (K := K) T 4 (by decide)) (hr.mono (by decide)) pass0 (pa_cons (pv 0) (pa_cons (pe_ix (ixK K) (pe_lst (pa_cons pe_int (pa_cons pe_int (pa_cons pe_int (pa_cons pe_int pa_nil))))) (pv 1) (fun _ _ => rfl)) (pa_cons pe_int (pa_cons (pe_lst pa_nil) pa_nil))))))) pss_nil) (pss_cons (ps_if (pt_cmpR (opEq K hr.units) (pv 1) pe_int (nomark _)) (pss_one (ps_ret (pe_f (ok_L_edge_text (K := K) T) (hr.mono (by decide)) pass0 (pa_cons (pv 0) pa_nil)))) pss_nil) (pss_cons (ps_if (pt_cmpR (opEq K hr.units) (pv 1) pe_int (nomark _)) (pss_one (ps_ret (pe_f (ftext_ok (K := K) T 6 (by decide)) (hr.mono (by decide)) pass0 (pa_cons (pv 0) (pa_cons pe_int (pa_cons (pe_lst pa_nil) pa_nil)))))) pss_nil) (pss_one (ps_ret (pe_f (ok_L_deep_text (K := K) T) (hr.mono (by decide)) pass0 (pa_cons (pv 0) pa_nil)))))))), ?_⟩
  show (_ : TS) { nx := fun _ H' => Q .non H', rt := Q } [some x, none] H
  obtain ⟨H0, d, rfl, dr, q⟩ := h
  walk_at "go"
  refine ⟨H0, d, 8, rfl, rfl, dr, by decide, fun k H1 dr1 b1 => ?_⟩
  have k0 := b1.1
  walk_at "go"
  refine i_dec (fun a1 => ?_) (fun a1 => ?_)
  · walk_at "go"
    refine i_new (by show 4 ≤ 100000; omega) fun p5 np => ?_
    have key : ∃ m : Nat, [V.int 24, V.int 24, V.int 12, V.int 6][k.toNat]? = some (.int (m : Int)) ∧ 1 ≤ m ∧ m ≤ 24 := by
      have hn : k.toNat = 0 ∨ k.toNat = 1 ∨ k.toNat = 2 ∨ k.toNat = 3 := by omega
      rcases hn with h | h | h | h <;> rw [h]
      · exact ⟨24, rfl, by decide, by decide⟩
      · exact ⟨24, rfl, by decide, by decide⟩
      · exact ⟨12, rfl, by decide, by decide⟩
      · exact ⟨6, rfl, by decide, by decide⟩
    obtain ⟨m, hm, m1, m2⟩ := key
    walk_at "go"
    refine i_ix_lst (v := .int (m : Int)) (.inl (.inl upd_same)) (atI_int k0 hm) ?_
    have dr2 := dr1.skip (o := .lst [V.int 24, V.int 24, V.int 12, V.int 6]) np
    walk_at "go"
    refine i_new (by show 0 ≤ 100000; omega) fun t nt => ?_
    walk_at "go"
    refine ⟨H0, d, m, 0, t, 0, rfl, rfl, rfl, rfl, m1, m2, by decide, by decide, dr2.free nt, dr.cells, dr2.new nt, by decide, fun v ps N T1 H2 tz hps hvp hle g1 g2 g3 => ?_⟩
    have y1 : Yz K d H0 N H2 := ⟨tz.nw, tz.dr.less (un_same.seq tz.hc) (un_none tz.t0 tz.tn)⟩
    exact q v 4 H2 (by decide) ⟨N, ps, y1, hps, hvp, by omega⟩
  walk_at "go"
  refine i_dec (fun a2 => ?_) (fun a2 => ?_)
  · walk_at "go"
    exact ⟨H0, d, rfl, dr1, fun v H2 h => q v 4 H2 (by decide) (h.mono (by decide))⟩
  walk_at "go"
  refine i_dec (fun a3 => ?_) (fun a3 => ?_)
  · walk_at "go"
    refine i_new (by show 0 ≤ 100000; omega) fun t nt => ?_
    walk_at "go"
    refine ⟨H0, d, 0, t, 0, rfl, rfl, rfl, by decide, by decide, dr1.free nt, dr.cells, dr1.new nt, by decide, fun v ps N T1 H2 tz hps hvp g1 g2 g3 => ?_⟩
    have y1 : Yz K d H0 N H2 := ⟨tz.nw, tz.dr.less (un_same.seq tz.hc) (un_none tz.t0 tz.tn)⟩
    exact q v 6 H2 (by decide) ⟨N, ps, y1, hps, hvp, by omega⟩
  · walk_at "go"
    exact ⟨H0, d, rfl, dr1, q⟩
end
end K04
namespace K04
open PySem PySem.Spec PyProof.Rows L2 Fg
local macro_rules | `(tactic| walk_at "sq") => `(tactic| first
  | assumption
  | exact .inl (.inl (by assumption))
  | exact .inl (.inl upd_same))
local macro_rules | `(tactic| walk_at "st") => `(tactic| first
  | assumption
  | exact .inl (.inl (by assumption))
  | exact .inl (.inl upd_same))
local macro_rules | `(tactic| walk_at "o") => `(tactic| first
  | omega
  | assumption
  | (simp only [List.length_append, List.length_take, List.length_drop, List.length_cons, List.length_nil, List.length_singleton, List.length_map, List.length_range, Int.toNat_natCast] ; omega))
local macro_rules | `(tactic| walk_at "s") => `(tactic| first
  | (with_reducible refine i_seq ?_)
  | (with_reducible refine i_asg ?_)
  | ((with_reducible refine' i_var ?h1 ?_); (case h1 => rfl))
  | (with_reducible refine i_c ?_)
  | ((with_reducible refine' i_gname' ?h1 ?_); (case h1 => (simp only [List.set_cons_zero, List.set_cons_succ]; rfl)))
  | (with_reducible refine i_op ?_)
  | (with_reducible refine i_ifS ?_)
  | (with_reducible refine i_for ?_)
  | (with_reducible refine i_test ?_)
  | (with_reducible refine i_B ?_)
  | (with_reducible refine i_exbl ?_)
  | (with_reducible refine i_exint ?_)
  | (with_reducible refine i_cb ?_)
  | (with_reducible refine i_nil ?_)
  | (with_reducible refine i_cons ?_)
  | (with_reducible refine i_ret ?_)
  | (with_reducible refine i_sl ?_)
  | (with_reducible refine i_nopart ?_)
  | (with_reducible refine i_part ?_)
  | (with_reducible refine i_add_int ?_)
  | (with_reducible refine i_sub ?_)
  | (with_reducible refine i_lt ?_)
  | ((with_reducible refine' i_mod ?h1 ?_); (case h1 => walk_at "o"))
  | ((with_reducible refine' i_fdiv ?h1 ?_); (case h1 => (refine cdiv_small ?_ ?_ <;> walk_at "o")))
  | ((with_reducible refine' i_sl_to ?h1 ?h2 ?_); (case h1 => walk_at "o"); (case h2 => walk_at "o"))
  | ((with_reducible refine' i_sl_from ?h1 ?h2 ?_); (case h1 => walk_at "o"); (case h2 => walk_at "o"))
  | ((with_reducible refine' i_add_str ?h1 ?_); (case h1 => walk_at "o"))
  | ((with_reducible refine' i_mul_int ?h1 ?_); (case h1 => first | (refine mul_small ?_ ?_ <;> walk_at "o") | (refine mul_smallR ?_ ?_ <;> walk_at "o")))
  | (with_reducible refine i_le ?_)
  | (with_reducible refine i_gt ?_)
  | (with_reducible refine i_ge ?_)
  | (with_reducible refine i_eq_int ?_)
  | (with_reducible refine i_eq_str ?_)
  | (with_reducible refine i_ne_int ?_)
  | (with_reducible refine i_ne_str ?_)
  | (with_reducible refine i_eq_bl ?_)
  | (with_reducible refine i_ne_bl ?_)
  | (with_reducible refine i_in_sg ?_)
  | (with_reducible refine i_notIn_sg ?_)
  | (with_reducible refine i_call ?_)
  | (with_reducible refine i_callS ?_)
  | (with_reducible refine i_sp1 ?_)
  | (with_reducible refine i_sp2 ?_)
  | (with_reducible refine i_sp3 ?_)
  | (with_reducible refine i_sp4 ?_)
  | (with_reducible refine i_sp1' ?_)
  | (with_reducible refine i_sp2' ?_)
  | (with_reducible refine i_sp3' ?_)
  | ((with_reducible refine' i_ix_lst ?h1 ?h2 ?_); (case h1 => walk_at "sq"); (case h2 => first | exact atI_nat rfl | rfl))
  | ((with_reducible refine' i_ix_tup ?h1 ?h2 ?_); (case h1 => walk_at "st"); (case h2 => first | exact atI_nat rfl | rfl))
  | (with_reducible refine i_gsub ?_)
  | (with_reducible refine i_par ?_)
  | (with_reducible refine i_lstRg1 ?_)
  | (with_reducible refine i_app ?_)
  | (with_reducible refine i_par2 ?_)
  | ((with_reducible refine' i_aug ?h1 ?_); (case h1 => rfl))
  | (with_reducible refine i_ipI ?_)
  | ((with_reducible refine' i_gtup2 ?h1 ?_); (case h1 => walk_at "st"))
  | (with_reducible refine i_int_bl ?_)
  | (with_reducible refine i_raise ?_)
  | (with_reducible refine i_mkE ?_)
  | (with_reducible refine i_ex1 ?_)
  | (with_reducible refine i_and ?_)
  | (with_reducible refine i_or ?_)
  | (with_reducible refine i_not ?_)
  | (with_reducible refine i_tt ?_)
  | (with_reducible refine i_ff ?_)
  | (with_reducible refine i_nott ?_)
  | (with_reducible refine i_notf ?_)
  | (with_reducible refine i_andV ?_)
  | (with_reducible refine i_orV ?_)
  | (with_reducible refine i_notV ?_)
  | (with_reducible refine i_ifE ?_)
  | (with_reducible refine i_tup ?_)
  | (with_reducible refine i_lst ?_)
  | (with_reducible refine i_un ?_)
  | (with_reducible refine i_neg ?_)
  | (with_reducible refine i_chain ?_)
  | (with_reducible refine i_next ?_)
  | (with_reducible refine i_retN ?_)
  | (with_reducible refine i_drop ?_)
  | (with_reducible refine i_int_int ?_)
  | (with_reducible refine i_abs ?_)
  | (with_reducible refine i_m1c ?_)
  | (with_reducible refine i_is_non ?_)
  | (with_reducible refine i_is_int ?_)
  | (with_reducible refine i_is_bl ?_)
  | (with_reducible refine i_isn_bl ?_)
  | (with_reducible refine i_is_str ?_)
  | (with_reducible refine i_is_ref ?_)
  | (with_reducible refine i_isn_non ?_)
  | (with_reducible refine i_isn_int ?_)
  | (with_reducible refine i_isn_str ?_)
  | (with_reducible refine i_isn_ref ?_)
  | (with_reducible refine i_len_str ?h1 ?_; (case h1 => walk_at "o"))
  | (with_reducible refine i_isi_int_int ?_) | (with_reducible refine i_isi_int_bool ?_) | (with_reducible refine i_isi_int_str ?_) | (with_reducible refine i_isi_int_tuple ?_) | (with_reducible refine i_isi_int_list ?_)
  | (with_reducible refine i_isi_bl_int ?_) | (with_reducible refine i_isi_bl_bool ?_) | (with_reducible refine i_isi_bl_str ?_) | (with_reducible refine i_isi_bl_tuple ?_) | (with_reducible refine i_isi_bl_list ?_)
  | (with_reducible refine i_isi_str_int ?_) | (with_reducible refine i_isi_str_bool ?_) | (with_reducible refine i_isi_str_str ?_) | (with_reducible refine i_isi_str_tuple ?_) | (with_reducible refine i_isi_str_list ?_)
  | (with_reducible refine i_isi_non_int ?_) | (with_reducible refine i_isi_non_bool ?_) | (with_reducible refine i_isi_non_str ?_) | (with_reducible refine i_isi_non_tuple ?_) | (with_reducible refine i_isi_non_list ?_))
local macro_rules | `(tactic| walk_at "go") => `(tactic| (repeat' (walk_at "s")))
local macro_rules | `(tactic| walk_at "n") => `(tactic| simp only [wipe, List.map_cons, List.map_nil, List.set_cons_zero, List.set_cons_succ])
abbrev LONG : List Nat := [108, 111, 110, 103]
abbrev ROWW : List Nat := [114, 111, 119]
/-- a comprehension over a text -/
theorem c_strW {K : PySem.W.Frag} {σ : L2.St} {H : Hp} {Q : VK} {te tl : TE} {j : Nat} {vs : List Nat} {z : List Nat} (ha : ∀ R : VK, R (S z) H → tl σ H R) (hw : ∀ x, wipe ((wipe σ vs).set j (some x)) vs = wipe σ vs) (W : Addr → Nat → Hp → Prop) (h0 : ∀ Dl, H Dl = none → W Dl 0 (upd H Dl (.lst [])))
    (hs : ∀ Dl i c H', H Dl = none → z[i]? = some c → W Dl i H' → te ((wipe σ vs).set j (some (S [c]))) H' fun y H4 => ∃ acc, H4 Dl = some (.lst acc) ∧ acc.length < sizeLine ∧ W Dl (i + 1) (upd H4 Dl (.lst (acc ++ [y]))))
    (q : ∀ Dl H', H Dl = none → W Dl z.length H' → Q (.ref Dl) H') : tLc (iAny K tl) (gName j) tYes te vs σ H Q := by
  have e : (⟨z.toArray⟩ : Str).cps.size = z.length := str_len z
  refine ha _ (.inr (.inr ⟨⟨z.toArray⟩, rfl, fun Dl nD => ?_⟩))
  refine lc_it walk_str (W Dl) (h0 Dl nD) (fun _ _ _ _ => True.intro) (fun i x H' H2 hi p y => ?_) (fun H' p => ?_)
  · obtain ⟨rfl, c, hc, rfl⟩ := y
    exact ⟨hw _, i_yes (i_tt (hs Dl i c _ nD (by simpa using hc) p))⟩
  · rw [e] at p
    exact q Dl H' nD p
def dueS (s : Stv) : HO := if 24 < s.1 then .tup [S LONG, .int (s.1 : Int)] else .tup [S ROWW, S s.2]
section
variable {P : Program} {w : World} {K : PySem.W.Frag} {mg : Str → Option Value} {base : Heap} {C_GlimError C_BadText C_TooLong : Addr}
theorem sgn_ok (T : Txt K mg C_GlimError C_BadText C_TooLong) (d : Nat) (hd : d ≤ 6) : OK P w K mg base CX0 (2 * d + 25) "_law_sign_at" ["_law_parts", "_law_spot"] (sp2 (p_sgn d)) := sign_all T (d + 1) (by omega)
def p_wA : P1 := fun x H Q E => ∃ e, e ≤ 6 ∧ p_w e x H Q E
theorem write_any (T : Txt K mg C_GlimError C_BadText C_TooLong) : OK P w K mg base CX0 22 "_law_write" ["_law_parts"] (sp1 p_wA) := by
  obtain ⟨f, fd, F, hm, hb⟩ := T.d_L_write
  have G : ∀ e, e ≤ 6 → FnOk P w K mg base CX0 22 f fd ["_law_parts"] (sp1 (p_w e)) := fun e he => (okF_L_write T e (ok_L_write_part T e (ok_L_write_item T e (write_all T e))) F).mono (by omega)
  refine ⟨f, fd, ⟨fun vs H Q E h => len1 vs H Q E h, fun A outer s H args us vs Q E hr he hb hv hs => ?_⟩, hm, F.kp, hb⟩
  obtain ⟨x, rfl, e, he6, h⟩ := hs
  exact (G e he6).run A outer s H args us _ Q E hr he hb hv ⟨x, rfl, h⟩
def p_due : P1 := fun x H Q _ => ∃ d, ∃ hd : d ≤ 6, ∃ ps : List (PtG (Gr d)), RPs (RG d) H x ps ∧ vPs (stG d) (vG d) ps ∧ (wPs (wG d) ps).length ≤ 1700 ∧ ∀ p H', Same H H' → H' p = some (dueS (stPs (stG d) ps)) → Q (.ref p) H'
theorem ok_L_due (T : Txt K mg C_GlimError C_BadText C_TooLong) : OK P w K mg base CX0 46 "_law_due" ["_law_parts"] (sp1  p_due) := by
  refine OK.mk (k := 45) T.d_L_due sc_L_due len1 fun f cdv A outer s H vs Q E hr h => ?_
  obtain ⟨x, rfl, h⟩ := h
  obtain ⟨d, hd, h⟩ := h
  refine ⟨_, (pss_cons (ps_set (i := 1) sc_L_due.nd rfl (Or.inl rfl) (pe_f (cnt_ok (K := K) T d hd) (hr.mono (by omega)) pass0 (pa_cons (pv 0) pa_nil))) (pss_cons (ps_if (pt_cmpR op_gtP (pv 1) pe_int (nomark _)) (pss_one (ps_ret (pe_tup (pa_cons (pe_S [108, 111, 110, 103]) (pa_cons (pv 1) pa_nil))))) pss_nil) (pss_one (ps_ret (pe_tup (pa_cons (pe_S [114, 111, 119]) (pa_cons (peJoin K (pe_S []) (pe_lc (own := [("_law_spot", 2)]) (g := gName 2) (tt := tYes) (by rfl) sc_L_due.nd (pi_range1 rfl T.b_range (pa_cons (pv 1) pa_nil)) (blkOk_by (own := [("_law_spot", 2)]) (N := ["_law_parts", "_law_many", "_law_spot"]) (sc := (defScope s_L_due)) (by decide +kernel)) (fun _ _ _ _ _ => (pg_name (i := 2) sc_L_due.nd rfl (Or.inl rfl))) (fun _ _ _ _ _ => pts_nil) (fun _ _ _ _ _ => (pe_f (sgn_ok (K := K) T d hd) (hr.mono (by omega)) pass0 (pa_cons (pv 0) (pa_cons (pv 2) pa_nil)))))) pa_nil))))))), ?_⟩
  show (_ : TS) { nx := fun _ H' => Q .non H', rt := Q } [some x, none, none] H
  obtain ⟨ps, hr, hv, hl, q⟩ := h
  unfold dueS at q
  obtain ⟨a, vs, rfl, ha, hF⟩ := id hr
  have hrow := sgn_row (stG_pos d) hv
  have hpos := stPs_pos (stG_pos d) hv
  walk_at "go"
  refine ⟨ps, hr, hv, hl, fun H1 s1 => ?_⟩
  generalize hst : stPs (stG d) ps = st at *
  obtain ⟨n, row⟩ := st
  dsimp only at q hrow hpos ⊢
  walk_at "go"
  refine i_dec (fun a1 => ?_) (fun a1 => ?_)
  · rw [if_pos (by omega)] at q
    walk_at "go"
    refine i_new (by show 2 ≤ 100000; omega) fun p np => ?_
    exact q p _ (s1.trans (same_upd np)) upd_same
  · have h24 : n ≤ 24 := by omega
    rw [if_neg (by omega)] at q
    walk_at "go"
    refine c_rng1A n (fun R k => by walk_at "go"; exact k) (by omega) (fun i => S [sgn (stG d) ps i]) (fun _ => rfl) (fun i H2 hi s2 QV k => ?_) (fun Dl H2 n2 s2 d2 => ?_)
    · walk_at "n"
      walk_at "go"
      exact ⟨ps, i, RPs.mono (RG_mono d) hr (s1.trans s2), rfl, hv, hl, by rw [hst]; exact h24, k⟩
    · have e : (List.range n).map (sgn (stG d) ps) = row := by
        refine List.ext_getElem? fun i => ?_
        rw [List.getElem?_map]
        by_cases hi : i < n
        · rw [List.getElem?_range hi, Option.map_some, ← hrow h24 i, Nat.mod_eq_of_lt hi, List.getD_eq_getElem?_getD, List.getElem?_eq_getElem (by rw [hpos.2 h24]; exact hi)]
          rfl
        · rw [List.getElem?_eq_none (by simpa using hi), List.getElem?_eq_none (by rw [hpos.2 h24]; omega)]
          rfl
      have e2 : (List.range n).map (fun i => S [sgn (stG d) ps i]) = row.map fun c => S [c] := by
        rw [← e, List.map_map]
        rfl
      rw [e2] at d2
      walk_at "go"
      refine i_join1 (.inl (.inl d2)) (by rw [hpos.2 h24]; omega) ?_
      walk_at "go"
      refine i_new (by show 2 ≤ 100000; omega) fun p np => ?_
      exact q p _ ((s1.trans s2).trans (same_upd np)) upd_same
def p_told : P1 := fun x H Q _ => ∃ (z : List Nat) (s : Stv), x = S z ∧ z.length ≤ 1700 ∧ told z = .done s ∧ ∀ p H', Same H H' → H' p = some (dueS s) → Q (.ref p) H'
theorem ok_L_told (T : Txt K mg C_GlimError C_BadText C_TooLong) : OK P w K mg base CX0 26 "_law_told" ["_law_text_here"] (sp1  p_told) := by
  refine OK.mk (k := 25) T.d_L_told sc_L_told len1 fun f cdv A outer s H vs Q E hr h => ?_
  obtain ⟨x, rfl, h⟩ := h
  refine ⟨_, (pss_cons (ps_try_as (i := 1) rfl rfl sc_L_told.nd rfl rfl ⟨rfl, by decide, Or.inl T.c_TooLong⟩ takes0 (fun W pn xe tk _ => (pss_one (ps_ret (pe_tup (pa_cons (pe_S [114, 111, 119]) (pa_cons (pe_fS (ok_read_round (K := K) T) (hr.mono (by decide)) (fun σ => passAt tk σ) (pa_cons (pv 0) pa_nil)) pa_nil)))))) (fun a oe cls d pn hz hf => (pss_one (ps_if (pw_and (pt_val (pe_callB (cIsX K hz hf) (by rfl) T.b_isinstance (by decide +kernel) (pa_cons (pv 1) (pa_cons (pe_gR _ T.c_GlimError) pa_nil)))) (pw_and (pt_val (pe_callB (cIsX K hz hf) (by rfl) T.b_isinstance (by decide +kernel) (pa_cons (pv 1) (pa_cons (pe_bltn (v := .ty "ValueError") (by rfl) T.b_ValueError (by decide +kernel) rfl) pa_nil)))) (pw_and1 (pt_not (pt_val (pe_callB (cIsX K hz hf) (by rfl) T.b_isinstance (by decide +kernel) (pa_cons (pv 1) (pa_cons (pe_gR _ T.c_BadText) pa_nil)))))))).pt (pss_one (ps_ret (pe_tup (pa_cons (pe_S [108, 111, 110, 103]) (pa_cons (pe_xf T.e_TooLong.xf T.nf_TooLong hz hf (pv 1)) pa_nil))))) pss_nil)))) (pss_one (ps_ret (pe_tup (pa_cons (pe_S [111, 116, 104, 101, 114]) (pa_cons pe_non pa_nil)))))), ?_⟩
  show (_ : TS) { nx := fun _ H' => Q .non H', rt := Q } [some x, none] H
  obtain ⟨z, st, rfl, hz, ht, q⟩ := h
  have hrd : ∃ e, rd z 6 0 = .ok (st, e) ∧ ¬ e < z.length := by
    unfold told at ht
    cases hr : rd z 6 0 with
    | error k => rw [hr] at ht; cases ht
    | ok se =>
      obtain ⟨s1, e1⟩ := se
      rw [hr] at ht
      dsimp only at ht
      by_cases he : e1 < z.length
      · rw [if_pos he] at ht; cases ht
      · rw [if_neg he] at ht
        cases ht
        exact ⟨e1, rfl, he⟩
  obtain ⟨e1, hr1, he⟩ := hrd
  unfold dueS at q
  walk_at "go"
  refine .inl ⟨z, rfl, hz, ?_⟩
  unfold OutR
  rw [hr1]
  dsimp only
  rw [if_neg he]
  by_cases h24 : 24 < st.1
  · rw [if_pos h24] at q ⊢
    intro dd H1 n1 s1 e2
    refine i_caught T.m_TooLong_TooLong fun a na => ?_
    show (_ : TS) _ [some (S z), some (.ref a)] H1
    walk_at "go"
    refine i_isX e2 T.e_TooLong (.own _) T.k_TooLong_GlimError ?_
    walk_at "go"
    refine i_isX e2 T.e_TooLong (.ty _) T.k_TooLong_ValueError ?_
    walk_at "go"
    refine i_isX e2 T.e_TooLong (.own _) T.k_TooLong_BadText ?_
    walk_at "go"
    refine i_xf rfl e2 ?_
    walk_at "go"
    refine i_new (by show 2 ≤ 100000; omega) fun p np => ?_
    exact q p _ (s1.trans (same_upd np)) upd_same
  · rw [if_neg h24] at q ⊢
    intro H1 s1
    walk_at "go"
    refine i_new (by show 2 ≤ 100000; omega) fun p np => ?_
    exact q p _ (s1.trans (same_upd np)) upd_same
def Good (d : HO) : Prop := (∃ l, d = .tup [S ROWW, S l]) ∨ ∃ w i, d = .tup [S w, .int i] ∧ w ≠ ROWW
theorem dueS_good (s : Stv) : Good (dueS s) := by
  unfold dueS
  split
  · exact .inr ⟨_, _, rfl, by decide⟩
  · exact .inl ⟨_, rfl⟩
def p_agree : P2 := fun x y H Q _ => ∃ p p' d, x = .ref p ∧ y = .ref p' ∧ H p = some d ∧ H p' = some d ∧ Good d ∧ Q (.bl true) H
theorem ok_L_agree (T : Txt K mg C_GlimError C_BadText C_TooLong) : OK P w K mg base CX0 2 "_law_agree" ["_law_told_here", "_law_due_here"] (sp2  p_agree) := by
  refine OK.mk (k := 1) T.d_L_agree sc_L_agree len2 fun f cdv A outer s H vs Q E hr h => ?_
  obtain ⟨x, y, rfl, h⟩ := h
  refine ⟨_, (pss_cons (ps_if (pt_cmpR (opNe K hr.units) (pe_ix (ixK K) (pv 0) pe_int (fun _ _ => rfl)) (pe_ix (ixK K) (pv 1) pe_int (fun _ _ => rfl)) (nomark _)) (pss_one (ps_ret pe_bl)) pss_nil) (pss_cons (ps_if (pt_cmpR (opEq K hr.units) (pe_ix (ixK K) (pv 1) pe_int (fun _ _ => rfl)) (pe_S [114, 111, 119]) (nomark _)) (pss_one (ps_ret (pe_and (pe_callB (cIsi K) (by rfl) T.b_isinstance (by decide +kernel) (pa_cons (pe_ix (ixK K) (pv 0) pe_int (fun _ _ => rfl)) (pa_cons (pe_bltn (v := .ty "str") (by rfl) T.b_str (by decide +kernel) rfl) pa_nil))) (pe_one (pe_cmpR (opEq K hr.units) (pe_ix (ixK K) (pv 0) pe_int (fun _ _ => rfl)) (pe_ix (ixK K) (pv 1) pe_int (fun _ _ => rfl)) (nomark _)))))) pss_nil) (pss_one (ps_ret (pe_and (pe_f (ok_L_is_int (K := K) T) (hr.mono (by decide)) pass0 (pa_cons (pe_ix (ixK K) (pv 0) pe_int (fun _ _ => rfl)) pa_nil)) (pe_one (pe_cmpR (opEq K hr.units) (pe_ix (ixK K) (pv 0) pe_int (fun _ _ => rfl)) (pe_ix (ixK K) (pv 1) pe_int (fun _ _ => rfl)) (nomark _)))))))), ?_⟩
  show (_ : TS) { nx := fun _ H' => Q .non H', rt := Q } [some x, some y] H
  obtain ⟨p, p', d, rfl, rfl, h1, h2, g, q⟩ := h
  rcases g with ⟨l, rfl⟩ | ⟨w', i, rfl, hw⟩
  · walk_at "go"
    refine i_decN (fun e => absurd rfl e) (fun _ => ?_)
    walk_at "go"
    refine i_dec (fun _ => ?_) (fun e => absurd rfl e)
    walk_at "go"
    rw [decide_eq_true rfl]
    exact q
  · walk_at "go"
    refine i_decN (fun e => absurd rfl e) (fun _ => ?_)
    walk_at "go"
    refine i_dec (fun e => absurd e hw) (fun _ => ?_)
    walk_at "go"
    refine ⟨.inr (.inr (.inr (.inl ⟨_, rfl⟩))), ?_⟩
    rw [show isI (.int i) = true from rfl]
    walk_at "go"
    rw [decide_eq_true rfl]
    exact q
/-- what the law asks -/
def p_law (K : PySem.W.Frag) : P1 := fun x H Q _ => ∃ (a : Addr) (ns : List Int), x = .ref a ∧ SqL K H a (ns.map V.int) ∧ ns.length ≤ 63 ∧ ∀ H', Q (.bl true) H'
theorem ok_law_at {f : Addr} {fd : FuncData} (F : Fun K "law" "law" s_law f fd) (T : Txt K mg C_GlimError C_BadText C_TooLong) : FnOk P w K mg base CX0 47 f fd ["_law_script"] (sp1 (p_law K)) := by
  refine FnOK.mk (k := 46) F sc_law len1 fun cdv A outer s H vs Q E hr h => ?_
  obtain ⟨x, rfl, h⟩ := h
  refine ⟨_, (pss_cons (ps_set (i := 1) sc_law.nd rfl (Or.inr rfl) (pe_f (ok_L_draw (K := K) T) (hr.mono (by decide)) pass0 (pa_cons (pv 0) pa_nil))) (pss_cons (ps_set (i := 2) sc_law.nd rfl (Or.inl rfl) (pe_f (ok_L_text (K := K) T) (hr.mono (by decide)) pass0 (pa_cons (pv 1) pa_nil))) (pss_cons (ps_set (i := 3) sc_law.nd rfl (Or.inl rfl) (pe_f (ok_L_text (K := K) T) (hr.mono (by decide)) pass0 (pa_cons (pv 1) pa_nil))) (pss_cons (ps_for PassesOwn.never rfl (piAny K (pe_lst (pa_cons (pv 2) (pa_cons (pv 3) (pa_cons (pv 2) pa_nil))))) (pg_name (i := 4) sc_law.nd rfl (Or.inl rfl)) (pss_one (ps_if (pt_not (pt_val (pe_f (ok_L_agree (K := K) T) (hr.mono (by decide)) pass0 (pa_cons (pe_f (ok_L_told (K := K) T) (hr.mono (by decide)) pass0 (pa_cons (pe_f (write_any (K := K) T) (hr.mono (by decide)) pass0 (pa_cons (pv 4) pa_nil)) pa_nil)) (pa_cons (pe_f (ok_L_due (K := K) T) (hr.mono (by decide)) pass0 (pa_cons (pv 4) pa_nil)) pa_nil))))) (pss_one (ps_ret pe_bl)) pss_nil))) (pss_cons (ps_set (i := 5) sc_law.nd rfl (Or.inl rfl) (peJoin K (pe_S []) (pe_lc (own := [("_law_turn", 6)]) (g := gName 6) (tt := tYes) (by rfl) sc_law.nd (pi_range1 rfl T.b_range (pa_cons (pe_op (opAdd K) pe_int (pe_f (ok_L_pick (K := K) T) (hr.mono (by decide)) pass0 (pa_cons (pv 1) (pa_cons pe_int pa_nil)))) pa_nil)) (blkOk_by (own := [("_law_turn", 6)]) (N := ["_law_script", "_law_draw_here", "_law_first", "_law_second", "_law_parts", "_law_plain", "_law_turn", "_law_sign_here"]) (sc := (defScope s_law)) (by decide +kernel)) (fun _ _ _ _ _ => (pg_name (i := 6) sc_law.nd rfl (Or.inl rfl))) (fun _ _ _ _ _ => pts_nil) (fun _ _ _ _ _ => (pe_f (ok_L_sign (K := K) T) (hr.mono (by decide)) pass0 (pa_cons (pv 1) pa_nil)))))) (pss_one (ps_ret (pe_f (ok_L_agree (K := K) T) (hr.mono (by decide)) pass0 (pa_cons (pe_f (ok_L_told (K := K) T) (hr.mono (by decide)) pass0 (pa_cons (pv 5) pa_nil)) (pa_cons (pe_f (ok_L_due (K := K) T) (hr.mono (by decide)) pass0 (pa_cons (pe_lst (pa_cons (pe_tup (pa_cons (pe_lc (own := [("_law_sign_here", 7)]) (g := gName 7) (tt := tYes) (by rfl) sc_law.nd (piAny K (pv 5)) (blkOk_by (own := [("_law_sign_here", 7)]) (N := ["_law_script", "_law_draw_here", "_law_first", "_law_second", "_law_parts", "_law_plain", "_law_turn", "_law_sign_here"]) (sc := (defScope s_law)) (by decide +kernel)) (fun _ _ _ _ _ => (pg_name (i := 7) sc_law.nd rfl (Or.inl rfl))) (fun _ _ _ _ _ => pts_nil) (fun _ _ _ _ _ => (pe_tup (pa_cons pe_int (pa_cons (pv 7) pa_nil))))) (pa_cons pe_int pa_nil))) pa_nil)) pa_nil)) pa_nil)))))))))), ?_⟩
  show (_ : TS) { nx := fun _ H' => Q .non H', rt := Q } [some x, none, none, none, none, none, none, none] H
  obtain ⟨a, ns, rfl, hS, hl, q⟩ := h
  walk_at "go"
  refine ⟨a, ns, rfl, hS, by omega, fun H0 d H1 s0 dr => ?_⟩
  walk_at "go"
  refine ⟨H0, d, rfl, dr, fun v1 d1 H2 hd1 ⟨N1, ps1, y1, hp1, hv1, hl1⟩ => ?_⟩
  walk_at "go"
  refine ⟨un H0 N1, d, rfl, y1.dr, fun v2 d2 H3 hd2 ⟨N2, ps2, y2, hp2, hv2, hl2⟩ => ?_⟩
  have k1 : RPs (RG d1) (un (un H0 N1) N2) v1 ps1 := RPs.mono (RG_mono d1) hp1 ((un_new y1.nw).trans un_same)
  have k2 : RPs (RG d2) (un (un H0 N1) N2) v2 ps2 := RPs.mono (RG_mono d2) hp2 (un_new y2.nw)
  walk_at "go"
  refine i_new (by show 3 ≤ 100000; omega) fun pl nl => ?_
  obtain ⟨HG, sG, eG, drG⟩ := y2.dr.step (.lst [v1, v2, v1]) nl
  refine i_forL (.inl (.inl upd_same)) (fun i σ' H' => ∃ b, σ' = [some (.ref a), some (.ref d.a), some v1, some v2, b, none, none, none] ∧ Dr K d HG H') ⟨_, rfl, drG⟩ ?_ ?_ ?_
  · rintro i σ' H' _ ⟨b, rfl, dr8⟩
    exact .inl (.inl (dr8.old eG))
  · rintro i x σ' H8 hi ⟨b, rfl, dr8⟩
    have hx : ∃ e, e ≤ 6 ∧ ∃ ps : List (PtG (Gr e)), RPs (RG e) H8 x ps ∧ vPs (stG e) (vG e) ps ∧ (wPs (wG e) ps).length ≤ 1500 := by
      have m : ∀ v e (ps : List (PtG (Gr e))), RPs (RG e) (un (un H0 N1) N2) v ps → RPs (RG e) H8 v ps := fun v e ps h => RPs.mono (RG_mono e) h (sG.trans dr8.1)
      match i, hi with
      | 0, h => cases h; exact ⟨d1, hd1, ps1, m _ _ _ k1, hv1, hl1⟩
      | 1, h => cases h; exact ⟨d2, hd2, ps2, m _ _ _ k2, hv2, hl2⟩
      | 2, h => cases h; exact ⟨d1, hd1, ps1, m _ _ _ k1, hv1, hl1⟩
    obtain ⟨e, he, ps, hp, hv, hl⟩ := hx
    walk_at "go"
    refine ⟨e, he, ps, hp, hv, by omega, fun H9 s9 => ?_⟩
    walk_at "go"
    refine ⟨wPs (wG e) ps, stPs (stG e) ps, rfl, by omega, told_ok e he ps hv, fun p H10 s10 h10 => ?_⟩
    walk_at "go"
    refine ⟨e, he, ps, RPs.mono (RG_mono e) hp (s9.trans s10), hv, by omega, fun p' H11 s11 h11 => ?_⟩
    walk_at "go"
    refine ⟨p, p', _, rfl, rfl, s11 _ _ h10, h11, dueS_good _, ?_⟩
    walk_at "go"
    exact ⟨_, rfl, ((dr8.same s9).same s10).same s11⟩
  · rintro σ' H8 ⟨b, rfl, dr8⟩
    walk_at "go"
    have n24 : ∀ n : Int, Btw n 26 → 0 ≤ n ∧ n < 26 := fun n b => ⟨b.1, b.2.1 (by decide)⟩
    refine c_rngD (K := K) (d := d) (H0 := HG) (fun z => 1 ≤ z ∧ z ≤ 26) (fun R k => ?_) (fun z h => ⟨by omega, by omega⟩) (fun i acc => ∃ cs : List Nat, acc = cs.map (fun c => S [c]) ∧ cs.length = i ∧ (∀ c ∈ cs, c ∈ SG) ∧ i ≤ 100000) ⟨[], rfl, rfl, by simp, by omega⟩ (fun i acc h => ?_) (fun _ => rfl) (fun z i acc Hk H9 pz hi pc dr9 QV k => ?_) (fun z Dl H9 acc pz nD pc dr9 => ?_)
    · walk_at "go"
      refine ⟨_, d, 26, rfl, rfl, dr8, by decide, fun n H9 dr9 b9 => ?_⟩
      have := n24 n b9
      walk_at "go"
      exact k _ H9 dr9 ⟨by omega, by omega⟩
    · obtain ⟨cs, rfl, hl, _, h⟩ := h
      rw [List.length_map]; omega
    · obtain ⟨cs, rfl, hl, hc, h⟩ := pc
      walk_at "n"
      walk_at "go"
      refine ⟨_, d, rfl, dr9, fun c H10 dr10 hc' => ?_⟩
      refine k _ H10 dr10 ⟨cs ++ [c], by rw [List.map_append]; rfl, by rw [List.length_append, hl]; rfl, fun x hx => ?_, by omega⟩
      rcases List.mem_append.mp hx with hx | hx
      · exact hc x hx
      · rw [List.mem_singleton.mp hx]; exact hc'
    obtain ⟨cs, rfl, hlc, hcs, _⟩ := pc
    have hn : cs.length ≤ 26 := by omega
    have hn1 : 1 ≤ cs.length := by omega
    refine i_join1 (.inl (.inl (dr9.old upd_same))) (by omega) ?_
    walk_at "go"
    -- its tree
    have hv : vPs (stG 0) (vG 0) [(cs.map fun c => .inl (0, c), 0)] := by
      refine ⟨by simp, fun p hp => ?_⟩
      rw [List.mem_singleton.mp hp]
      refine ⟨?_, fun i hi => ?_, .inl rfl⟩
      · intro h0
        have := congrArg List.length h0
        simp at this
        rw [this] at hn1
        exact absurd hn1 (by decide)
      · obtain ⟨c, hc, rfl⟩ := List.mem_map.mp hi
        exact ⟨hcs c hc, .inl rfl⟩
    have hw : wPs (wG 0) [(cs.map fun c => (.inl (0, c) : ItG (Gr 0)), 0)] = cs := by
      rw [wPs_one]
      clear hv hn hn1 hlc dr9
      induction cs with
      | nil => rfl
      | cons c r ih =>
        show (wI (wG 0) (.inl (0, c)) :: (r.map fun c => (.inl (0, c) : ItG (Gr 0))).map (wI (wG 0))).flatten = _
        rw [List.flatten_cons]
        have := ih fun x hx => hcs x (List.mem_cons_of_mem _ hx)
        unfold wIs at this
        rw [this]
        rfl
    have ht := told_ok 0 (by decide) [(cs.map fun c => .inl (0, c), 0)] hv
    rw [show wG 1 [(cs.map fun c => (.inl (0, c) : ItG (Gr 0)), 0)] = wPs (wG 0) [(cs.map fun c => (.inl (0, c) : ItG (Gr 0)), 0)] from rfl, hw] at ht
    refine ⟨cs, _, rfl, by omega, ht, fun p H10 s10 h10 => ?_⟩
    walk_at "go"
    refine c_strW (z := cs) (fun R k => by walk_at "go"; exact k) (fun _ => rfl) (fun D2 i H' => ∃ acc, H' D2 = some (.lst acc) ∧ F2 (fun v c => ∃ a, v = V.ref a ∧ H' a = some (.tup [.int 0, S [c]])) acc (cs.take i) ∧ Same H10 H') (fun D2 n2 => ⟨[], upd_same, .nil, same_upd n2⟩) (fun D2 i c H' n2 hc ⟨acc, e1, hF, s1⟩ => ?_) (fun D2 H' n2 ⟨acc, e1, hF, s1⟩ => ?_)
    · walk_at "n"
      walk_at "go"
      refine i_new (by show 2 ≤ 100000; omega) fun q1 m1 => ?_
      have hlen := hF.len
      have hci := (List.getElem?_eq_some_iff.mp hc).1
      rw [List.length_take] at hlen
      have nq : D2 ≠ q1 := ne_of_none e1 m1
      refine ⟨acc, (upd_ne nq).trans e1, by rw [sizeLine_eq]; omega, acc ++ [.ref q1], upd_same, ?_, ?_⟩
      · rw [List.take_succ, hc]
        refine (hF.imp fun v c h => ?_).snoc ⟨q1, rfl, by rw [upd_ne (Ne.symm nq), upd_same]⟩
        obtain ⟨a, rfl, ha⟩ := h
        exact ⟨a, rfl, by rw [upd_ne (fun z => by rw [z, e1] at ha; cases ha), upd_ne (ne_of_none ha m1)]; exact ha⟩
      · exact Same.upd (s1.trans (same_upd m1)) n2
    rw [List.take_length] at hF
    walk_at "go"
    refine i_new (by show 2 ≤ 100000; omega) fun q1 m1 => ?_
    walk_at "go"
    refine i_new (by show 1 ≤ 100000; omega) fun q2 m2 => ?_
    have s12 : Same H' (upd (upd H' q1 (.tup [.ref D2, .int 0])) q2 (.lst [.ref q1])) := (same_upd m1).trans (same_upd m2)
    walk_at "go"
    refine ⟨0, by decide, [(cs.map fun c => .inl (0, c), 0)], ⟨q2, _, rfl, upd_same, .cons ⟨q1, .ref D2, rfl, (upd_ne (fun z => by rw [← z, upd_same] at m2; cases m2)).trans upd_same, D2, acc, rfl, s12 _ _ e1, ?_⟩ .nil⟩, hv, by rw [hw]; omega, fun p' H11 s11 h11 => ?_⟩
    · have : ∀ {acc : List V} {cs : List Nat}, F2 (fun v c => ∃ a, v = V.ref a ∧ H' a = some (.tup [.int 0, S [c]])) acc cs → F2 (RI (RG 0) (upd (upd H' q1 (.tup [.ref D2, .int 0])) q2 (.lst [.ref q1]))) acc (cs.map fun c => (.inl (0, c) : ItG (Gr 0))) := fun h => by
        induction h with
        | nil => exact .nil
        | cons h1 _ ih =>
          obtain ⟨a, rfl, ha⟩ := h1
          exact .cons ⟨a, rfl, s12 _ _ ha⟩ ih
      exact this hF
    · walk_at "go"
      refine ⟨p, p', _, rfl, rfl, s11 _ _ (s12 _ _ (s1 _ _ h10)), h11, dueS_good _, ?_⟩
      exact q _
end
end K04
namespace K04
open PySem PySem.Spec PyProof.Rows L2 Fg
theorem all_mk {l : PySem.W.OpenLaw} {w : World} {K : PySem.W.Frag} {h : Heap} {mg : Str → Option Value} {fa C_GlimError C_BadText C_TooLong f1 f2 f3 f4 f5 f6 f7 f8 f9 f10 f11 f12 f13 f14 f15 f16 f17 f18 f19 f20 f21 f22 f23 f24 f25 f26 f27 f28 f29 f30 f31 f32 f33 f34 f35 f36 f37 f38 f39 : Addr} (X : K.In h) (G : h.Ns mainGlobals mg) (hfa : mg "law" = some (.ref fa))
    {od1 an1 od2 an2 od3 an3 od4 an4 od5 an5 od6 an6 od7 an7 od8 an8 od9 an9 od10 an10 od11 an11 od12 an12 od13 an13 od14 an14 od15 an15 od16 an16 od17 an17 od18 an18 od19 an19 od20 an20 od21 an21 od22 an22 od23 an23 od24 an24 od25 an25 od26 an26 od27 an27 od28 an28 od29 an29 od30 an30 od31 an31 od32 an32 od33 an33 od34 an34 od35 an35 od36 an36 od37 an37 od38 an38 od39 an39 : Option Addr} {sl1 sl2 sl3 sl4 sl5 sl6 sl7 sl8 sl9 sl10 sl11 sl12 sl13 sl14 sl15 sl16 sl17 sl18 sl19 sl20 sl21 sl22 sl23 sl24 sl25 sl26 sl27 sl28 sl29 sl30 sl31 sl32 sl33 sl34 sl35 sl36 sl37 sl38 sl39 : Array (Option Value)} {oc1 kV1 dc1 pm1 cd1 ct1 oc2 kV2 dc2 pm2 cd2 ct2 oc3 kV3 dc3 pm3 cd3 ct3 oc4 kV4 dc4 pm4 cd4 ct4 oc5 kV5 dc5 pm5 cd5 ct5 oc6 kV6 dc6 pm6 cd6 ct6 oc7 kV7 dc7 pm7 cd7 ct7 oc8 kV8 dc8 pm8 cd8 ct8 oc9 kV9 dc9 pm9 cd9 ct9 oc10 kV10 dc10 pm10 cd10 ct10 oc11 kV11 dc11 pm11 cd11 ct11 oc12 kV12 dc12 pm12 cd12 ct12 oc13 kV13 dc13 pm13 cd13 ct13 oc14 kV14 dc14 pm14 cd14 ct14 oc15 kV15 dc15 pm15 cd15 ct15 oc16 kV16 dc16 pm16 cd16 ct16 oc17 kV17 dc17 pm17 cd17 ct17 oc18 kV18 dc18 pm18 cd18 ct18 oc19 kV19 dc19 pm19 cd19 ct19 oc20 kV20 dc20 pm20 cd20 ct20 oc21 kV21 dc21 pm21 cd21 ct21 oc22 kV22 dc22 pm22 cd22 ct22 oc23 kV23 dc23 pm23 cd23 ct23 oc24 kV24 dc24 pm24 cd24 ct24 oc25 kV25 dc25 pm25 cd25 ct25 oc26 kV26 dc26 pm26 cd26 ct26 oc27 kV27 dc27 pm27 cd27 ct27 oc28 kV28 dc28 pm28 cd28 ct28 oc29 kV29 dc29 pm29 cd29 ct29 oc30 kV30 dc30 pm30 cd30 ct30 oc31 kV31 dc31 pm31 cd31 ct31 oc32 kV32 dc32 pm32 cd32 ct32 oc33 kV33 dc33 pm33 cd33 ct33 oc34 kV34 dc34 pm34 cd34 ct34 oc35 kV35 dc35 pm35 cd35 ct35 oc36 kV36 dc36 pm36 cd36 ct36 oc37 kV37 dc37 pm37 cd37 ct37 oc38 kV38 dc38 pm38 cd38 ct38 oc39 kV39 dc39 pm39 cd39 ct39 : Value}
    {nm_TooLong q_TooLong : Str} {N_TooLong : Addr} {bs_TooLong bm_TooLong : List Value} {sn_TooLong : List Str} {sub_TooLong : List Value} {ab_TooLong : Bool} {col_TooLong : Option Bool} {dd_TooLong : Option Addr} {m0_TooLong m1_TooLong m2_TooLong m3_TooLong m5_TooLong : Option Value}
    {nm_BadText q_BadText : Str} {N_BadText : Addr} {bs_BadText bm_BadText : List Value} {sn_BadText : List Str} {sub_BadText : List Value} {ab_BadText : Bool} {col_BadText : Option Bool} {dd_BadText : Option Addr} {m0_BadText m1_BadText m2_BadText m3_BadText m5_BadText : Option Value}
    {t_SIGNS t_MOST_ROUND t_DIGITS t_MOST_OPEN : Tok}
    (a1 : PySem.W.nsIn K mainGlobals "common_beats" = some (some (.ref f1)))
    (l1 : K.lookup f1 = some ⟨oc1, od1, .func (PySem.W.fnOf "common_beats" "common_beats" (defArgs s_common_beats) (defBody s_common_beats) (defScope s_common_beats) .none kV1 dc1 pm1 an1 cd1 ct1), sl1⟩)
    (c1 : PySem.W.codeIn K cd1 "common_beats" = true)
    (k1 : PySem.W.keepIn K (.ref f1) = true)
    (a2 : PySem.W.nsIn K mainGlobals "repeated" = some (some (.ref f2)))
    (l2 : K.lookup f2 = some ⟨oc2, od2, .func (PySem.W.fnOf "repeated" "repeated" (defArgs s_repeated) (defBody s_repeated) (defScope s_repeated) .none kV2 dc2 pm2 an2 cd2 ct2), sl2⟩)
    (c2 : PySem.W.codeIn K cd2 "repeated" = true)
    (k2 : PySem.W.keepIn K (.ref f2) = true)
    (a3 : PySem.W.nsIn K mainGlobals "put_behind" = some (some (.ref f3)))
    (l3 : K.lookup f3 = some ⟨oc3, od3, .func (PySem.W.fnOf "put_behind" "put_behind" (defArgs s_put_behind) (defBody s_put_behind) (defScope s_put_behind) .none kV3 dc3 pm3 an3 cd3 ct3), sl3⟩)
    (c3 : PySem.W.codeIn K cd3 "put_behind" = true)
    (k3 : PySem.W.keepIn K (.ref f3) = true)
    (a4 : PySem.W.nsIn K mainGlobals "first_lit" = some (some (.ref f4)))
    (l4 : K.lookup f4 = some ⟨oc4, od4, .func (PySem.W.fnOf "first_lit" "first_lit" (defArgs s_first_lit) (defBody s_first_lit) (defScope s_first_lit) .none kV4 dc4 pm4 an4 cd4 ct4), sl4⟩)
    (c4 : PySem.W.codeIn K cd4 "first_lit" = true)
    (k4 : PySem.W.keepIn K (.ref f4) = true)
    (a5 : PySem.W.nsIn K mainGlobals "shown_together" = some (some (.ref f5)))
    (l5 : K.lookup f5 = some ⟨oc5, od5, .func (PySem.W.fnOf "shown_together" "shown_together" (defArgs s_shown_together) (defBody s_shown_together) (defScope s_shown_together) .none kV5 dc5 pm5 an5 cd5 ct5), sl5⟩)
    (c5 : PySem.W.codeIn K cd5 "shown_together" = true)
    (k5 : PySem.W.keepIn K (.ref f5) = true)
    (a6 : PySem.W.nsIn K mainGlobals "behind_digits" = some (some (.ref f6)))
    (l6 : K.lookup f6 = some ⟨oc6, od6, .func (PySem.W.fnOf "behind_digits" "behind_digits" (defArgs s_behind_digits) (defBody s_behind_digits) (defScope s_behind_digits) .none kV6 dc6 pm6 an6 cd6 ct6), sl6⟩)
    (c6 : PySem.W.codeIn K cd6 "behind_digits" = true)
    (k6 : PySem.W.keepIn K (.ref f6) = true)
    (a7 : PySem.W.nsIn K mainGlobals "is_within" = some (some (.ref f7)))
    (l7 : K.lookup f7 = some ⟨oc7, od7, .func (PySem.W.fnOf "is_within" "is_within" (defArgs s_is_within) (defBody s_is_within) (defScope s_is_within) .none kV7 dc7 pm7 an7 cd7 ct7), sl7⟩)
    (c7 : PySem.W.codeIn K cd7 "is_within" = true)
    (k7 : PySem.W.keepIn K (.ref f7) = true)
    (a8 : PySem.W.nsIn K mainGlobals "read_item" = some (some (.ref f8)))
    (l8 : K.lookup f8 = some ⟨oc8, od8, .func (PySem.W.fnOf "read_item" "read_item" (defArgs s_read_item) (defBody s_read_item) (defScope s_read_item) .none kV8 dc8 pm8 an8 cd8 ct8), sl8⟩)
    (c8 : PySem.W.codeIn K cd8 "read_item" = true)
    (k8 : PySem.W.keepIn K (.ref f8) = true)
    (a9 : PySem.W.nsIn K mainGlobals "read_filled" = some (some (.ref f9)))
    (l9 : K.lookup f9 = some ⟨oc9, od9, .func (PySem.W.fnOf "read_filled" "read_filled" (defArgs s_read_filled) (defBody s_read_filled) (defScope s_read_filled) .none kV9 dc9 pm9 an9 cd9 ct9), sl9⟩)
    (c9 : PySem.W.codeIn K cd9 "read_filled" = true)
    (k9 : PySem.W.keepIn K (.ref f9) = true)
    (a10 : PySem.W.nsIn K mainGlobals "read_part" = some (some (.ref f10)))
    (l10 : K.lookup f10 = some ⟨oc10, od10, .func (PySem.W.fnOf "read_part" "read_part" (defArgs s_read_part) (defBody s_read_part) (defScope s_read_part) .none kV10 dc10 pm10 an10 cd10 ct10), sl10⟩)
    (c10 : PySem.W.codeIn K cd10 "read_part" = true)
    (k10 : PySem.W.keepIn K (.ref f10) = true)
    (a11 : PySem.W.nsIn K mainGlobals "read_parts" = some (some (.ref f11)))
    (l11 : K.lookup f11 = some ⟨oc11, od11, .func (PySem.W.fnOf "read_parts" "read_parts" (defArgs s_read_parts) (defBody s_read_parts) (defScope s_read_parts) .none kV11 dc11 pm11 an11 cd11 ct11), sl11⟩)
    (c11 : PySem.W.codeIn K cd11 "read_parts" = true)
    (k11 : PySem.W.keepIn K (.ref f11) = true)
    (a12 : PySem.W.nsIn K mainGlobals "read_round" = some (some (.ref f12)))
    (l12 : K.lookup f12 = some ⟨oc12, od12, .func (PySem.W.fnOf "read_round" "read_round" (defArgs s_read_round) (defBody s_read_round) (defScope s_read_round) .none kV12 dc12 pm12 an12 cd12 ct12), sl12⟩)
    (c12 : PySem.W.codeIn K cd12 "read_round" = true)
    (k12 : PySem.W.keepIn K (.ref f12) = true)
    (a13 : PySem.W.nsIn K mainGlobals "_law_draw" = some (some (.ref f13)))
    (l13 : K.lookup f13 = some ⟨oc13, od13, .func (PySem.W.fnOf "_law_draw" "_law_draw" (defArgs s_L_draw) (defBody s_L_draw) (defScope s_L_draw) .none kV13 dc13 pm13 an13 cd13 ct13), sl13⟩)
    (c13 : PySem.W.codeIn K cd13 "_law_draw" = true)
    (k13 : PySem.W.keepIn K (.ref f13) = true)
    (a14 : PySem.W.nsIn K mainGlobals "_law_mix" = some (some (.ref f14)))
    (l14 : K.lookup f14 = some ⟨oc14, od14, .func (PySem.W.fnOf "_law_mix" "_law_mix" (defArgs s_L_mix) (defBody s_L_mix) (defScope s_L_mix) .none kV14 dc14 pm14 an14 cd14 ct14), sl14⟩)
    (c14 : PySem.W.codeIn K cd14 "_law_mix" = true)
    (k14 : PySem.W.keepIn K (.ref f14) = true)
    (a15 : PySem.W.nsIn K mainGlobals "_law_pick" = some (some (.ref f15)))
    (l15 : K.lookup f15 = some ⟨oc15, od15, .func (PySem.W.fnOf "_law_pick" "_law_pick" (defArgs s_L_pick) (defBody s_L_pick) (defScope s_L_pick) .none kV15 dc15 pm15 an15 cd15 ct15), sl15⟩)
    (c15 : PySem.W.codeIn K cd15 "_law_pick" = true)
    (k15 : PySem.W.keepIn K (.ref f15) = true)
    (a16 : PySem.W.nsIn K mainGlobals "_law_is_int" = some (some (.ref f16)))
    (l16 : K.lookup f16 = some ⟨oc16, od16, .func (PySem.W.fnOf "_law_is_int" "_law_is_int" (defArgs s_L_is_int) (defBody s_L_is_int) (defScope s_L_is_int) .none kV16 dc16 pm16 an16 cd16 ct16), sl16⟩)
    (c16 : PySem.W.codeIn K cd16 "_law_is_int" = true)
    (k16 : PySem.W.keepIn K (.ref f16) = true)
    (a17 : PySem.W.nsIn K mainGlobals "_law_sign" = some (some (.ref f17)))
    (l17 : K.lookup f17 = some ⟨oc17, od17, .func (PySem.W.fnOf "_law_sign" "_law_sign" (defArgs s_L_sign) (defBody s_L_sign) (defScope s_L_sign) .none kV17 dc17 pm17 an17 cd17 ct17), sl17⟩)
    (c17 : PySem.W.codeIn K cd17 "_law_sign" = true)
    (k17 : PySem.W.keepIn K (.ref f17) = true)
    (a18 : PySem.W.nsIn K mainGlobals "_law_common" = some (some (.ref f18)))
    (l18 : K.lookup f18 = some ⟨oc18, od18, .func (PySem.W.fnOf "_law_common" "_law_common" (defArgs s_L_common) (defBody s_L_common) (defScope s_L_common) .none kV18 dc18 pm18 an18 cd18 ct18), sl18⟩)
    (c18 : PySem.W.codeIn K cd18 "_law_common" = true)
    (k18 : PySem.W.keepIn K (.ref f18) = true)
    (a19 : PySem.W.nsIn K mainGlobals "_law_item_count" = some (some (.ref f19)))
    (l19 : K.lookup f19 = some ⟨oc19, od19, .func (PySem.W.fnOf "_law_item_count" "_law_item_count" (defArgs s_L_item_count) (defBody s_L_item_count) (defScope s_L_item_count) .none kV19 dc19 pm19 an19 cd19 ct19), sl19⟩)
    (c19 : PySem.W.codeIn K cd19 "_law_item_count" = true)
    (k19 : PySem.W.keepIn K (.ref f19) = true)
    (a20 : PySem.W.nsIn K mainGlobals "_law_part_count" = some (some (.ref f20)))
    (l20 : K.lookup f20 = some ⟨oc20, od20, .func (PySem.W.fnOf "_law_part_count" "_law_part_count" (defArgs s_L_part_count) (defBody s_L_part_count) (defScope s_L_part_count) .none kV20 dc20 pm20 an20 cd20 ct20), sl20⟩)
    (c20 : PySem.W.codeIn K cd20 "_law_part_count" = true)
    (k20 : PySem.W.keepIn K (.ref f20) = true)
    (a21 : PySem.W.nsIn K mainGlobals "_law_count" = some (some (.ref f21)))
    (l21 : K.lookup f21 = some ⟨oc21, od21, .func (PySem.W.fnOf "_law_count" "_law_count" (defArgs s_L_count) (defBody s_L_count) (defScope s_L_count) .none kV21 dc21 pm21 an21 cd21 ct21), sl21⟩)
    (c21 : PySem.W.codeIn K cd21 "_law_count" = true)
    (k21 : PySem.W.keepIn K (.ref f21) = true)
    (a22 : PySem.W.nsIn K mainGlobals "_law_part_sign" = some (some (.ref f22)))
    (l22 : K.lookup f22 = some ⟨oc22, od22, .func (PySem.W.fnOf "_law_part_sign" "_law_part_sign" (defArgs s_L_part_sign) (defBody s_L_part_sign) (defScope s_L_part_sign) .none kV22 dc22 pm22 an22 cd22 ct22), sl22⟩)
    (c22 : PySem.W.codeIn K cd22 "_law_part_sign" = true)
    (k22 : PySem.W.keepIn K (.ref f22) = true)
    (a23 : PySem.W.nsIn K mainGlobals "_law_sign_at" = some (some (.ref f23)))
    (l23 : K.lookup f23 = some ⟨oc23, od23, .func (PySem.W.fnOf "_law_sign_at" "_law_sign_at" (defArgs s_L_sign_at) (defBody s_L_sign_at) (defScope s_L_sign_at) .none kV23 dc23 pm23 an23 cd23 ct23), sl23⟩)
    (c23 : PySem.W.codeIn K cd23 "_law_sign_at" = true)
    (k23 : PySem.W.keepIn K (.ref f23) = true)
    (a24 : PySem.W.nsIn K mainGlobals "_law_write_item" = some (some (.ref f24)))
    (l24 : K.lookup f24 = some ⟨oc24, od24, .func (PySem.W.fnOf "_law_write_item" "_law_write_item" (defArgs s_L_write_item) (defBody s_L_write_item) (defScope s_L_write_item) .none kV24 dc24 pm24 an24 cd24 ct24), sl24⟩)
    (c24 : PySem.W.codeIn K cd24 "_law_write_item" = true)
    (k24 : PySem.W.keepIn K (.ref f24) = true)
    (a25 : PySem.W.nsIn K mainGlobals "_law_write_part" = some (some (.ref f25)))
    (l25 : K.lookup f25 = some ⟨oc25, od25, .func (PySem.W.fnOf "_law_write_part" "_law_write_part" (defArgs s_L_write_part) (defBody s_L_write_part) (defScope s_L_write_part) .none kV25 dc25 pm25 an25 cd25 ct25), sl25⟩)
    (c25 : PySem.W.codeIn K cd25 "_law_write_part" = true)
    (k25 : PySem.W.keepIn K (.ref f25) = true)
    (a26 : PySem.W.nsIn K mainGlobals "_law_write" = some (some (.ref f26)))
    (l26 : K.lookup f26 = some ⟨oc26, od26, .func (PySem.W.fnOf "_law_write" "_law_write" (defArgs s_L_write) (defBody s_L_write) (defScope s_L_write) .none kV26 dc26 pm26 an26 cd26 ct26), sl26⟩)
    (c26 : PySem.W.codeIn K cd26 "_law_write" = true)
    (k26 : PySem.W.keepIn K (.ref f26) = true)
    (a27 : PySem.W.nsIn K mainGlobals "_law_room_part" = some (some (.ref f27)))
    (l27 : K.lookup f27 = some ⟨oc27, od27, .func (PySem.W.fnOf "_law_room_part" "_law_room_part" (defArgs s_L_room_part) (defBody s_L_room_part) (defScope s_L_room_part) .none kV27 dc27 pm27 an27 cd27 ct27), sl27⟩)
    (c27 : PySem.W.codeIn K cd27 "_law_room_part" = true)
    (k27 : PySem.W.keepIn K (.ref f27) = true)
    (a28 : PySem.W.nsIn K mainGlobals "_law_room_text" = some (some (.ref f28)))
    (l28 : K.lookup f28 = some ⟨oc28, od28, .func (PySem.W.fnOf "_law_room_text" "_law_room_text" (defArgs s_L_room_text) (defBody s_L_room_text) (defScope s_L_room_text) .none kV28 dc28 pm28 an28 cd28 ct28), sl28⟩)
    (c28 : PySem.W.codeIn K cd28 "_law_room_text" = true)
    (k28 : PySem.W.keepIn K (.ref f28) = true)
    (a29 : PySem.W.nsIn K mainGlobals "_law_edge_text" = some (some (.ref f29)))
    (l29 : K.lookup f29 = some ⟨oc29, od29, .func (PySem.W.fnOf "_law_edge_text" "_law_edge_text" (defArgs s_L_edge_text) (defBody s_L_edge_text) (defScope s_L_edge_text) .none kV29 dc29 pm29 an29 cd29 ct29), sl29⟩)
    (c29 : PySem.W.codeIn K cd29 "_law_edge_text" = true)
    (k29 : PySem.W.keepIn K (.ref f29) = true)
    (a30 : PySem.W.nsIn K mainGlobals "_law_deep_text" = some (some (.ref f30)))
    (l30 : K.lookup f30 = some ⟨oc30, od30, .func (PySem.W.fnOf "_law_deep_text" "_law_deep_text" (defArgs s_L_deep_text) (defBody s_L_deep_text) (defScope s_L_deep_text) .none kV30 dc30 pm30 an30 cd30 ct30), sl30⟩)
    (c30 : PySem.W.codeIn K cd30 "_law_deep_text" = true)
    (k30 : PySem.W.keepIn K (.ref f30) = true)
    (a31 : PySem.W.nsIn K mainGlobals "_law_free_part" = some (some (.ref f31)))
    (l31 : K.lookup f31 = some ⟨oc31, od31, .func (PySem.W.fnOf "_law_free_part" "_law_free_part" (defArgs s_L_free_part) (defBody s_L_free_part) (defScope s_L_free_part) .none kV31 dc31 pm31 an31 cd31 ct31), sl31⟩)
    (c31 : PySem.W.codeIn K cd31 "_law_free_part" = true)
    (k31 : PySem.W.keepIn K (.ref f31) = true)
    (a32 : PySem.W.nsIn K mainGlobals "_law_free_text" = some (some (.ref f32)))
    (l32 : K.lookup f32 = some ⟨oc32, od32, .func (PySem.W.fnOf "_law_free_text" "_law_free_text" (defArgs s_L_free_text) (defBody s_L_free_text) (defScope s_L_free_text) .none kV32 dc32 pm32 an32 cd32 ct32), sl32⟩)
    (c32 : PySem.W.codeIn K cd32 "_law_free_text" = true)
    (k32 : PySem.W.keepIn K (.ref f32) = true)
    (a33 : PySem.W.nsIn K mainGlobals "_law_text" = some (some (.ref f33)))
    (l33 : K.lookup f33 = some ⟨oc33, od33, .func (PySem.W.fnOf "_law_text" "_law_text" (defArgs s_L_text) (defBody s_L_text) (defScope s_L_text) .none kV33 dc33 pm33 an33 cd33 ct33), sl33⟩)
    (c33 : PySem.W.codeIn K cd33 "_law_text" = true)
    (k33 : PySem.W.keepIn K (.ref f33) = true)
    (a34 : PySem.W.nsIn K mainGlobals "_law_due" = some (some (.ref f34)))
    (l34 : K.lookup f34 = some ⟨oc34, od34, .func (PySem.W.fnOf "_law_due" "_law_due" (defArgs s_L_due) (defBody s_L_due) (defScope s_L_due) .none kV34 dc34 pm34 an34 cd34 ct34), sl34⟩)
    (c34 : PySem.W.codeIn K cd34 "_law_due" = true)
    (k34 : PySem.W.keepIn K (.ref f34) = true)
    (a35 : PySem.W.nsIn K mainGlobals "_law_told" = some (some (.ref f35)))
    (l35 : K.lookup f35 = some ⟨oc35, od35, .func (PySem.W.fnOf "_law_told" "_law_told" (defArgs s_L_told) (defBody s_L_told) (defScope s_L_told) .none kV35 dc35 pm35 an35 cd35 ct35), sl35⟩)
    (c35 : PySem.W.codeIn K cd35 "_law_told" = true)
    (k35 : PySem.W.keepIn K (.ref f35) = true)
    (a36 : PySem.W.nsIn K mainGlobals "_law_agree" = some (some (.ref f36)))
    (l36 : K.lookup f36 = some ⟨oc36, od36, .func (PySem.W.fnOf "_law_agree" "_law_agree" (defArgs s_L_agree) (defBody s_L_agree) (defScope s_L_agree) .none kV36 dc36 pm36 an36 cd36 ct36), sl36⟩)
    (c36 : PySem.W.codeIn K cd36 "_law_agree" = true)
    (k36 : PySem.W.keepIn K (.ref f36) = true)
    (a37 : PySem.W.nsIn K mainGlobals "law" = some (some (.ref f37)))
    (l37 : K.lookup f37 = some ⟨oc37, od37, .func (PySem.W.fnOf "law" "law" (defArgs s_law) (defBody s_law) (defScope s_law) .none kV37 dc37 pm37 an37 cd37 ct37), sl37⟩)
    (c37 : PySem.W.codeIn K cd37 "law" = true)
    (k37 : PySem.W.keepIn K (.ref f37) = true)
    (z_ValueError : PySem.W.nsIn K mainGlobals "ValueError" = some none)
    (z_abs : PySem.W.nsIn K mainGlobals "abs" = some none)
    (z_bool : PySem.W.nsIn K mainGlobals "bool" = some none)
    (z_int : PySem.W.nsIn K mainGlobals "int" = some none)
    (z_isinstance : PySem.W.nsIn K mainGlobals "isinstance" = some none)
    (z_len : PySem.W.nsIn K mainGlobals "len" = some none)
    (z_max : PySem.W.nsIn K mainGlobals "max" = some none)
    (z_min : PySem.W.nsIn K mainGlobals "min" = some none)
    (z_range : PySem.W.nsIn K mainGlobals "range" = some none)
    (z_str : PySem.W.nsIn K mainGlobals "str" = some none)
    (z_sum : PySem.W.nsIn K mainGlobals "sum" = some none)
    (v_SIGNS : PySem.W.nsIn K mainGlobals "SIGNS" = some (some (.str ".grw" t_SIGNS)))
    (v_MOST_ROUND : PySem.W.nsIn K mainGlobals "MOST_ROUND" = some (some (.int 24 t_MOST_ROUND)))
    (v_DIGITS : PySem.W.nsIn K mainGlobals "DIGITS" = some (some (.str "0123456789" t_DIGITS)))
    (v_MOST_OPEN : PySem.W.nsIn K mainGlobals "MOST_OPEN" = some (some (.int 6 t_MOST_OPEN)))
    (g_GlimError : PySem.W.nsIn K mainGlobals "GlimError" = some (some (.ref C_GlimError)))
    (g_BadText : PySem.W.nsIn K mainGlobals "BadText" = some (some (.ref C_BadText)))
    (g_TooLong : PySem.W.nsIn K mainGlobals "TooLong" = some (some (.ref C_TooLong)))
    (xl_BadText : K.lookup C_BadText = some (excClassObj nm_BadText q_BadText C_BadText N_BadText bs_BadText bm_BadText true sn_BadText sub_BadText ab_BadText col_BadText dd_BadText m0_BadText m1_BadText m2_BadText m3_BadText m5_BadText "ValueError.__new__"))
    (xr_BadText : PySem.HandSPX.refsVE bm_BadText = true)
    (xsa_BadText : PySem.W.findIn K (.ref C_BadText) "__setattr__" = some (some (.builtin "object.__setattr__")))
    (xga_BadText : PySem.W.findIn K (.ref C_BadText) "__getattribute__" = some (some (.builtin "BaseException.__getattribute__")))
    (xgg_BadText : PySem.W.findIn K (.ref C_BadText) "__getattr__" = some none)
    (xnf_BadText : PySem.W.findIn K (.ref C_BadText) "at" = some none)
    (xi_BadText : PySem.W.findIn K (.ref C_BadText) "__init__" = some (some (.ref f38)))
    (xt_BadText : PySem.W.typeIn K (.ref f38) = some (.type "function"))
    (xf_BadText : K.lookup f38 = some ⟨oc38, od38, .func (PySem.W.fnOf "__init__" "BadText.__init__" (defArgs s_BadText) (defBody s_BadText) (defScope s_BadText) .none kV38 dc38 pm38 an38 cd38 ct38), sl38⟩)
    (xc_BadText : PySem.W.codeIn K cd38 "BadText.__init__" = true)
    (xkf_BadText : PySem.W.keepIn K (.ref f38) = true)
    (xk_BadText : PySem.W.keepIn K (.ref C_BadText) = true)
    (xe_BadText : PySem.W.subIn K (.ref C_BadText) (.type "BaseException") = some true)
    (xty_BadText : PySem.W.typeIn K (.ref C_BadText) = some (.type "type"))
    (xhd_BadText : PySem.W.hasDictIn K C_BadText = true)
    (xis_BadText : PySem.W.isClsIn K C_BadText = true)
    (xca_BadText : PySem.W.findIn K (.ref C_BadText) "__class__" = some (some (.builtin "object.__class__")))
    (xm_BadText : PySem.W.mroIn K C_BadText (.type "object") = some true)
    (xl_TooLong : K.lookup C_TooLong = some (excClassObj nm_TooLong q_TooLong C_TooLong N_TooLong bs_TooLong bm_TooLong true sn_TooLong sub_TooLong ab_TooLong col_TooLong dd_TooLong m0_TooLong m1_TooLong m2_TooLong m3_TooLong m5_TooLong "ValueError.__new__"))
    (xr_TooLong : PySem.HandSPX.refsVE bm_TooLong = true)
    (xsa_TooLong : PySem.W.findIn K (.ref C_TooLong) "__setattr__" = some (some (.builtin "object.__setattr__")))
    (xga_TooLong : PySem.W.findIn K (.ref C_TooLong) "__getattribute__" = some (some (.builtin "BaseException.__getattribute__")))
    (xgg_TooLong : PySem.W.findIn K (.ref C_TooLong) "__getattr__" = some none)
    (xnf_TooLong : PySem.W.findIn K (.ref C_TooLong) "number" = some none)
    (xi_TooLong : PySem.W.findIn K (.ref C_TooLong) "__init__" = some (some (.ref f39)))
    (xt_TooLong : PySem.W.typeIn K (.ref f39) = some (.type "function"))
    (xf_TooLong : K.lookup f39 = some ⟨oc39, od39, .func (PySem.W.fnOf "__init__" "TooLong.__init__" (defArgs s_TooLong) (defBody s_TooLong) (defScope s_TooLong) .none kV39 dc39 pm39 an39 cd39 ct39), sl39⟩)
    (xc_TooLong : PySem.W.codeIn K cd39 "TooLong.__init__" = true)
    (xkf_TooLong : PySem.W.keepIn K (.ref f39) = true)
    (xk_TooLong : PySem.W.keepIn K (.ref C_TooLong) = true)
    (xe_TooLong : PySem.W.subIn K (.ref C_TooLong) (.type "BaseException") = some true)
    (xty_TooLong : PySem.W.typeIn K (.ref C_TooLong) = some (.type "type"))
    (xhd_TooLong : PySem.W.hasDictIn K C_TooLong = true)
    (xis_TooLong : PySem.W.isClsIn K C_TooLong = true)
    (xca_TooLong : PySem.W.findIn K (.ref C_TooLong) "__class__" = some (some (.builtin "object.__class__")))
    (xm_TooLong : PySem.W.mroIn K C_TooLong (.type "object") = some true)
    (xsp : PySem.W.specialIn K (.builtin "object.__class__") "__get__" = some (some (.builtin "getset_descriptor.__get__")))
    (xtk : PySem.W.takesIn K (.builtin "object.__class__") = some true)
    (qi_BadText : PySem.W.isClsIn K C_BadText = true)
    (qt_BadText : PySem.W.typeIn K (.ref C_BadText) = some (.type "type"))
    (qs_BadText : PySem.W.subIn K (.ref C_BadText) (.ref C_BadText) = some true)
    (qb_BadText : PySem.W.subIn K (.ref C_BadText) (.type "BaseException") = some true)
    (qi_GlimError : PySem.W.isClsIn K C_GlimError = true)
    (qt_GlimError : PySem.W.typeIn K (.ref C_GlimError) = some (.type "type"))
    (qs_GlimError : PySem.W.subIn K (.ref C_GlimError) (.ref C_GlimError) = some true)
    (qb_GlimError : PySem.W.subIn K (.ref C_GlimError) (.type "BaseException") = some true)
    (qi_TooLong : PySem.W.isClsIn K C_TooLong = true)
    (qt_TooLong : PySem.W.typeIn K (.ref C_TooLong) = some (.type "type"))
    (qs_TooLong : PySem.W.subIn K (.ref C_TooLong) (.ref C_TooLong) = some true)
    (qb_TooLong : PySem.W.subIn K (.ref C_TooLong) (.type "BaseException") = some true)
    (y_TooLong_GlimError : PySem.W.subIn K (.ref C_TooLong) (.ref C_GlimError) = some true)
    (y_TooLong_ValueError : PySem.W.subIn K (.ref C_TooLong) (.type "ValueError") = some true)
    (y_TooLong_BadText : PySem.W.subIn K (.ref C_TooLong) (.ref C_BadText) = some false)
    (x_TooLong_TooLong : PySem.W.subIn K (.ref C_TooLong) (.ref C_TooLong) = some true)
    : ∃ fd : FuncData, (∀ (s : Shared) (v : Value), BindsTo s fd ⟨[v], []⟩ [("_law_script", v)]) ∧ ∀ base : Heap, K.In base → base.Ns mainGlobals mg → FnOk l.prog w K mg base CX0 47 fa fd ["_law_script"] (sp1 (p_law K)) := by
  have e := hfa.symm.trans (PySem.W.mg_of X G a37)
  cases e
  have F1 := fun_mk (st := s_common_beats) l1 c1 k1
  have F2 := fun_mk (st := s_repeated) l2 c2 k2
  have F3 := fun_mk (st := s_put_behind) l3 c3 k3
  have F4 := fun_mk (st := s_first_lit) l4 c4 k4
  have F5 := fun_mk (st := s_shown_together) l5 c5 k5
  have F6 := fun_mk (st := s_behind_digits) l6 c6 k6
  have F7 := fun_mk (st := s_is_within) l7 c7 k7
  have F8 := fun_mk (st := s_read_item) l8 c8 k8
  have F9 := fun_mk (st := s_read_filled) l9 c9 k9
  have F10 := fun_mk (st := s_read_part) l10 c10 k10
  have F11 := fun_mk (st := s_read_parts) l11 c11 k11
  have F12 := fun_mk (st := s_read_round) l12 c12 k12
  have F13 := fun_mk (st := s_L_draw) l13 c13 k13
  have F14 := fun_mk (st := s_L_mix) l14 c14 k14
  have F15 := fun_mk (st := s_L_pick) l15 c15 k15
  have F16 := fun_mk (st := s_L_is_int) l16 c16 k16
  have F17 := fun_mk (st := s_L_sign) l17 c17 k17
  have F18 := fun_mk (st := s_L_common) l18 c18 k18
  have F19 := fun_mk (st := s_L_item_count) l19 c19 k19
  have F20 := fun_mk (st := s_L_part_count) l20 c20 k20
  have F21 := fun_mk (st := s_L_count) l21 c21 k21
  have F22 := fun_mk (st := s_L_part_sign) l22 c22 k22
  have F23 := fun_mk (st := s_L_sign_at) l23 c23 k23
  have F24 := fun_mk (st := s_L_write_item) l24 c24 k24
  have F25 := fun_mk (st := s_L_write_part) l25 c25 k25
  have F26 := fun_mk (st := s_L_write) l26 c26 k26
  have F27 := fun_mk (st := s_L_room_part) l27 c27 k27
  have F28 := fun_mk (st := s_L_room_text) l28 c28 k28
  have F29 := fun_mk (st := s_L_edge_text) l29 c29 k29
  have F30 := fun_mk (st := s_L_deep_text) l30 c30 k30
  have F31 := fun_mk (st := s_L_free_part) l31 c31 k31
  have F32 := fun_mk (st := s_L_free_text) l32 c32 k32
  have F33 := fun_mk (st := s_L_text) l33 c33 k33
  have F34 := fun_mk (st := s_L_due) l34 c34 k34
  have F35 := fun_mk (st := s_L_told) l35 c35 k35
  have F36 := fun_mk (st := s_L_agree) l36 c36 k36
  have F37 := fun_mk (st := s_law) l37 c37 k37
  have F38 := fun_mk (st := s_BadText) xf_BadText xc_BadText xkf_BadText
  have F39 := fun_mk (st := s_TooLong) xf_TooLong xc_TooLong xkf_TooLong
  have T : Txt K mg C_GlimError C_BadText C_TooLong := {
    d_common_beats := ⟨_, _, F1, PySem.W.mg_of X G a1, (F1.binds (ps := ["first", "second"]) fun _ _ _ _ _ _ us hl => match us, hl with | [_, _], _ => rfl)⟩
    d_repeated := ⟨_, _, F2, PySem.W.mg_of X G a2, (F2.binds (ps := ["stretch", "times"]) fun _ _ _ _ _ _ us hl => match us, hl with | [_, _], _ => rfl)⟩
    d_put_behind := ⟨_, _, F3, PySem.W.mg_of X G a3, (F3.binds (ps := ["stretch", "other"]) fun _ _ _ _ _ _ us hl => match us, hl with | [_, _], _ => rfl)⟩
    d_first_lit := ⟨_, _, F4, PySem.W.mg_of X G a4, (F4.binds (ps := ["signs"]) fun _ _ _ _ _ _ us hl => match us, hl with | [_], _ => rfl)⟩
    d_shown_together := ⟨_, _, F5, PySem.W.mg_of X G a5, (F5.binds (ps := ["parts"]) fun _ _ _ _ _ _ us hl => match us, hl with | [_], _ => rfl)⟩
    d_behind_digits := ⟨_, _, F6, PySem.W.mg_of X G a6, (F6.binds (ps := ["text", "at"]) fun _ _ _ _ _ _ us hl => match us, hl with | [_, _], _ => rfl)⟩
    d_is_within := ⟨_, _, F7, PySem.W.mg_of X G a7, (F7.binds (ps := ["run", "low", "high"]) fun _ _ _ _ _ _ us hl => match us, hl with | [_, _, _], _ => rfl)⟩
    d_read_item := ⟨_, _, F8, PySem.W.mg_of X G a8, (F8.binds (ps := ["text", "at", "opened"]) fun _ _ _ _ _ _ us hl => match us, hl with | [_, _, _], _ => rfl)⟩
    d_read_filled := ⟨_, _, F9, PySem.W.mg_of X G a9, (F9.binds (ps := ["text", "at", "part"]) fun _ _ _ _ _ _ us hl => match us, hl with | [_, _, _], _ => rfl)⟩
    d_read_part := ⟨_, _, F10, PySem.W.mg_of X G a10, (F10.binds (ps := ["text", "at", "opened"]) fun _ _ _ _ _ _ us hl => match us, hl with | [_, _, _], _ => rfl)⟩
    d_read_parts := ⟨_, _, F11, PySem.W.mg_of X G a11, (F11.binds (ps := ["text", "at", "opened"]) fun _ _ _ _ _ _ us hl => match us, hl with | [_, _, _], _ => rfl)⟩
    d_read_round := ⟨_, _, F12, PySem.W.mg_of X G a12, (F12.binds (ps := ["text"]) fun _ _ _ _ _ _ us hl => match us, hl with | [_], _ => rfl)⟩
    d_L_draw := ⟨_, _, F13, PySem.W.mg_of X G a13, (F13.binds (ps := ["_law_script"]) fun _ _ _ _ _ _ us hl => match us, hl with | [_], _ => rfl)⟩
    d_L_mix := ⟨_, _, F14, PySem.W.mg_of X G a14, (F14.binds (ps := ["_law_cell", "_law_turn"]) fun _ _ _ _ _ _ us hl => match us, hl with | [_, _], _ => rfl)⟩
    d_L_pick := ⟨_, _, F15, PySem.W.mg_of X G a15, (F15.binds (ps := ["_law_draw_here", "_law_many"]) fun _ _ _ _ _ _ us hl => match us, hl with | [_, _], _ => rfl)⟩
    d_L_is_int := ⟨_, _, F16, PySem.W.mg_of X G a16, (F16.binds (ps := ["_law_thing"]) fun _ _ _ _ _ _ us hl => match us, hl with | [_], _ => rfl)⟩
    d_L_sign := ⟨_, _, F17, PySem.W.mg_of X G a17, (F17.binds (ps := ["_law_draw_here"]) fun _ _ _ _ _ _ us hl => match us, hl with | [_], _ => rfl)⟩
    d_L_common := ⟨_, _, F18, PySem.W.mg_of X G a18, (F18.binds (ps := ["_law_one", "_law_two"]) fun _ _ _ _ _ _ us hl => match us, hl with | [_, _], _ => rfl)⟩
    d_L_item_count := ⟨_, _, F19, PySem.W.mg_of X G a19, (F19.binds (ps := ["_law_item"]) fun _ _ _ _ _ _ us hl => match us, hl with | [_], _ => rfl)⟩
    d_L_part_count := ⟨_, _, F20, PySem.W.mg_of X G a20, (F20.binds (ps := ["_law_part"]) fun _ _ _ _ _ _ us hl => match us, hl with | [_], _ => rfl)⟩
    d_L_count := ⟨_, _, F21, PySem.W.mg_of X G a21, (F21.binds (ps := ["_law_parts"]) fun _ _ _ _ _ _ us hl => match us, hl with | [_], _ => rfl)⟩
    d_L_part_sign := ⟨_, _, F22, PySem.W.mg_of X G a22, (F22.binds (ps := ["_law_part", "_law_spot"]) fun _ _ _ _ _ _ us hl => match us, hl with | [_, _], _ => rfl)⟩
    d_L_sign_at := ⟨_, _, F23, PySem.W.mg_of X G a23, (F23.binds (ps := ["_law_parts", "_law_spot"]) fun _ _ _ _ _ _ us hl => match us, hl with | [_, _], _ => rfl)⟩
    d_L_write_item := ⟨_, _, F24, PySem.W.mg_of X G a24, (F24.binds (ps := ["_law_item"]) fun _ _ _ _ _ _ us hl => match us, hl with | [_], _ => rfl)⟩
    d_L_write_part := ⟨_, _, F25, PySem.W.mg_of X G a25, (F25.binds (ps := ["_law_part"]) fun _ _ _ _ _ _ us hl => match us, hl with | [_], _ => rfl)⟩
    d_L_write := ⟨_, _, F26, PySem.W.mg_of X G a26, (F26.binds (ps := ["_law_parts"]) fun _ _ _ _ _ _ us hl => match us, hl with | [_], _ => rfl)⟩
    d_L_room_part := ⟨_, _, F27, PySem.W.mg_of X G a27, (F27.binds (ps := ["_law_draw_here", "_law_room", "_law_depth", "_law_tally"]) fun _ _ _ _ _ _ us hl => match us, hl with | [_, _, _, _], _ => rfl)⟩
    d_L_room_text := ⟨_, _, F28, PySem.W.mg_of X G a28, (F28.binds (ps := ["_law_draw_here", "_law_room", "_law_depth", "_law_tally"]) fun _ _ _ _ _ _ us hl => match us, hl with | [_, _, _, _], _ => rfl)⟩
    d_L_edge_text := ⟨_, _, F29, PySem.W.mg_of X G a29, (F29.binds (ps := ["_law_draw_here"]) fun _ _ _ _ _ _ us hl => match us, hl with | [_], _ => rfl)⟩
    d_L_deep_text := ⟨_, _, F30, PySem.W.mg_of X G a30, (F30.binds (ps := ["_law_draw_here"]) fun _ _ _ _ _ _ us hl => match us, hl with | [_], _ => rfl)⟩
    d_L_free_part := ⟨_, _, F31, PySem.W.mg_of X G a31, (F31.binds (ps := ["_law_draw_here", "_law_depth", "_law_tally"]) fun _ _ _ _ _ _ us hl => match us, hl with | [_, _, _], _ => rfl)⟩
    d_L_free_text := ⟨_, _, F32, PySem.W.mg_of X G a32, (F32.binds (ps := ["_law_draw_here", "_law_depth", "_law_tally"]) fun _ _ _ _ _ _ us hl => match us, hl with | [_, _, _], _ => rfl)⟩
    d_L_text := ⟨_, _, F33, PySem.W.mg_of X G a33, (F33.binds (ps := ["_law_draw_here"]) fun _ _ _ _ _ _ us hl => match us, hl with | [_], _ => rfl)⟩
    d_L_due := ⟨_, _, F34, PySem.W.mg_of X G a34, (F34.binds (ps := ["_law_parts"]) fun _ _ _ _ _ _ us hl => match us, hl with | [_], _ => rfl)⟩
    d_L_told := ⟨_, _, F35, PySem.W.mg_of X G a35, (F35.binds (ps := ["_law_text_here"]) fun _ _ _ _ _ _ us hl => match us, hl with | [_], _ => rfl)⟩
    d_L_agree := ⟨_, _, F36, PySem.W.mg_of X G a36, (F36.binds (ps := ["_law_told_here", "_law_due_here"]) fun _ _ _ _ _ _ us hl => match us, hl with | [_, _], _ => rfl)⟩
    d_law := ⟨_, _, F37, PySem.W.mg_of X G a37, (F37.binds (ps := ["_law_script"]) fun _ _ _ _ _ _ us hl => match us, hl with | [_], _ => rfl)⟩
    b_ValueError := PySem.W.mg_none_of X G z_ValueError
    b_abs := PySem.W.mg_none_of X G z_abs
    b_bool := PySem.W.mg_none_of X G z_bool
    b_int := PySem.W.mg_none_of X G z_int
    b_isinstance := PySem.W.mg_none_of X G z_isinstance
    b_len := PySem.W.mg_none_of X G z_len
    b_max := PySem.W.mg_none_of X G z_max
    b_min := PySem.W.mg_none_of X G z_min
    b_range := PySem.W.mg_none_of X G z_range
    b_str := PySem.W.mg_none_of X G z_str
    b_sum := PySem.W.mg_none_of X G z_sum
    g_SIGNS := ⟨t_SIGNS, (PySem.W.mg_of X G v_SIGNS).trans (congrArg some (congrArg (fun z => Value.str z t_SIGNS) (by decide +kernel : (".grw" : Str) = ⟨([46, 103, 114, 119] : List Nat).toArray⟩)))⟩
    g_MOST_ROUND := ⟨t_MOST_ROUND, PySem.W.mg_of X G v_MOST_ROUND⟩
    g_DIGITS := ⟨t_DIGITS, (PySem.W.mg_of X G v_DIGITS).trans (congrArg some (congrArg (fun z => Value.str z t_DIGITS) (by decide +kernel : ("0123456789" : Str) = ⟨([48, 49, 50, 51, 52, 53, 54, 55, 56, 57] : List Nat).toArray⟩)))⟩
    g_MOST_OPEN := ⟨t_MOST_OPEN, PySem.W.mg_of X G v_MOST_OPEN⟩
    c_GlimError := PySem.W.mg_of X G g_GlimError
    c_BadText := PySem.W.mg_of X G g_BadText
    c_TooLong := PySem.W.mg_of X G g_TooLong
    o_BadText := ⟨⟨nm_BadText, q_BadText, N_BadText, bs_BadText, bm_BadText, sn_BadText, sub_BadText, ab_BadText, col_BadText, dd_BadText, m0_BadText, m1_BadText, m2_BadText, m3_BadText, m5_BadText, xl_BadText, xr_BadText⟩, xsa_BadText, xe_BadText, xty_BadText, xk_BadText⟩
    nf_BadText := xnf_BadText
    i_BadText := ⟨f38, _, xi_BadText, xt_BadText, F38, (F38.binds (ps := ["self", "at"]) fun _ _ _ _ _ _ us hl => match us, hl with | [_, _], _ => rfl)⟩
    e_BadText := ⟨xis_BadText, xga_BadText, xgg_BadText, xe_BadText, xhd_BadText, xca_BadText, xsp, xtk, xm_BadText⟩
    o_TooLong := ⟨⟨nm_TooLong, q_TooLong, N_TooLong, bs_TooLong, bm_TooLong, sn_TooLong, sub_TooLong, ab_TooLong, col_TooLong, dd_TooLong, m0_TooLong, m1_TooLong, m2_TooLong, m3_TooLong, m5_TooLong, xl_TooLong, xr_TooLong⟩, xsa_TooLong, xe_TooLong, xty_TooLong, xk_TooLong⟩
    nf_TooLong := xnf_TooLong
    i_TooLong := ⟨f39, _, xi_TooLong, xt_TooLong, F39, (F39.binds (ps := ["self", "number"]) fun _ _ _ _ _ _ us hl => match us, hl with | [_, _], _ => rfl)⟩
    e_TooLong := ⟨xis_TooLong, xga_TooLong, xgg_TooLong, xe_TooLong, xhd_TooLong, xca_TooLong, xsp, xtk, xm_TooLong⟩
    k_TooLong_GlimError := Fg.kit_ref qi_GlimError qt_GlimError qs_GlimError y_TooLong_GlimError
    k_TooLong_ValueError := Fg.kit_base (by decide +kernel) y_TooLong_ValueError
    k_TooLong_BadText := Fg.kit_ref qi_BadText qt_BadText qs_BadText y_TooLong_BadText
    m_TooLong_TooLong := Fg.exm_ref qi_TooLong qt_TooLong qb_TooLong x_TooLong_TooLong }
  refine ⟨PySem.W.fnOf "law" "law" (defArgs s_law) (defBody s_law) (defScope s_law) .none kV37 dc37 pm37 an37 cd37 ct37, fun s v => .of_eq rfl, fun base _ _ => ?_⟩
  exact ok_law_at F37 T
end K04
open PySem PySem.W PyProof.Rows
set_option maxRecDepth 100000 in
set_option maxHeartbeats 0 in
theorem PySem.Challenge.cw_falseglim_k04_rhythm_texts_holds : PySem.Challenge.rw_falseglim_k04_rhythm_texts.Holds := by
  w_on; o_law; k_head; (case hw => w_witness2)
  k_fill
  refine L2.walk_of (l := PySem.Challenge.rw_falseglim_k04_rhythm_texts) (n := 63) (k := 47) (x := "_law_script") (CX := fun _ => L2.CX0) (sp := fun w => Fg.sp1 (K04.p_law _)) rfl (by decide) rfl ⟨rfl, by decide, by decide⟩ (fun w h Y => PySem.W.kIn_of Y) ?F (fun _ _ a ns hl _ hS => ⟨.ref a, rfl, a, ns, rfl, hS, hl, fun _ => rfl⟩) (fun _ _ _ _ _ h => h)
  case F =>
    intro w mg fa h KX G hmg
    refine' K04.all_mk KX G hmg ?a1 ?l1 ?c1 ?k1 ?a2 ?l2 ?c2 ?k2 ?a3 ?l3 ?c3 ?k3 ?a4 ?l4 ?c4 ?k4 ?a5 ?l5 ?c5 ?k5 ?a6 ?l6 ?c6 ?k6 ?a7 ?l7 ?c7 ?k7 ?a8 ?l8 ?c8 ?k8 ?a9 ?l9 ?c9 ?k9 ?a10 ?l10 ?c10 ?k10 ?a11 ?l11 ?c11 ?k11 ?a12 ?l12 ?c12 ?k12 ?a13 ?l13 ?c13 ?k13 ?a14 ?l14 ?c14 ?k14 ?a15 ?l15 ?c15 ?k15 ?a16 ?l16 ?c16 ?k16 ?a17 ?l17 ?c17 ?k17 ?a18 ?l18 ?c18 ?k18 ?a19 ?l19 ?c19 ?k19 ?a20 ?l20 ?c20 ?k20 ?a21 ?l21 ?c21 ?k21 ?a22 ?l22 ?c22 ?k22 ?a23 ?l23 ?c23 ?k23 ?a24 ?l24 ?c24 ?k24 ?a25 ?l25 ?c25 ?k25 ?a26 ?l26 ?c26 ?k26 ?a27 ?l27 ?c27 ?k27 ?a28 ?l28 ?c28 ?k28 ?a29 ?l29 ?c29 ?k29 ?a30 ?l30 ?c30 ?k30 ?a31 ?l31 ?c31 ?k31 ?a32 ?l32 ?c32 ?k32 ?a33 ?l33 ?c33 ?k33 ?a34 ?l34 ?c34 ?k34 ?a35 ?l35 ?c35 ?k35 ?a36 ?l36 ?c36 ?k36 ?a37 ?l37 ?c37 ?k37 ?z_ValueError ?z_abs ?z_bool ?z_int ?z_isinstance ?z_len ?z_max ?z_min ?z_range ?z_str ?z_sum ?v_SIGNS ?v_MOST_ROUND ?v_DIGITS ?v_MOST_OPEN ?g_GlimError ?g_BadText ?g_TooLong ?xl_BadText ?xr_BadText ?xsa_BadText ?xga_BadText ?xgg_BadText ?xnf_BadText ?xi_BadText ?xt_BadText ?xf_BadText ?xc_BadText ?xkf_BadText ?xk_BadText ?xe_BadText ?xty_BadText ?xhd_BadText ?xis_BadText ?xca_BadText ?xm_BadText ?xl_TooLong ?xr_TooLong ?xsa_TooLong ?xga_TooLong ?xgg_TooLong ?xnf_TooLong ?xi_TooLong ?xt_TooLong ?xf_TooLong ?xc_TooLong ?xkf_TooLong ?xk_TooLong ?xe_TooLong ?xty_TooLong ?xhd_TooLong ?xis_TooLong ?xca_TooLong ?xm_TooLong ?xsp ?xtk ?qi_BadText ?qt_BadText ?qs_BadText ?qb_BadText ?qi_GlimError ?qt_GlimError ?qs_GlimError ?qb_GlimError ?qi_TooLong ?qt_TooLong ?qs_TooLong ?qb_TooLong ?y_TooLong_GlimError ?y_TooLong_ValueError ?y_TooLong_BadText ?x_TooLong_TooLong
    (case a1 => k_is)
    (case l1 => k_is)
    (case c1 => k_is)
    (case k1 => k_is)
    (case a2 => k_is)
    (case l2 => k_is)
    (case c2 => k_is)
    (case k2 => k_is)
    (case a3 => k_is)
    (case l3 => k_is)
    (case c3 => k_is)
    (case k3 => k_is)
    (case a4 => k_is)
    (case l4 => k_is)
    (case c4 => k_is)
    (case k4 => k_is)
    (case a5 => k_is)
    (case l5 => k_is)
    (case c5 => k_is)
    (case k5 => k_is)
    (case a6 => k_is)
    (case l6 => k_is)
    (case c6 => k_is)
    (case k6 => k_is)
    (case a7 => k_is)
    (case l7 => k_is)
    (case c7 => k_is)
    (case k7 => k_is)
    (case a8 => k_is)
    (case l8 => k_is)
    (case c8 => k_is)
    (case k8 => k_is)
    (case a9 => k_is)
    (case l9 => k_is)
    (case c9 => k_is)
    (case k9 => k_is)
    (case a10 => k_is)
    (case l10 => k_is)
    (case c10 => k_is)
    (case k10 => k_is)
    (case a11 => k_is)
    (case l11 => k_is)
    (case c11 => k_is)
    (case k11 => k_is)
    (case a12 => k_is)
    (case l12 => k_is)
    (case c12 => k_is)
    (case k12 => k_is)
    (case a13 => k_is)
    (case l13 => k_is)
    (case c13 => k_is)
    (case k13 => k_is)
    (case a14 => k_is)
    (case l14 => k_is)
    (case c14 => k_is)
    (case k14 => k_is)
    (case a15 => k_is)
    (case l15 => k_is)
    (case c15 => k_is)
    (case k15 => k_is)
    (case a16 => k_is)
    (case l16 => k_is)
    (case c16 => k_is)
    (case k16 => k_is)
    (case a17 => k_is)
    (case l17 => k_is)
    (case c17 => k_is)
    (case k17 => k_is)
    (case a18 => k_is)
    (case l18 => k_is)
    (case c18 => k_is)
    (case k18 => k_is)
    (case a19 => k_is)
    (case l19 => k_is)
    (case c19 => k_is)
    (case k19 => k_is)
    (case a20 => k_is)
    (case l20 => k_is)
    (case c20 => k_is)
    (case k20 => k_is)
    (case a21 => k_is)
    (case l21 => k_is)
    (case c21 => k_is)
    (case k21 => k_is)
    (case a22 => k_is)
    (case l22 => k_is)
    (case c22 => k_is)
    (case k22 => k_is)
    (case a23 => k_is)
    (case l23 => k_is)
    (case c23 => k_is)
    (case k23 => k_is)
    (case a24 => k_is)
    (case l24 => k_is)
    (case c24 => k_is)
    (case k24 => k_is)
    (case a25 => k_is)
    (case l25 => k_is)
    (case c25 => k_is)
    (case k25 => k_is)
    (case a26 => k_is)
    (case l26 => k_is)
    (case c26 => k_is)
    (case k26 => k_is)
    (case a27 => k_is)
    (case l27 => k_is)
    (case c27 => k_is)
    (case k27 => k_is)
    (case a28 => k_is)
    (case l28 => k_is)
    (case c28 => k_is)
    (case k28 => k_is)
    (case a29 => k_is)
    (case l29 => k_is)
    (case c29 => k_is)
    (case k29 => k_is)
    (case a30 => k_is)
    (case l30 => k_is)
    (case c30 => k_is)
    (case k30 => k_is)
    (case a31 => k_is)
    (case l31 => k_is)
    (case c31 => k_is)
    (case k31 => k_is)
    (case a32 => k_is)
    (case l32 => k_is)
    (case c32 => k_is)
    (case k32 => k_is)
    (case a33 => k_is)
    (case l33 => k_is)
    (case c33 => k_is)
    (case k33 => k_is)
    (case a34 => k_is)
    (case l34 => k_is)
    (case c34 => k_is)
    (case k34 => k_is)
    (case a35 => k_is)
    (case l35 => k_is)
    (case c35 => k_is)
    (case k35 => k_is)
    (case a36 => k_is)
    (case l36 => k_is)
    (case c36 => k_is)
    (case k36 => k_is)
    (case a37 => k_is)
    (case l37 => k_is)
    (case c37 => k_is)
    (case k37 => k_is)
    (case z_ValueError => k_is)
    (case z_abs => k_is)
    (case z_bool => k_is)
    (case z_int => k_is)
    (case z_isinstance => k_is)
    (case z_len => k_is)
    (case z_max => k_is)
    (case z_min => k_is)
    (case z_range => k_is)
    (case z_str => k_is)
    (case z_sum => k_is)
    (case v_SIGNS => k_is)
    (case v_MOST_ROUND => k_is)
    (case v_DIGITS => k_is)
    (case v_MOST_OPEN => k_is)
    (case g_GlimError => k_is)
    (case g_BadText => k_is)
    (case g_TooLong => k_is)
    (case xl_BadText => k_is)
    (case xr_BadText => first | rfl | k_is | decide +kernel)
    (case xsa_BadText => k_is)
    (case xga_BadText => k_is)
    (case xgg_BadText => k_is)
    (case xnf_BadText => k_is)
    (case xi_BadText => k_is)
    (case xt_BadText => k_is)
    (case xf_BadText => k_is)
    (case xc_BadText => k_is)
    (case xkf_BadText => k_is)
    (case xk_BadText => k_is)
    (case xe_BadText => k_is)
    (case xty_BadText => k_is)
    (case xhd_BadText => k_is)
    (case xis_BadText => k_is)
    (case xca_BadText => k_is)
    (case xm_BadText => k_is)
    (case xl_TooLong => k_is)
    (case xr_TooLong => first | rfl | k_is | decide +kernel)
    (case xsa_TooLong => k_is)
    (case xga_TooLong => k_is)
    (case xgg_TooLong => k_is)
    (case xnf_TooLong => k_is)
    (case xi_TooLong => k_is)
    (case xt_TooLong => k_is)
    (case xf_TooLong => k_is)
    (case xc_TooLong => k_is)
    (case xkf_TooLong => k_is)
    (case xk_TooLong => k_is)
    (case xe_TooLong => k_is)
    (case xty_TooLong => k_is)
    (case xhd_TooLong => k_is)
    (case xis_TooLong => k_is)
    (case xca_TooLong => k_is)
    (case xm_TooLong => k_is)
    (case xsp => k_is)
    (case xtk => k_is)
    (case qi_BadText => k_is)
    (case qt_BadText => k_is)
    (case qs_BadText => k_is)
    (case qb_BadText => k_is)
    (case qi_GlimError => k_is)
    (case qt_GlimError => k_is)
    (case qs_GlimError => k_is)
    (case qb_GlimError => k_is)
    (case qi_TooLong => k_is)
    (case qt_TooLong => k_is)
    (case qs_TooLong => k_is)
    (case qb_TooLong => k_is)
    (case y_TooLong_GlimError => k_is)
    (case y_TooLong_ValueError => k_is)
    (case y_TooLong_BadText => k_is)
    (case x_TooLong_TooLong => k_is)
