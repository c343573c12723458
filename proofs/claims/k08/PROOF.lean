import PyProof.Rows.All
import Wide.All
import OpenK.AllK
import Wide.FinOn
import HandS.ForMost
import HandS.Exc
import HandS.ExcOwn
import HandS.WordsExc
import HandS.TryOnly
import HandS.ExcInit
import HandS.ExcField
import HandS.ExcIs
import HandS.IsInst
import HandS.TryMany
import HandS.Wide
import HandS.Steps
import HandS.TupAny
import HandS.Walk
import HandS.Evl
import KE.GoesEnum
import KE.KExcIs
import HandS.Conv
import PySem.Challenge.RW_falseglim_k08_whole_parted_rounds
set_option Elab.async false
set_option linter.all false
set_option maxRecDepth 100000
set_option maxHeartbeats 4000000
/-! Rules that ask nothing of the kinds: one rule for each sign of Python, its reading told by the values. -/
namespace Fg
open PySem PySem.Spec PyProof.Rows L2

/-- a text by its signs -/
def S (l : List Nat) : V := .str ⟨l.toArray⟩
theorem S_inj {l m : List Nat} : S l = S m ↔ l = m := by
  constructor
  · intro h
    have h1 := V.str.inj h
    have h2 := congrArg PySem.Str.cps h1
    exact List.toArray_inj h2
  · rintro rfl; rfl
theorem S_dec {l m : List Nat} : decide (S l = S m) = decide (l = m) := by
  rw [Bool.eq_iff_iff]; simp [S_inj]
theorem str_len (l : List Nat) : (⟨l.toArray⟩ : Str).length = l.length := by
  show l.toArray.size = l.length
  simp
theorem pe_S {X : Cx} {x : Str} {j : Nat} {pos : Pos} (l : List Nat) (h : x = ⟨l.toArray⟩ := by decide +kernel) : PE X (.Constant (.str x) j pos) (tC (S l)) := by
  subst h
  exact pe_str

/-! ### either of two readings -/
def or2 (r r' : R2) : R2 := fun x y H Q => r x y H Q ∨ r' x y H Q
theorem or2_op {X : Cx} {f : Value → Value → Sem Value} {r r' : R2} (h : OpR X f r) (h' : OpR X f r') : OpR X f (or2 r r') := by
  intro pins s σ H x y v u Q I rx ry q
  rcases q with q | q
  · exact h pins s σ H x y v u Q I rx ry q
  · exact h' pins s σ H x y v u Q I rx ry q
theorem or2_ix {X : Cx} {r r' : R2} (h : IxR X r) (h' : IxR X r') : IxR X (or2 r r') := by
  intro value slice pins s σ H x y v u Q I rx ry q hs
  rcases q with q | q
  · exact h value slice pins s σ H x y v u Q I rx ry q hs
  · exact h' value slice pins s σ H x y v u Q I rx ry q hs
abbrev RC := List V → Hp → VK → Prop
def orC (r r' : RC) : RC := fun xs H Q => r xs H Q ∨ r' xs H Q
theorem orC_call {X : Cx} {f : Value} {r r' : RC} (h : CallR X f r) (h' : CallR X f r') : CallR X f (orC r r') := by
  intro pins s σ H xs us Q I rx q
  rcases q with q | q
  · exact h pins s σ H xs us Q I rx q
  · exact h' pins s σ H xs us Q I rx q
abbrev RS := V → Option Int → Option Int → Hp → VK → Prop
def orS (r r' : RS) : RS := fun x lo hi H Q => r x lo hi H Q ∨ r' x lo hi H Q
theorem orS_sl {X : Cx} {r r' : RS} (h : SlR X r) (h' : SlR X r') : SlR X (orS r r') := by
  intro pins s σ H x v vl vu lo hi sl Q I rx hs pl pu q
  rcases q with q | q
  · exact h pins s σ H x v vl vu lo hi sl Q I rx hs pl pu q
  · exact h' pins s σ H x v vl vu lo hi sl Q I rx hs pl pu q

/-! ### + - * // % ** -/
def rAddI : R2 := rI0 fun i j => .int (i + j)
def rAddT : R2 := fun x y H Q => ∃ i j, x = .str i ∧ y = .str j ∧ i.length + j.length ≤ sizeLine ∧ Q (.str (i ++ j)) H
def addP (K : PySem.W.Frag) : R2 := or2 rAddI (or2 rAddT (or2 rCat (rCatA K)))
theorem op_addP {X : Cx} : OpR X (binaryOp .Add) (addP X.K) := or2_op op_add (or2_op op_add_str (or2_op op_cat op_catA))
def subP : R2 := rI0 fun i j => .int (i - j)
theorem op_subP {X : Cx} : OpR X (binaryOp .Sub) subP := op_sub
/-- a text so many times -/
def rRepS : R2 := fun x y H Q => ∃ (l : List Nat) (n : Nat), x = S l ∧ y = .int (n : Int) ∧ l.length * n ≤ 100000 ∧ n ≤ 100000 ∧ Q (S (List.replicate n l).flatten) H
theorem foldl_app (l : List Nat) : ∀ (n : Nat) (acc : List Nat), (List.replicate n l.toArray).foldl (· ++ ·) acc.toArray = (acc ++ (List.replicate n l).flatten).toArray
  | 0, acc => by simp
  | n + 1, acc => by
    rw [List.replicate_succ, List.foldl_cons, List.append_toArray, foldl_app l n (acc ++ l), List.replicate_succ, List.flatten_cons, List.append_assoc]
theorem op_repS {X : Cx} : OpR X (binaryOp .Mult) rRepS := by
  intro pins s σ H x y v u Q I rx ry h
  obtain ⟨l, n, rfl, rfl, hz, hn, q⟩ := h
  obtain ⟨t, rfl⟩ := rx
  obtain ⟨t', rfl⟩ := ry
  have hl := str_len l
  have hs : sizeLine = 16777216 := sizeLine_eq
  refine PySem.P.mul_str ?_ (fun h1 h2 => ?_) (fun h1 h2 => ?_) ?_
  · rw [decide_eq_false (by omega), decide_eq_false (by omega)]; rfl
  · rw [hl]
    have hn0 : (0 : Int) < (n : Int) := by omega
    have : ((l.length : Int)) ≤ (2 ^ 63 - 1) / (n : Int) := by
      rw [Int.le_ediv_iff_mul_le hn0]
      have : ((l.length * n : Nat) : Int) ≤ 100000 := by omega
      rw [Int.natCast_mul] at this
      omega
    omega
  · rw [hl, Int.toNat_natCast]
    unfold PySem.Builtin.Str.tooLong
    rw [decide_eq_false]
    omega
  · by_cases h1 : (n : Int) < 1
    · rw [if_pos h1]
      have e : n = 0 := by omega
      subst e
      exact ⟨by decide, S [], H, I.tok _, ⟨_, rfl⟩, by simpa using q⟩
    · rw [if_neg h1]
      by_cases h2 : ((n : Int) == 1 || (⟨l.toArray⟩ : Str).length == 0) = true
      · rw [if_pos h2]
        have e : (List.replicate n l).flatten = l := by
          rw [hl, Bool.or_eq_true, beq_iff_eq, beq_iff_eq] at h2
          rcases h2 with h2 | h2
          · have e : n = 1 := by omega
            subst e; simp
          · have e : l = [] := List.length_eq_zero_iff.mp h2
            subst e; simp
        rw [e] at q
        exact ⟨S l, H, I, ⟨_, rfl⟩, q⟩
      · rw [if_neg h2]
        have e : (⟨(List.replicate ((n : Int)).toNat l.toArray).foldl (· ++ ·) #[]⟩ : Str) = ⟨((List.replicate n l).flatten).toArray⟩ := by
          rw [Int.toNat_natCast]
          have := foldl_app l n []
          simpa using this
        refine ⟨?_, S (List.replicate n l).flatten, H, I.tok _, ⟨_, by rw [e]⟩, q⟩
        rw [e, str_len]
        simp only [List.length_flatten, List.map_replicate, List.sum_replicate_nat]
        rw [Nat.mul_comm]
        omega
def rMulI : R2 := rI (fun i j => IntMulOk i j) fun i j => .int (i * j)
theorem op_mulI {X : Cx} : OpR X (binaryOp .Mult) rMulI := opI fun _ _ _ _ _ _ _ hc q => mul_int q hc
def mulP : R2 := or2 rMulI (or2 rRepS rRep)
theorem op_mulP {X : Cx} : OpR X (binaryOp .Mult) mulP := or2_op op_mulI (or2_op op_repS op_rep)
def modP : R2 := rI (fun _ j => 0 < j) fun i j => .int (i % j)
theorem op_modP {X : Cx} : OpR X (binaryOp .Mod) modP := op_mod
def fdivP : R2 := rI CDivW fun i j => .int (i / j)
theorem op_fdivP {X : Cx} : OpR X (binaryOp .FloorDiv) fdivP := op_fdivW
/-- i ** j, the result below some hundred million bits -/
def powP : R2 := rI (fun i j => 0 ≤ j ∧ (Builtin.Int.intBits i : Int) * j ≤ 2 ^ 27) fun i j => .int (i ^ j.toNat)
theorem op_powP {X : Cx} : OpR X (binaryOp .Pow) powP := opI fun _ _ _ _ _ _ _ hc q => pow_int hc.1 hc.2 q
/-! ### comparisons -/
def eqP (K : PySem.W.Frag) : R2 := or2 rEq (rEqD K)
theorem op_eqP {X : Cx} (hu : X.A.units + 64 < cLine) : OpR X (compareOp .Eq) (eqP X.K) := or2_op op_eq (op_eqD hu)
def neP (K : PySem.W.Frag) : R2 := or2 rNe (rNeD K)
theorem op_neP {X : Cx} (hu : X.A.units + 64 < cLine) : OpR X (compareOp .NotEq) (neP X.K) := or2_op op_ne (op_neD hu)
def ltP : R2 := or2 (rI0 fun i j => .bl (decide (i < j))) fun x y H Q => ∃ i j, x = .str i ∧ y = .str j ∧ Q (.bl (decide (i.cps.toList < j.cps.toList))) H
theorem op_ltP {X : Cx} : OpR X (compareOp .Lt) ltP := or2_op op_lt op_lt_str
def leP : R2 := rI0 fun i j => .bl (decide (i ≤ j))
theorem op_leP {X : Cx} : OpR X (compareOp .LtE) leP := op_le
def gtP : R2 := rI0 fun i j => .bl (decide (j < i))
theorem op_gtP {X : Cx} : OpR X (compareOp .Gt) gtP := op_gt
def geP : R2 := rI0 fun i j => .bl (decide (j ≤ i))
theorem op_geP {X : Cx} : OpR X (compareOp .GtE) geP := op_ge
def isP : R2 := fun x y H Q => y = .non ∧ Q (.bl (decide (x = .non))) H
theorem op_isP {X : Cx} : OpR X (compareOp .Is) isP := op_isN
def isNotP : R2 := fun x y H Q => y = .non ∧ Q (.bl (!decide (x = .non))) H
theorem op_isNotP {X : Cx} : OpR X (compareOp .IsNot) isNotP := op_notN
def rInSg : R2 := fun x y H Q => ∃ (c : Nat) (z : Str), x = .str ⟨#[c]⟩ ∧ y = .str z ∧ Q (.bl (decide (c ∈ z.cps.toList))) H
def rNotInSg : R2 := fun x y H Q => ∃ (c : Nat) (z : Str), x = .str ⟨#[c]⟩ ∧ y = .str z ∧ Q (.bl (!decide (c ∈ z.cps.toList))) H
def inP (K : PySem.W.Frag) : R2 := or2 rInSg (rIn K false)
theorem op_inP {X : Cx} : OpR X (compareOp .In) (inP X.K) := or2_op op_in_sign op_in_seq
def notInP (K : PySem.W.Frag) : R2 := or2 rNotInSg (rIn K true)
theorem op_notInP {X : Cx} : OpR X (compareOp .NotIn) (notInP X.K) := or2_op op_notIn_sign op_notIn_seq
/-! ### subscripts, slices -/
def ixP (K : PySem.W.Frag) : R2 := or2 (rIxL K) (or2 (rIxT K) rIxS)
theorem ix_P {X : Cx} : IxR X (ixP X.K) := or2_ix ix_list (or2_ix ix_tup ix_str)
def slP (K : PySem.W.Frag) : RS := orS (rSlL K) (orS (rSlA K) rSlS)
theorem sl_P {X : Cx} : SlR X (slP X.K) := orS_sl sl_list (orS_sl sl_tupA sl_str)
/-! ### what is walked -/
def iAny (K : PySem.W.Frag) (te : TE) : TI := fun σ H R => te σ H fun x H1 => (∃ a xs, x = .ref a ∧ SqL K H1 a xs ∧ R (Itl K a) H1) ∨ (∃ a xs, x = .ref a ∧ SqT K H1 a xs ∧ R (Itt K a) H1) ∨ (∃ z, x = .str z ∧ R (Its z) H1)
section
variable {X : Cx} {tg e : Expr} {te : TE}
theorem pi_any (he : PE X e te) : PI X tg e (iAny X.K te) := by
  refine ⟨fun pins s σ H R I h => thn (he.run pins s σ H _ I h) fun v s1 ⟨x, H1, J, r1, q1⟩ => ?_⟩
  rcases q1 with ⟨a, xs, rfl, hq, q⟩ | ⟨a, xs, rfl, hq, q⟩ | ⟨z, rfl, q⟩
  · cases r1
    obtain ⟨its, rv, pl, hz⟩ := J.list hq
    exact wpAny_pyIter_list pl.isList (pi_one (tk := s1.toks) J _ (turn_list a _) ⟨_, Heap.get?_push_size _ rfl, rfl, rfl⟩ q)
  · cases r1
    obtain ⟨its, rv, pl, hz⟩ := J.tuple hq
    exact wpAny_pyIter_tuple (show s1.heap.IsTuple a its.toArray from pl) (pi_one (tk := s1.toks) J _ (turn_tuple a _) ⟨_, Heap.get?_push_size _ rfl, rfl, rfl⟩ q)
  · obtain ⟨t, rfl⟩ := r1
    cases hw : z.cps.all (· < 128)
    · exact wpAny_pyIter_wide hw (pi_one (tk := s1.toks) J _ (turn_str _ z t "str_iterator" (.inr rfl)) ⟨_, Heap.get?_push_size _ rfl, rfl, rfl⟩ q)
    · exact wpAny_pyIter_ascii hw (pi_one (tk := s1.toks) J _ (turn_str _ z t "str_ascii_iterator" (.inl rfl)) ⟨_, Heap.get?_push_size _ rfl, rfl, rfl⟩ q)
end
/-! ### enumerate(a text) -/
/-- the signs of z, each in a new pair with its place -/
def Ites (z : Str) : It :=
  ⟨fun i _ => i < z.cps.size, fun i H v H' => ∃ T c, v = .ref T ∧ H T = none ∧ H' = upd H T (.tup [.int (i : Nat), .str ⟨#[c]⟩]) ∧ z.cps[i]? = some c, fun i _ => i = z.cps.size⟩
theorem turn_enumS {P : Program} {w : World} {K : PySem.W.Frag} {elts : List Expr} {kk : Nat} {tpos : Pos} (z : Str) (t : Tok) (e it : Addr) :
    Turn P w K (.Tuple elts kk tpos) (Ites z) [e, it] e (fun i h => (∃ old, IsEnum h e it ((i : Nat) : Int) old) ∧ h.IsStrIter it (strIterType z) z t i ∧ e ≠ it) where
  mem := List.mem_cons_self ..
  obj := fun i h st b hb => by
    obtain ⟨⟨old, hE⟩, ⟨o, hO, hC, hD⟩, _⟩ := st
    rcases List.mem_cons.mp hb with rfl | hb
    · exact ⟨_, hE, fun v q => nomatch q⟩
    · rw [List.mem_singleton.mp hb]
      exact ⟨o, hO, fun v q => by rw [hD] at q; cases q⟩
  keep := fun i h h' st k => by
    obtain ⟨⟨old, hE⟩, ⟨o, hO, r⟩, hne⟩ := st
    exact ⟨⟨old, k e (by simp) _ hE⟩, ⟨o, k it (by simp) _ hO, r⟩, hne⟩
  item := by
    intro X hP hW hK hc i pins s σ H E I hf st hg
    subst hP hW hK
    obtain ⟨⟨old, hE⟩, hS, hne⟩ := st
    have le : e < s.heap.objs.size := Heap.lt_size hE
    have li : it < s.heap.objs.size := by obtain ⟨_, q, _⟩ := hS; exact Heap.lt_size q
    have D := Draws.text (prog := X.prog) (w := X.w) (A := X.A.in1) (I.ok.hd hc) it z t
    refine wpAny_pyNext_enum_itemC D hE hS hg hne (by simp [hne]) fun x h' tk hx hO hS' hT hsz hk => ?_
    obtain ⟨c, u, hcx, rfl⟩ := hx
    refine ⟨_, rfl, wpAny_letOwnedTupleGo_enum (s := { s with heap := h', toks := tk + 1 }) hO fun h2 hE2 sb => ?_⟩
    have T2 : h2.get? s.heap.objs.size = some { cls := .type "tuple", data := .seq #[.int i tk, .str ⟨#[c]⟩ u] } := (sb.2 _ (Nat.ne_of_gt le)).trans hT
    have new : ObjOk X.prog X.w (upd H s.heap.objs.size (.tup [.int (i : Nat), .str ⟨#[c]⟩])) h2 s.heap.objs.size (.tup [.int (i : Nat), .str ⟨#[c]⟩]) :=
      ⟨by show 2 ≤ sizeLine; decide, [.int i tk, .str ⟨#[c]⟩ u], .cons ⟨_, rfl⟩ (.cons ⟨_, rfl⟩ .nil), ⟨_, T2, rfl, _, rfl⟩⟩
    have J : Inv X pins σ (upd H s.heap.objs.size (.tup [.int (i : Nat), .str ⟨#[c]⟩])) { s with heap := h2, toks := tk + 1 } :=
      I.turnedNew (ch := [e, it]) (fun b ob hb q => (sb.2 b (fun y => hb (by simp [y]))).trans (hk b ob (fun y => hb (by simp [y])) (fun y => hb (by simp [y])) q)) hf (Nat.le_refl _) new
    refine ⟨.ref s.heap.objs.size, _, J, rfl, ⟨_, c, rfl, I.hok.fresh (Nat.le_refl _), rfl, hcx⟩, ⟨⟨.str ⟨#[c]⟩ u, ?_⟩, ?_, hne⟩, fun b hb => ?_⟩
    · have e1 : ((i + 1 : Nat) : Int) = (i : Int) + 1 := by omega
      rw [e1]
      exact hE2
    · obtain ⟨o, ho, r⟩ := hS'
      exact ⟨o, (sb.2 it (Ne.symm hne)).trans ho, r⟩
    · have lb : b < s.heap.objs.size := by
        rcases List.mem_cons.mp hb with rfl | hb
        · exact le
        · rw [List.mem_singleton.mp hb]; exact li
      rw [upd_ne (Nat.ne_of_lt lb)]
      exact (hf b hb).1
  done := by
    intro X hP hW hK hc i pins s σ H E I hf st hg
    subst hP hW hK
    obtain ⟨⟨old, hE⟩, hS, hne⟩ := st
    obtain ⟨f0, f1, f2, f3, f4, f5⟩ := hf it (by simp)
    have D := Draws.text (prog := X.prog) (w := X.w) (A := X.A.in1) (I.ok.hd hc) it z t
    have hg' : i = z.cps.size := hg
    subst hg'
    exact wpAny_pyNext_enum_endD D hE hS fun h' eb => ⟨rfl, I.turned (t' := s.toks) (fun b o hb q => eb b o hb q) f0 f1 f3 f4 f5⟩
  self := fun A i s Q E st h => by
    obtain ⟨⟨_, hE⟩, _⟩ := st
    exact wpAny_pyIter_enum hE h
def iEnumP (K : PySem.W.Frag) (ta : TA) : TI := fun σ H R => ta σ H fun vs H1 => (∃ a xs, vs = [.ref a] ∧ SqL K H1 a xs ∧ R (Ite K a) H1) ∨ (∃ z, vs = [.str z] ∧ R (Ites z) H1)
theorem pi_enumP {X : Cx} {e : Expr} {ta : TA} {p pos tpos : Pos} {elts : List Expr} {kk : Nat} (hg : Gl X "enumerate") (hm : X.mg "enumerate" = none) (ha : PA X [e] ta) (hs : starEach [e] X.env = [(false, eval e X.env)] := by rfl) :
    PI X (.Tuple elts kk tpos) (.Call (.Name "enumerate" p) [e] [] pos) (iEnumP X.K ta) := by
  refine ⟨fun pins s σ H R I h => Call_ (ld_blt I hg hm boot_enumerate (PyProof.Rows.callWith_type1 (thn (ha.run pos pins s σ H _ I h) fun us s1 ⟨vs, H1, J, r1, q1⟩ => ?_) hs rfl))⟩
  have far : ∀ b ∈ [s1.heap.objs.size + 1, s1.heap.objs.size], s1.heap.objs.size ≤ b := fun b hb => by
    rcases List.mem_cons.mp hb with rfl | hb
    · exact Nat.le_succ _
    · rw [List.mem_singleton.mp hb]; exact Nat.le_refl _
  rcases q1 with ⟨a, xs, rfl, hq, q⟩ | ⟨z, rfl, q⟩
  · cases r1 with
    | cons r rr =>
      cases rr
      cases r
      obtain ⟨its, rv, pl, hz⟩ := J.list hq
      refine call_enumerate_list pl.isList fun h' hE hit hsz hk => wpAny_pyIter_enum hE ?_
      have J2 : Inv X pins σ H1 { s1 with heap := h' } := J.kept (t' := s1.toks) hk
      exact ⟨_, _, _, _, H1, rfl, J2, turn_enum a (s1.heap.objs.size + 1) s1.heap.objs.size, ⟨⟨.none, hE⟩, hit, Nat.succ_ne_self _⟩, fun b hb => J.fpOk (far b hb) (J.hok.fresh (far b hb)), q⟩
  · cases r1 with
    | cons r rr =>
      cases rr
      obtain ⟨t, rfl⟩ := r
      refine call_enumerate_str fun h' hE hit hsz hk => wpAny_pyIter_enum hE ?_
      have J2 : Inv X pins σ H1 { s1 with heap := h' } := J.kept (t' := s1.toks) hk
      exact ⟨_, _, _, _, H1, rfl, J2, turn_enumS z t (s1.heap.objs.size + 1) s1.heap.objs.size, ⟨⟨.none, hE⟩, hit, Nat.succ_ne_self _⟩, fun b hb => J.fpOk (far b hb) (J.hok.fresh (far b hb)), q⟩
end Fg
/-! Steps: what a reading asks, one sign of Python at a time. -/
namespace Fg
open PySem PySem.Spec PyProof.Rows L2
section
variable {K : PySem.W.Frag} {σ : L2.St} {H : Hp} {Q : VK} {D : Ends} {ta tb tc te : TE} {t u : TT} {i j : Nat} {v x y : V} {tr tq : TS} {QB : Bool → Hp → Prop} {QL : List V → Hp → Prop} {Qs : L2.St → Hp → Prop} {tl : TA}
theorem i_var (h : σ[i]? = some (some v)) (q : Q v H) : tVar i σ H Q := ⟨v, h, q⟩
theorem i_c (q : Q v H) : tC v σ H Q := q
theorem i_seq (q : tr { D with nx := tq D } σ H) : tSeq tr tq D σ H := q
theorem i_next (q : D.nx σ H) : tNext D σ H := q
theorem i_brk (q : D.bk σ H) : tBreak D σ H := q
theorem i_cont (q : D.ct σ H) : tCont D σ H := q
theorem i_asg {g : TG} (q : te σ H fun x H1 => g x σ H1 D.nx) : tAsg te g D σ H := q
theorem i_gname (q : Qs (σ.set i (some v)) H) : gName i v σ H Qs := q
theorem i_gname' {σ' : L2.St} (e : σ.set i (some v) = σ') (q : Qs σ' H) : gName i v σ H Qs := by
  subst e; exact q
theorem i_ret (q : te σ H D.rt) : tRet te D σ H := q
theorem i_retN (q : D.rt .non H) : tRetN D σ H := q
theorem i_drop (q : te σ H fun _ H1 => D.nx σ H1) : tDrop te D σ H := q
theorem i_ifS (q : t σ H fun b H1 => if b = true then tr D σ H1 else tq D σ H1) : tIfS t tr tq D σ H := q
theorem i_test (q : te σ H fun x H' => ∃ k, x = .bl k ∧ QB k H') : tTest te σ H QB := q
theorem i_B (q : te σ H fun x H' => ∃ k, x = .bl k ∧ QB k H') : tB te σ H QB := q
theorem i_exbl {P : Bool → Prop} {b : Bool} (q : P b) : ∃ k, V.bl b = .bl k ∧ P k := ⟨b, rfl, q⟩
theorem i_and (q : t σ H fun c H1 => if c = true then u σ H1 QB else QB false H1) : tAnd t u σ H QB := q
theorem i_or (q : t σ H fun c H1 => if c = true then QB true H1 else u σ H1 QB) : tOr t u σ H QB := q
theorem i_not (q : t σ H fun c H1 => QB (!c) H1) : tNot t σ H QB := q
theorem i_andV (q : ta σ H fun x H1 => ∃ c, x = .bl c ∧ if c = true then tb σ H1 Q else Q (.bl false) H1) : tAndV ta tb σ H Q := q
theorem i_orV (q : ta σ H fun x H1 => ∃ c, x = .bl c ∧ if c = true then Q (.bl true) H1 else tb σ H1 Q) : tOrV ta tb σ H Q := q
theorem i_notV (q : ta σ H fun x H1 => ∃ c, x = .bl c ∧ Q (.bl (!c)) H1) : tNotV ta σ H Q := q
theorem i_ifE (q : t σ H fun c H1 => if c = true then ta σ H1 Q else tb σ H1 Q) : tIf t ta tb σ H Q := q
theorem i_op {r : R2} (q : ta σ H fun x H1 => tb σ H1 fun y H2 => r x y H2 Q) : tOp r ta tb σ H Q := q
theorem i_un {r : V → Hp → VK → Prop} (q : ta σ H fun x H1 => r x H1 Q) : tUn r ta σ H Q := q
theorem i_neg {k : Int} (q : Q (.int (-k)) H) : rU (fun i => .int (-i)) (.int k) H Q := ⟨k, rfl, q⟩
theorem i_chain {r r' : R2} (q : ta σ H fun x H1 => tb σ H1 fun y H2 => r x y H2 fun z H3 => ∃ k, z = .bl k ∧ (if k = true then tc σ H3 fun w' H4 => r' y w' H4 Q else Q (.bl false) H3)) : tChain r r' ta tb tc σ H Q := q
theorem i_nil (q : QL [] H) : tNil σ H QL := q
theorem i_cons (q : te σ H fun x H1 => tl σ H1 fun xs H2 => QL (x :: xs) H2) : tCons te tl σ H QL := q
theorem i_call {sp : Sp} {E : XK} (q : tl σ H fun vs H1 => sp (vs ++ []) H1 Q E) : tCall sp [] E tl σ H Q := q
theorem i_callS {sp : Sp} {E : L2.St → XK} (q : tl σ H fun vs H1 => sp vs H1 Q (E σ)) : tCallS sp E tl σ H Q := q
theorem i_cb {r : RC} (q : tl σ H fun vs H1 => r vs H1 Q) : tCB r tl σ H Q := q
theorem i_tup (q : tl σ H fun xs H1 => xs.length ≤ sizeLine ∧ ∀ p, H1 p = none → Q (.ref p) (upd H1 p (.tup xs))) : tTup tl σ H Q := q
theorem i_lst (q : tl σ H fun xs H1 => xs.length ≤ sizeLine ∧ ∀ p, H1 p = none → Q (.ref p) (upd H1 p (.lst xs))) : tLst tl σ H Q := q
theorem i_new {n : Nat} {P : Addr → Prop} (h : n ≤ 100000) (q : ∀ p, H p = none → P p) : n ≤ sizeLine ∧ ∀ p, H p = none → P p := ⟨Nat.le_trans h (by decide), q⟩
theorem i_sl {r : RS} {t1 t2 : TO} (q : te σ H fun x H1 => t1 σ H1 fun l H2 => t2 σ H2 fun u H3 => r x l u H3 Q) : tSl r te t1 t2 σ H Q := q
theorem i_nopart {QO : Option Int → Hp → Prop} (q : QO none H) : tNoPart σ H QO := q
theorem i_part {QO : Option Int → Hp → Prop} (q : te σ H fun x H1 => ∃ i, x = .int i ∧ QO (some i) H1) : tPart te σ H QO := q
theorem i_exint {P : Int → Prop} {k : Int} (q : P k) : ∃ i, V.int k = .int i ∧ P i := ⟨k, rfl, q⟩
theorem i_dec {c : Prop} [Decidable c] {A B : Prop} (h1 : c → A) (h2 : ¬ c → B) : if decide c = true then A else B := by
  by_cases h : c
  · rw [decide_eq_true h, if_pos rfl]; exact h1 h
  · rw [decide_eq_false h, if_neg (by decide)]; exact h2 h
theorem i_decN {c : Prop} [Decidable c] {A B : Prop} (h1 : ¬ c → A) (h2 : c → B) : if (!decide c) = true then A else B := by
  by_cases h : c
  · rw [decide_eq_true h]; exact h2 h
  · rw [decide_eq_false h]; exact h1 h
theorem i_bool {b : Bool} {A B : Prop} (h1 : b = true → A) (h2 : b = false → B) : if b = true then A else B := by
  cases b with
  | true => exact h1 rfl
  | false => exact h2 rfl
theorem i_tt {A B : Prop} (h : A) : if true = true then A else B := h
theorem i_ff {A B : Prop} (h : B) : if false = true then A else B := h
theorem i_nott {A B : Prop} (h : B) : if (!true) = true then A else B := h
theorem i_notf {A B : Prop} (h : A) : if (!false) = true then A else B := h
/-! values -/
variable {a b : Int} {l m : List Nat}
theorem i_add_int (q : Q (.int (a + b)) H) : addP K (.int a) (.int b) H Q := .inl ⟨a, b, rfl, rfl, q⟩
theorem i_add_str (h : l.length + m.length ≤ 100000) (q : Q (S (l ++ m)) H) : addP K (S l) (S m) H Q := by
  refine .inr (.inl ⟨⟨l.toArray⟩, ⟨m.toArray⟩, rfl, rfl, ?_, ?_⟩)
  · rw [str_len, str_len]; exact Nat.le_trans h (by decide)
  · have e : (⟨l.toArray⟩ : Str) ++ ⟨m.toArray⟩ = ⟨(l ++ m).toArray⟩ := by
      show (⟨l.toArray ++ m.toArray⟩ : Str) = _
      rw [List.append_toArray]
    rw [e]; exact q
theorem i_sub (q : Q (.int (a - b)) H) : subP (.int a) (.int b) H Q := ⟨a, b, rfl, rfl, q⟩
theorem i_mul_int (h : IntMulOk a b) (q : Q (.int (a * b)) H) : mulP (.int a) (.int b) H Q := .inl ⟨a, b, rfl, rfl, h, q⟩
theorem i_mul_str {n : Nat} (h : l.length * n ≤ 100000 ∧ n ≤ 100000) (q : Q (S (List.replicate n l).flatten) H) : mulP (S l) (.int (n : Int)) H Q := .inr (.inl ⟨l, n, rfl, rfl, h.1, h.2, q⟩)
theorem i_mul_strI {k : Int} (h0 : 0 ≤ k) (h : l.length * k.toNat ≤ 100000 ∧ k.toNat ≤ 100000) (q : Q (S (List.replicate k.toNat l).flatten) H) : mulP (S l) (.int k) H Q := by
  obtain ⟨n, rfl⟩ : ∃ n : Nat, k = (n : Int) := ⟨k.toNat, by omega⟩
  rw [Int.toNat_natCast] at h q
  exact i_mul_str h q
theorem cdiv_small {a b : Int} (h : 0 < b) (h2 : b < 2 ^ 62) : CDivW a b := wide_div (b := 62) h (by omega) (by decide) (by decide)
theorem mul_small {a b : Int} (h : -(2 ^ 64) < a) (h2 : a < 2 ^ 64) : IntMulOk a b := CMul.ok (.inl ⟨h, h2⟩)
theorem mul_smallR {a b : Int} (h : -(2 ^ 64) < b) (h2 : b < 2 ^ 64) : IntMulOk a b := CMul.ok (.inr ⟨h, h2⟩)
theorem i_mod (h : 0 < b) (q : Q (.int (a % b)) H) : modP (.int a) (.int b) H Q := ⟨a, b, rfl, rfl, h, q⟩
theorem i_fdiv (h : CDivW a b) (q : Q (.int (a / b)) H) : fdivP (.int a) (.int b) H Q := ⟨a, b, rfl, rfl, h, q⟩
theorem i_pow (h : 0 ≤ b ∧ (Builtin.Int.intBits a : Int) * b ≤ 2 ^ 27) (q : Q (.int (a ^ b.toNat)) H) : powP (.int a) (.int b) H Q := ⟨a, b, rfl, rfl, h, q⟩
theorem i_eq_int (q : Q (.bl (decide (a = b))) H) : eqP K (.int a) (.int b) H Q := .inl ⟨rfl, by rw [dec_int, Bool.beq_eq_decide_eq]; exact q⟩
theorem i_eq_str (q : Q (.bl (decide (l = m))) H) : eqP K (S l) (S m) H Q := .inl ⟨rfl, by rw [S_dec]; exact q⟩
theorem i_ne_int (q : Q (.bl (!decide (a = b))) H) : neP K (.int a) (.int b) H Q := .inl ⟨rfl, by rw [dec_int, Bool.beq_eq_decide_eq]; exact q⟩
theorem i_ne_str (q : Q (.bl (!decide (l = m))) H) : neP K (S l) (S m) H Q := .inl ⟨rfl, by rw [S_dec]; exact q⟩
theorem i_eq_bl {b c : Bool} (q : Q (.bl (decide (b = c))) H) : eqP K (.bl b) (.bl c) H Q := .inl ⟨rfl, by rw [dec_bl, Bool.beq_eq_decide_eq]; exact q⟩
theorem i_ne_bl {b c : Bool} (q : Q (.bl (!decide (b = c))) H) : neP K (.bl b) (.bl c) H Q := .inl ⟨rfl, by rw [dec_bl, Bool.beq_eq_decide_eq]; exact q⟩
theorem i_lt (q : Q (.bl (decide (a < b))) H) : ltP (.int a) (.int b) H Q := .inl ⟨a, b, rfl, rfl, q⟩
theorem i_lt_str (q : Q (.bl (decide (l < m))) H) : ltP (S l) (S m) H Q := .inr ⟨_, _, rfl, rfl, by simpa using q⟩
theorem i_le (q : Q (.bl (decide (a ≤ b))) H) : leP (.int a) (.int b) H Q := ⟨a, b, rfl, rfl, q⟩
theorem i_gt (q : Q (.bl (decide (b < a))) H) : gtP (.int a) (.int b) H Q := ⟨a, b, rfl, rfl, q⟩
theorem i_ge (q : Q (.bl (decide (b ≤ a))) H) : geP (.int a) (.int b) H Q := ⟨a, b, rfl, rfl, q⟩
theorem i_is_non (q : Q (.bl true) H) : isP .non .non H Q := ⟨rfl, q⟩
theorem i_is_int (q : Q (.bl false) H) : isP (.int a) .non H Q := ⟨rfl, q⟩
theorem i_is_str (q : Q (.bl false) H) : isP (S l) .non H Q := ⟨rfl, q⟩
theorem i_is_ref {p : Addr} (q : Q (.bl false) H) : isP (.ref p) .non H Q := ⟨rfl, q⟩
theorem i_isn_non (q : Q (.bl false) H) : isNotP .non .non H Q := ⟨rfl, q⟩
theorem i_isn_int (q : Q (.bl true) H) : isNotP (.int a) .non H Q := ⟨rfl, q⟩
theorem i_isn_str (q : Q (.bl true) H) : isNotP (S l) .non H Q := ⟨rfl, q⟩
theorem i_isn_ref {p : Addr} (q : Q (.bl true) H) : isNotP (.ref p) .non H Q := ⟨rfl, q⟩
theorem i_in_sg {c : Nat} (q : Q (.bl (decide (c ∈ m))) H) : inP K (S [c]) (S m) H Q := .inl ⟨c, ⟨m.toArray⟩, rfl, rfl, by simpa using q⟩
theorem i_notIn_sg {c : Nat} (q : Q (.bl (!decide (c ∈ m))) H) : notInP K (S [c]) (S m) H Q := .inl ⟨c, ⟨m.toArray⟩, rfl, rfl, by simpa using q⟩
/-! subscripts -/
theorem atI_int {xs : List V} {z : Int} {v : V} (h0 : 0 ≤ z) (h : xs[z.toNat]? = some v) : atI xs z = some v := at_of (j := z.toNat) (by omega) h
theorem i_ix_lst {p : Addr} {xs : List V} {z : Int} {v : V} (hs : SqL K H p xs) (ha : atI xs z = some v) (q : Q v H) : ixP K (.ref p) (.int z) H Q := .inl ⟨p, xs, z, v, rfl, rfl, hs, ha, q⟩
theorem i_ix_tup {p : Addr} {xs : List V} {z : Int} {v : V} (hs : SqT K H p xs) (ha : atI xs z = some v) (q : Q v H) : ixP K (.ref p) (.int z) H Q := .inr (.inl ⟨p, xs, z, v, rfl, rfl, hs, ha, q⟩)
theorem i_ix_str {z : Int} {c : Nat} (hs : l.length ≤ 100000) (h0 : 0 ≤ z) (ha : l[z.toNat]? = some c) (q : Q (S [c]) H) : ixP K (S l) (.int z) H Q := by
  refine .inr (.inr ⟨⟨l.toArray⟩, z, c, rfl, rfl, ?_, ?_, q⟩)
  · rw [str_len]; exact Nat.le_trans hs (by decide)
  · have e : z = ((z.toNat : Nat) : Int) := by omega
    rw [e]
    exact atI_nat (by simpa using ha)
/-! slices -/
def cutN (l : List Nat) (lo hi : Option Int) : List Nat := (l.drop (HT.sIx l.length 0 lo)).take (HT.sIx l.length l.length hi - HT.sIx l.length 0 lo)
theorem i_sl_str {lo hi : Option Int} (hs : l.length ≤ 100000) (q : Q (S (cutN l lo hi)) H) : slP K (S l) lo hi H Q := by
  refine .inr (.inr ⟨⟨l.toArray⟩, rfl, ?_, ?_⟩)
  · rw [str_len]; exact Nat.le_trans hs (by decide)
  · have e : cutS ⟨l.toArray⟩ lo hi = ⟨(cutN l lo hi).toArray⟩ := by
      unfold cutS cutN
      rw [str_len]
    rw [e]; exact q
theorem cutN_to {l : List Nat} {k : Int} (h : 0 ≤ k) : cutN l none (some k) = l.take k.toNat := by
  unfold cutN
  have e : k = ((k.toNat : Nat) : Int) := by omega
  rw [e, HT.sIx_nat, HT.sIx_none, Nat.sub_zero, List.drop_zero, Int.toNat_natCast]
  by_cases hk : k.toNat ≤ l.length
  · rw [Nat.min_eq_left hk]
  · rw [Nat.min_eq_right (by omega), List.take_length, List.take_of_length_le (by omega)]
theorem cutN_from {l : List Nat} {k : Int} (h : 0 ≤ k) : cutN l (some k) none = l.drop k.toNat := by
  unfold cutN
  have e : k = ((k.toNat : Nat) : Int) := by omega
  rw [e, HT.sIx_nat, HT.sIx_none, Int.toNat_natCast]
  by_cases hk : k.toNat ≤ l.length
  · rw [Nat.min_eq_left hk]
    exact List.take_of_length_le (by rw [List.length_drop]; omega)
  · rw [Nat.min_eq_right (by omega), Nat.sub_self, List.take_zero, List.drop_of_length_le (by omega)]
theorem i_sl_to {k : Int} (hs : l.length ≤ 100000) (h0 : 0 ≤ k) (q : Q (S (l.take k.toNat)) H) : slP K (S l) none (some k) H Q := i_sl_str hs (by rw [cutN_to h0]; exact q)
theorem i_sl_from {k : Int} (hs : l.length ≤ 100000) (h0 : 0 ≤ k) (q : Q (S (l.drop k.toNat)) H) : slP K (S l) (some k) none H Q := i_sl_str hs (by rw [cutN_from h0]; exact q)
/-! calls of what is built in -/
def rLenP (K : PySem.W.Frag) : RC := fun xs H Q => ∃ x n, xs = [x] ∧ LenV K x H n ∧ Q (.int n) H
theorem call_lenP {X : Cx} : CallR X (.builtin "len") (rLenP X.K) := call_len
theorem i_len_str (hs : l.length ≤ 100000) (q : Q (.int (l.length : Int)) H) : rLenP K [S l] H Q := ⟨S l, l.length, rfl, ⟨by rw [str_len]; exact Nat.le_trans hs (by decide), (str_len l).symm⟩, q⟩
theorem i_len_lst {p : Addr} {xs : List V} (hs : SqL K H p xs) (q : Q (.int (xs.length : Int)) H) : rLenP K [.ref p] H Q := ⟨.ref p, xs.length, rfl, .inl ⟨xs, hs, rfl⟩, q⟩
theorem i_len_tup {p : Addr} {xs : List V} (hs : SqT K H p xs) (q : Q (.int (xs.length : Int)) H) : rLenP K [.ref p] H Q := ⟨.ref p, xs.length, rfl, .inr ⟨xs, hs, rfl⟩, q⟩
def rIntP : RC := fun xs H Q => (∃ i, xs = [.int i] ∧ Q (.int i) H) ∨ ∃ k, xs = [.bl k] ∧ Q (.int (if k then 1 else 0)) H
theorem call_intP {X : Cx} : CallR X (.type "int") rIntP := call_int1
theorem i_int_int (q : Q (.int a) H) : rIntP [.int a] H Q := .inl ⟨a, rfl, q⟩
def rAbsP : RC := fun xs H Q => ∃ i, xs = [.int i] ∧ Q (.int (if i < 0 then -i else i)) H
theorem call_absP {X : Cx} : CallR X (.builtin "abs") rAbsP := call_abs
theorem i_abs (q : Q (.int (if a < 0 then -a else a)) H) : rAbsP [.int a] H Q := ⟨a, rfl, q⟩
theorem i_sum {p : Addr} {ns : List Int} (hs : SqL K H p (ns.map V.int)) (q : Q (.int ns.sum) H) : rSum K [.ref p] H Q := ⟨p, ns, rfl, hs, q⟩
def rTupP (K : PySem.W.Frag) : RC := fun xs H Q => ∃ p ys, xs = [.ref p] ∧ ((SqL K H p ys ∧ ∀ l, H l = none → Q (.ref l) (upd H l (.tup ys))) ∨ (SqT K H p ys ∧ Q (.ref p) H))
theorem call_tupP {X : Cx} : CallR X (.type "tuple") (rTupP X.K) := call_tuple_of
theorem i_tuple_lst {p : Addr} {ys : List V} (hs : SqL K H p ys) (q : ∀ l, H l = none → Q (.ref l) (upd H l (.tup ys))) : rTupP K [.ref p] H Q := ⟨p, ys, rfl, .inl ⟨hs, q⟩⟩
theorem i_all {p : Addr} {bs : List Bool} (hs : SqL K H p (bs.map V.bl)) (q : Q (.bl (bs.all id)) H) : rAll K [.ref p] H Q := ⟨p, bs, rfl, hs, q⟩
theorem i_isi_non_int (q : Q (.bl false) H) : rIsi K [.non, .ty "int"] H Q := ⟨_, _, _, _, false, rfl, .ty _, .base .non, kit_ty (by decide +kernel), q⟩
theorem i_isi_non_bool (q : Q (.bl false) H) : rIsi K [.non, .ty "bool"] H Q := ⟨_, _, _, _, false, rfl, .ty _, .base .non, kit_ty (by decide +kernel), q⟩
theorem i_isi_non_str (q : Q (.bl false) H) : rIsi K [.non, .ty "str"] H Q := ⟨_, _, _, _, false, rfl, .ty _, .base .non, kit_ty (by decide +kernel), q⟩
theorem i_isi_non_tuple (q : Q (.bl false) H) : rIsi K [.non, .ty "tuple"] H Q := ⟨_, _, _, _, false, rfl, .ty _, .base .non, kit_ty (by decide +kernel), q⟩
theorem i_isi_non_list (q : Q (.bl false) H) : rIsi K [.non, .ty "list"] H Q := ⟨_, _, _, _, false, rfl, .ty _, .base .non, kit_ty (by decide +kernel), q⟩
theorem i_isi_bl_int {b : Bool} (q : Q (.bl true) H) : rIsi K [(.bl b), .ty "int"] H Q := ⟨_, _, _, _, true, rfl, .ty _, .base (.bl b), kit_ty (by decide +kernel), q⟩
theorem i_isi_bl_bool {b : Bool} (q : Q (.bl true) H) : rIsi K [(.bl b), .ty "bool"] H Q := ⟨_, _, _, _, true, rfl, .ty _, .base (.bl b), kit_ty (by decide +kernel), q⟩
theorem i_isi_bl_str {b : Bool} (q : Q (.bl false) H) : rIsi K [(.bl b), .ty "str"] H Q := ⟨_, _, _, _, false, rfl, .ty _, .base (.bl b), kit_ty (by decide +kernel), q⟩
theorem i_isi_bl_tuple {b : Bool} (q : Q (.bl false) H) : rIsi K [(.bl b), .ty "tuple"] H Q := ⟨_, _, _, _, false, rfl, .ty _, .base (.bl b), kit_ty (by decide +kernel), q⟩
theorem i_isi_bl_list {b : Bool} (q : Q (.bl false) H) : rIsi K [(.bl b), .ty "list"] H Q := ⟨_, _, _, _, false, rfl, .ty _, .base (.bl b), kit_ty (by decide +kernel), q⟩
theorem i_isi_int_int {i : Int} (q : Q (.bl true) H) : rIsi K [(.int i), .ty "int"] H Q := ⟨_, _, _, _, true, rfl, .ty _, .base (.int i), kit_ty (by decide +kernel), q⟩
theorem i_isi_int_bool {i : Int} (q : Q (.bl false) H) : rIsi K [(.int i), .ty "bool"] H Q := ⟨_, _, _, _, false, rfl, .ty _, .base (.int i), kit_ty (by decide +kernel), q⟩
theorem i_isi_int_str {i : Int} (q : Q (.bl false) H) : rIsi K [(.int i), .ty "str"] H Q := ⟨_, _, _, _, false, rfl, .ty _, .base (.int i), kit_ty (by decide +kernel), q⟩
theorem i_isi_int_tuple {i : Int} (q : Q (.bl false) H) : rIsi K [(.int i), .ty "tuple"] H Q := ⟨_, _, _, _, false, rfl, .ty _, .base (.int i), kit_ty (by decide +kernel), q⟩
theorem i_isi_int_list {i : Int} (q : Q (.bl false) H) : rIsi K [(.int i), .ty "list"] H Q := ⟨_, _, _, _, false, rfl, .ty _, .base (.int i), kit_ty (by decide +kernel), q⟩
theorem i_isi_str_int {l : List Nat} (q : Q (.bl false) H) : rIsi K [(S l), .ty "int"] H Q := ⟨_, _, _, _, false, rfl, .ty _, .base (.str _), kit_ty (by decide +kernel), q⟩
theorem i_isi_str_bool {l : List Nat} (q : Q (.bl false) H) : rIsi K [(S l), .ty "bool"] H Q := ⟨_, _, _, _, false, rfl, .ty _, .base (.str _), kit_ty (by decide +kernel), q⟩
theorem i_isi_str_str {l : List Nat} (q : Q (.bl true) H) : rIsi K [(S l), .ty "str"] H Q := ⟨_, _, _, _, true, rfl, .ty _, .base (.str _), kit_ty (by decide +kernel), q⟩
theorem i_isi_str_tuple {l : List Nat} (q : Q (.bl false) H) : rIsi K [(S l), .ty "tuple"] H Q := ⟨_, _, _, _, false, rfl, .ty _, .base (.str _), kit_ty (by decide +kernel), q⟩
theorem i_isi_str_list {l : List Nat} (q : Q (.bl false) H) : rIsi K [(S l), .ty "list"] H Q := ⟨_, _, _, _, false, rfl, .ty _, .base (.str _), kit_ty (by decide +kernel), q⟩
theorem i_isi_tup_int {a : Addr} {xs : List V} (h : H a = some (.tup xs)) (q : Q (.bl false) H) : rIsi K [(.ref a), .ty "int"] H Q := ⟨_, _, _, _, false, rfl, .ty _, .base (.tup h), kit_ty (by decide +kernel), q⟩
theorem i_isi_tup_bool {a : Addr} {xs : List V} (h : H a = some (.tup xs)) (q : Q (.bl false) H) : rIsi K [(.ref a), .ty "bool"] H Q := ⟨_, _, _, _, false, rfl, .ty _, .base (.tup h), kit_ty (by decide +kernel), q⟩
theorem i_isi_tup_str {a : Addr} {xs : List V} (h : H a = some (.tup xs)) (q : Q (.bl false) H) : rIsi K [(.ref a), .ty "str"] H Q := ⟨_, _, _, _, false, rfl, .ty _, .base (.tup h), kit_ty (by decide +kernel), q⟩
theorem i_isi_tup_tuple {a : Addr} {xs : List V} (h : H a = some (.tup xs)) (q : Q (.bl true) H) : rIsi K [(.ref a), .ty "tuple"] H Q := ⟨_, _, _, _, true, rfl, .ty _, .base (.tup h), kit_ty (by decide +kernel), q⟩
theorem i_isi_tup_list {a : Addr} {xs : List V} (h : H a = some (.tup xs)) (q : Q (.bl false) H) : rIsi K [(.ref a), .ty "list"] H Q := ⟨_, _, _, _, false, rfl, .ty _, .base (.tup h), kit_ty (by decide +kernel), q⟩
theorem i_isi_lst_int {a : Addr} {xs : List V} (h : H a = some (.lst xs)) (q : Q (.bl false) H) : rIsi K [(.ref a), .ty "int"] H Q := ⟨_, _, _, _, false, rfl, .ty _, .base (.lst h), kit_ty (by decide +kernel), q⟩
theorem i_isi_lst_bool {a : Addr} {xs : List V} (h : H a = some (.lst xs)) (q : Q (.bl false) H) : rIsi K [(.ref a), .ty "bool"] H Q := ⟨_, _, _, _, false, rfl, .ty _, .base (.lst h), kit_ty (by decide +kernel), q⟩
theorem i_isi_lst_str {a : Addr} {xs : List V} (h : H a = some (.lst xs)) (q : Q (.bl false) H) : rIsi K [(.ref a), .ty "str"] H Q := ⟨_, _, _, _, false, rfl, .ty _, .base (.lst h), kit_ty (by decide +kernel), q⟩
theorem i_isi_lst_tuple {a : Addr} {xs : List V} (h : H a = some (.lst xs)) (q : Q (.bl false) H) : rIsi K [(.ref a), .ty "tuple"] H Q := ⟨_, _, _, _, false, rfl, .ty _, .base (.lst h), kit_ty (by decide +kernel), q⟩
theorem i_isi_lst_list {a : Addr} {xs : List V} (h : H a = some (.lst xs)) (q : Q (.bl true) H) : rIsi K [(.ref a), .ty "list"] H Q := ⟨_, _, _, _, true, rfl, .ty _, .base (.lst h), kit_ty (by decide +kernel), q⟩
/-! text.join -/
def rJoinP (K : PySem.W.Frag) : V → List V → Hp → VK → Prop := fun x xs H Q => ∃ a p, ∃ ys : List Str, x = .str a ∧ xs = [.ref p] ∧ (SqL K H p (ys.map V.str) ∨ SqT K H p (ys.map V.str)) ∧ (ys.map (·.length)).sum + ys.length * a.length ≤ 16777216 ∧ Q (.str (Txt.join a ys)) H
theorem pe_joinP {X : Cx} {to te : TE} {o e : Expr} {apos pos : Pos} (ho : PE X o to) (he : PE X e te) (hs : starEach [e] X.env = [(false, eval e X.env)] := by rfl) (hbase : attributeBase o "join" X.env (eval o X.env) = eval o X.env := by rfl) (hline : (apos.endLine == pos.line) = true := by rfl) :
    PE X (.Call (.Attribute o "join" apos) [e] [] pos) (tM1 (rJoinP X.K) to te) := pe_join ho he hs hbase hline
theorem i_m1c {r : V → List V → Hp → VK → Prop} (q : te σ H fun y H2 => r (S l) [y] H2 Q) : tM1 r (tC (S l)) te σ H Q := ⟨⟨_, rfl⟩, q⟩
end
end Fg
/-! Glue: defs of the text with their promises, calls, own exceptions with one field. -/
namespace Fg
open PySem PySem.Spec PyProof.Rows L2
/-- a def of the text: where it stands, how it is called -/
def DefIn (K : PySem.W.Frag) (mg : Str → Option Value) (x : Str) (st : Stmt) (ps : List Str) : Prop :=
  ∃ (f : Addr) (fd : FuncData), Fun K x x st f fd ∧ mg x = some (.ref f) ∧ Binds K fd ps []
/-- .. and it keeps its promise -/
def OK (P : Program) (w : World) (K : PySem.W.Frag) (mg : Str → Option Value) (base : Heap) (CX : CXT) (k : Nat) (x : Str) (ps : List Str) (sp : Sp) : Prop :=
  ∃ (f : Addr) (fd : FuncData), FnOk P w K mg base CX k f fd ps sp ∧ mg x = some (.ref f) ∧ PySem.W.keepIn K (.ref f) = true ∧ Binds K fd ps []
abbrev P1 := V → Hp → VK → XK → Prop
abbrev P2 := V → V → Hp → VK → XK → Prop
abbrev P3 := V → V → V → Hp → VK → XK → Prop
abbrev P4 := V → V → V → V → Hp → VK → XK → Prop
def sp1 (p : P1) : Sp := fun vs H Q E => ∃ x, vs = [x] ∧ p x H Q E
def sp2 (p : P2) : Sp := fun vs H Q E => ∃ x y, vs = [x, y] ∧ p x y H Q E
def sp3 (p : P3) : Sp := fun vs H Q E => ∃ x y z, vs = [x, y, z] ∧ p x y z H Q E
def sp4 (p : P4) : Sp := fun vs H Q E => ∃ x y z u, vs = [x, y, z, u] ∧ p x y z u H Q E
section
variable {H : Hp} {Q : VK} {E : XK} {x y z u : V} {p1 : P1} {p2 : P2} {p3 : P3} {p4 : P4}
theorem i_sp1 (q : p1 x H Q E) : sp1 p1 ([x] ++ []) H Q E := ⟨x, rfl, q⟩
theorem i_sp2 (q : p2 x y H Q E) : sp2 p2 ([x, y] ++ []) H Q E := ⟨x, y, rfl, q⟩
theorem i_sp3 (q : p3 x y z H Q E) : sp3 p3 ([x, y, z] ++ []) H Q E := ⟨x, y, z, rfl, q⟩
theorem i_sp4 (q : p4 x y z u H Q E) : sp4 p4 ([x, y, z, u] ++ []) H Q E := ⟨x, y, z, u, rfl, q⟩
theorem i_sp1' (q : p1 x H Q E) : sp1 p1 [x] H Q E := ⟨x, rfl, q⟩
theorem i_sp2' (q : p2 x y H Q E) : sp2 p2 [x, y] H Q E := ⟨x, y, rfl, q⟩
theorem i_sp3' (q : p3 x y z H Q E) : sp3 p3 [x, y, z] H Q E := ⟨x, y, z, rfl, q⟩
theorem i_sp4' (q : p4 x y z u H Q E) : sp4 p4 [x, y, z, u] H Q E := ⟨x, y, z, u, rfl, q⟩
end
section
variable {P : Program} {w : World} {K : PySem.W.Frag} {mg : Str → Option Value} {base : Heap} {x : Str} {st : Stmt} {N ps : List Str} {k : Nat} {sp : Sp}
theorem FnOK.mk {f : Addr} {fd : FuncData} (F : Fun K x x st f fd) (S : FnScope N ps (defScope st)) (len : ∀ vs H Q E, sp vs H Q E → vs.length = ps.length)
    (body : ∀ (cdv : Value) (A : Around) (outer : List Env) (s : Shared) (H : Hp) (vs : List V) (Q : VK) (E : XK), Room k (A.deeper (envOfC x (defScope st) s.heap.objs.size f cdv)) → sp vs H Q E →
      ∃ t, PSs (cxOf CX0 P w K mg base N x (defScope st) f cdv A outer s H E).nox (defBody st) t ∧ t { nx := fun _ H' => Q .non H', rt := Q } (start N vs) H) : FnOk P w K mg base CX0 (k + 1) f fd ps sp :=
  F.ok S len fun cdv A outer s H vs Q E hr h => body cdv A outer s H vs Q E hr h
theorem OK.mk (D : DefIn K mg x st ps) (S : FnScope N ps (defScope st)) (len : ∀ vs H Q E, sp vs H Q E → vs.length = ps.length)
    (body : ∀ (f : Addr) (cdv : Value) (A : Around) (outer : List Env) (s : Shared) (H : Hp) (vs : List V) (Q : VK) (E : XK), Room k (A.deeper (envOfC x (defScope st) s.heap.objs.size f cdv)) → sp vs H Q E →
      ∃ t, PSs (cxOf CX0 P w K mg base N x (defScope st) f cdv A outer s H E).nox (defBody st) t ∧ t { nx := fun _ H' => Q .non H', rt := Q } (start N vs) H) : OK P w K mg base CX0 (k + 1) x ps sp := by
  obtain ⟨f, fd, F, hm, hb⟩ := D
  exact ⟨f, fd, F.ok S len fun cdv A outer s H vs Q E hr h => body f cdv A outer s H vs Q E hr h, hm, F.kp, hb⟩
theorem OK.mkX (D : DefIn K mg x st ps) (S : FnScope N ps (defScope st)) (len : ∀ vs H Q E, sp vs H Q E → vs.length = ps.length)
    (body : ∀ (f : Addr) (cdv : Value) (A : Around) (outer : List Env) (s : Shared) (H : Hp) (vs : List V) (Q : VK) (E : XK), Room k (A.deeper (envOfC x (defScope st) s.heap.objs.size f cdv)) → sp vs H Q E →
      ∃ t, PSs (cxOf (L2.CX P w) P w K mg base N x (defScope st) f cdv A outer s H E) (defBody st) t ∧ t { nx := fun _ H' => Q .non H', rt := Q } (start N vs) H) : OK P w K mg base (L2.CX P w) (k + 1) x ps sp := by
  obtain ⟨f, fd, F, hm, hb⟩ := D
  exact ⟨f, fd, F.okX S len fun cdv A outer s H vs Q E hr h => body f cdv A outer s H vs Q E hr h, hm, F.kp, hb⟩
theorem len1 {p : P1} {a : Str} : ∀ vs H Q E, sp1 p vs H Q E → vs.length = [a].length := by
  rintro vs H Q E ⟨_, rfl, _⟩; rfl
theorem len2 {p : P2} {a b : Str} : ∀ vs H Q E, sp2 p vs H Q E → vs.length = [a, b].length := by
  rintro vs H Q E ⟨_, _, rfl, _⟩; rfl
theorem len3 {p : P3} {a b c : Str} : ∀ vs H Q E, sp3 p vs H Q E → vs.length = [a, b, c].length := by
  rintro vs H Q E ⟨_, _, _, rfl, _⟩; rfl
theorem len4 {p : P4} {a b c d : Str} : ∀ vs H Q E, sp4 p vs H Q E → vs.length = [a, b, c, d].length := by
  rintro vs H Q E ⟨_, _, _, _, rfl, _⟩; rfl
theorem OK.weak {CX : CXT} {sp' : Sp} (G : OK P w K mg base CX k x ps sp) (h : ∀ vs H Q E, sp' vs H Q E → sp vs H Q E) : OK P w K mg base CX k x ps sp' := by
  obtain ⟨f, fd, F, r⟩ := G
  exact ⟨f, fd, F.imp h, r⟩
end
/-! ### calls -/
section
variable {X : Cx} {CX : CXT} {k : Nat} {x : Str} {ps : List Str} {sp : Sp} {E : XK} {e : Expr} {es : List Expr} {ta : TA} {p pos : Pos}
theorem pe_f (G : OK X.prog X.w X.K X.mg X.base CX k x ps sp) (hr : Room k X.A) (hx : Passes CX X E) (ha : PA X (e :: es) ta) (hg : Gl X x := by rfl) (hd : (x == ("__debug__" : Str)) = false := by decide)
    (he : starEach (e :: es) X.env = (false, eval e X.env) :: starEach es X.env := by rfl) (hpl : (backTo pos (starEach es X.env)).any (·.1) = false := by rfl) :
    PE X (.Call (.Name x p) (e :: es) [] pos) (tCall sp [] E ta) := by
  obtain ⟨f, fd, F, hm, hk, hb⟩ := G
  exact pe_call F hr hg hm hk hb .nil hx ha hd he hpl
theorem pe_fS {ES : L2.St → XK} (G : OK X.prog X.w X.K X.mg X.base CX k x ps sp) (hr : Room k X.A) (hx : ∀ σ, PassesAt CX X σ (ES σ)) (ha : PA X (e :: es) ta) (hg : Gl X x := by rfl) (hd : (x == ("__debug__" : Str)) = false := by decide)
    (he : starEach (e :: es) X.env = (false, eval e X.env) :: starEach es X.env := by rfl) (hpl : (backTo pos (starEach es X.env)).any (·.1) = false := by rfl) :
    PE X (.Call (.Name x p) (e :: es) [] pos) (tCallS sp ES ta) := by
  obtain ⟨f, fd, F, hm, hk, hb⟩ := G
  exact pe_callS F hr hg hm hk hb hx ha hd he hpl
theorem pe_gS (l : List Nat) (h : ∃ t, X.mg x = some (.str ⟨l.toArray⟩ t)) (hg : Gl X x := by rfl) (hd : (x == ("__debug__" : Str)) = false := by decide) : PE X (.Name x pos) (tC (S l)) := by
  obtain ⟨t, hm⟩ := h
  exact pe_glob hg hm ⟨t, rfl⟩ hd
theorem pe_gI (i : Int) (h : ∃ t, X.mg x = some (.int i t)) (hg : Gl X x := by rfl) (hd : (x == ("__debug__" : Str)) = false := by decide) : PE X (.Name x pos) (tC (.int i)) := by
  obtain ⟨t, hm⟩ := h
  exact pe_glob hg hm ⟨t, rfl⟩ hd
theorem pe_gR (C : Addr) (h : X.mg x = some (.ref C)) (hg : Gl X x := by rfl) (hd : (x == ("__debug__" : Str)) = false := by decide) : PE X (.Name x pos) (tC (.ref C)) := pe_glob hg h rfl hd
end
/-! ### an own exception with one field -/
/-- what its __init__ promises -/
def spIni (C : Addr) (f : Str) : Sp := sp2 fun x v H Q _ => ∃ a, x = .ref a ∧ H a = some (exo a C none) ∧ ∀ dx, H dx = none → dx ≠ a → Q .non (upd (upd H dx (exd dx [(f, v)])) a (exo a C (some dx)))
def OKx (P : Program) (w : World) (K : PySem.W.Frag) (mg : Str → Option Value) (base : Heap) (x f : Str) (C : Addr) : Prop :=
  mg x = some (.ref C) ∧ OexC K C ∧ PySem.W.findIn K (.ref C) f = some none ∧ ∃ (fI : Addr) (fd : FuncData), PySem.W.findIn K (.ref C) "__init__" = some (some (.ref fI)) ∧ PySem.W.typeIn K (.ref fI) = some (.type "function") ∧
    FnOk P w K mg base CX0 1 fI fd ["self", f] (spIni C f) ∧ Binds K fd ["self", f] []
theorem ini_ok {P : Program} {w : World} {K : PySem.W.Frag} {mg : Str → Option Value} {base : Heap} {C fI : Addr} {f q : Str} {st : Stmt} {fd : FuncData} (F : Fun K "__init__" q st fI fd) (S : FnScope ["self", f] ["self", f] (defScope st))
    (ox : OexC K C) (noF : PySem.W.findIn K (.ref C) f = some none)
    (hb : ∀ (cdv : Value) (A : Around) (outer : List Env) (s : Shared) (H : Hp) (E : XK), PSs (cxOf CX0 P w K mg base ["self", f] q (defScope st) fI cdv A outer s H E).nox (defBody st) (tOst K f (tVar 0) (tVar 1))) :
    FnOk P w K mg base CX0 1 fI fd ["self", f] (spIni C f) := by
  refine F.ok S (fun vs H Q E h => len2 vs H Q E h) fun cdv A outer s H vs Q E hr h => ⟨_, hb cdv A outer s H E, ?_⟩
  obtain ⟨x, v, rfl, a, rfl, ha, q⟩ := h
  exact ⟨v, rfl, .ref a, rfl, a, C, rfl, ox, noF, .inl ⟨ha, fun dx n ne => q dx n ne⟩⟩
/-- C(e): an error whose dict, new, holds the field -/
def tMkE (C : Addr) (f : Str) (ta : TA) : L2.St → Hp → XK → Prop := fun σ H Q => ta σ H fun vs H1 => ∃ v, vs = [v] ∧ ∀ d, H1 d = none → Q (.ref C) (some d) (upd H1 d (.xd [(f, v)]))
theorem pa_mono {X : Cx} {es : List Expr} {ta : TA} (ha : PA X es ta) : PA X es fun σ H R => ∃ Q1 : List V → Hp → Prop, ta σ H Q1 ∧ ∀ vs H1, Q1 vs H1 → R vs H1 := by
  refine ⟨fun pos pins s σ H Q I h => ?_⟩
  obtain ⟨Q1, h, hi⟩ := h
  exact thn (ha.run pos pins s σ H Q1 I h) fun us s1 ⟨vs, H1, J, r, q⟩ => ⟨vs, H1, J, r, hi vs H1 q⟩
theorem pmk_E {X : Cx} {x f : Str} {C : Addr} {e : Expr} {ta : TA} {p pos : Pos} {k : Nat} (G : OKx X.prog X.w X.K X.mg X.base x f C) (hr : Room (k + 2) X.A) (ha : PA X [e] ta) (hg : Gl X x := by rfl) (hdb : (x == ("__debug__" : Str)) = false := by decide)
    (he : starEach [e] X.env = (false, eval e X.env) :: starEach [] X.env := by rfl) (hpl : (backTo pos (starEach [] X.env)).any (·.1) = false := by rfl) :
    PMk X (.Call (.Name x p) [e] [] pos) (tMkE C f ta) := by
  obtain ⟨hm, ox, noF, fI, fd, iC, tI, F, hb⟩ := G
  intro pins s σ H Q I h
  refine pmk_oex (k := 1) (dvs := []) ox iC tI F (hr.mono (by omega)) hb .nil pass0 hg hm (pa_mono ha) hdb he hpl pins s σ H Q I ⟨_, h, fun vs H1 hq => ?_⟩
  obtain ⟨v, rfl, q⟩ := hq
  refine ⟨by show 1 ≤ 1000; omega, fun a na => ⟨.ref a, v, rfl, a, rfl, upd_same, fun dx nd ne => ⟨rfl, dx, [(f, v)], upd_same, ?_, ?_, ?_⟩⟩⟩
  · rw [upd_ne ne, upd_same]
  · rw [upd_ne ne] at nd; exact nd
  · have n2 : H1 dx = none := by rw [upd_ne ne] at nd; exact nd
    have e1 : upd (del (upd (upd (upd H1 a (exo a C none)) dx (exd dx [(f, v)])) a (exo a C (some dx))) a) dx (.xd [(f, v)]) = upd H1 dx (.xd [(f, v)]) := by
      funext b
      by_cases hb : b = dx
      · rw [hb, upd_same, upd_same]
      · rw [upd_ne hb, upd_ne hb]
        by_cases ha : b = a
        · rw [ha, del_same, na]
        · rw [del_ne ha, upd_ne ha, upd_ne hb, upd_ne ha]
    rw [e1]
    exact q dx n2
def tRaiseP (t : L2.St → Hp → XK → Prop) (W : WX) : TS := fun _ σ H => t σ H fun cls d H' => W cls d σ H'
theorem ps_raiseP {X : Cx} {W : WX} {e : Expr} {t : L2.St → Hp → XK → Prop} {pos : Pos} (hc : X.calm = true) (tk : Takes X W) (he : PMk X e t) : PS X (.Raise (some e) none pos) (tRaiseP t W) := ps_raise hc tk he
/-! ### isinstance(e, C) of a caught error, e.f -/
/-- the class of a caught error, for isinstance -/
structure ExcD (K : PySem.W.Frag) (D : Addr) : Prop where
  cl : (PySem.W.clsIn K D).isSome = true
  hg : PySem.W.findIn K (.ref D) "__getattribute__" = some (some (.builtin "BaseException.__getattribute__"))
  hk : PySem.W.findIn K (.ref D) "__getattr__" = some none
  hs : PySem.W.subIn K (.ref D) (.type "BaseException") = some true
  hd : PySem.W.hasDictIn K D = true
  ha : PySem.W.findIn K (.ref D) "__class__" = some (some (.builtin "object.__class__"))
  hn : PySem.W.specialIn K (.builtin "object.__class__") "__get__" = some (some (.builtin "getset_descriptor.__get__"))
  ht : PySem.W.takesIn K (.builtin "object.__class__") = some true
  hm : PySem.W.mroIn K D (.type "object") = some true
theorem ExcD.xf {K : PySem.W.Frag} {D : Addr} (T : ExcD K D) : XfC K D := ⟨T.hg, T.hk, T.hs, T.hd⟩
def rIsX (K : PySem.W.Frag) (a : Addr) (cls : Value) (d : Option Addr) : RC := fun xs H Q => ∃ (D dd : Addr) (fs : List (Str × V)) (c : V) (cv : Value) (b : Bool),
  xs = [.ref a, c] ∧ cls = .ref D ∧ d = some dd ∧ H dd = some (.xd fs) ∧ ExcD K D ∧ ClsV c cv ∧ PySem.W.kitOne K (.ref D) cv = some b ∧ Q (.bl b) H
theorem call_isX {X : Cx} {a : Addr} {oe : Obj} {cls : Value} {d : Option Addr} {pn : List (Addr × Obj)} (hz : Zc cls d oe) (hf : ∃ vs, oe.data = .fields vs) : CallR (X.suite a ((a, oe) :: pn)) (.builtin "isinstance") (rIsX X.K a cls d) := by
  intro pins s σ H xs us Q I r h
  obtain ⟨D, dd, fs, c, cv, b, rfl, rfl, rfl, hdd, T, kc, e, q⟩ := h
  obtain ⟨u1, u2, rfl, r1, r2⟩ := vals2 r
  obtain rfl : u1 = Value.ref a := r1
  obtain rfl := kc.eq r2
  obtain ⟨hget, _⟩ := I.pin (a, oe) (List.mem_append_left _ List.mem_cons_self)
  obtain ⟨vs, hv⟩ := hf
  have hx : ObjOk X.prog X.w H s.heap dd (.xd fs) := I.hok dd _ hdd
  obtain ⟨mA, ⟨o, es, ep, ho, _⟩, _⟩ := hx
  have J : PySem.W.InstAt s.heap a oe D (some o) := ⟨hget, hz.1, by unfold PySem.W.notCls; rw [hv] <;> rfl, by rw [hz.2]; exact ho⟩
  exact PySem.W.kia_one (PySem.W.kitx_exc T.cl T.hg T.hk T.hs T.ha T.hn T.ht T.hm) I.kIn J e (fun z => nomatch z) fun tk => ⟨.bl b, H, I.tok tk, rfl, q⟩
section
variable {σ : L2.St} {H : Hp} {D : Ends} {t : L2.St → Hp → XK → Prop} {W : WX} {Q : XK} {C : Addr} {f : Str} {ta : TA} {v : V} {P : V → Prop}
theorem i_raise (q : t σ H fun cls d H' => W cls d σ H') : tRaiseP t W D σ H := q
theorem i_mkE (q : ta σ H fun vs H1 => ∃ v, vs = [v] ∧ ∀ d, H1 d = none → Q (.ref C) (some d) (upd H1 d (.xd [(f, v)]))) : tMkE C f ta σ H Q := q
theorem i_ex1 (q : P v) : ∃ u, [v] = [u] ∧ P u := ⟨v, rfl, q⟩
end
/-- the wish for an error of the class at C whose dict, new, holds f = v -/
def Rz (E : XK) (H : Hp) (C : Addr) (f : Str) (v : V) : Prop := ∀ d H', H d = none → Same H H' → H' d = some (.xd [(f, v)]) → E (.ref C) (some d) H'
theorem Rz.mono {E : XK} {H H1 : Hp} {C : Addr} {f : Str} {v : V} (h : Rz E H C f v) (s : Same H H1) : Rz E H1 C f v := fun d H' n s' e => h d H' (s.free n) (s.trans s') e
theorem Rz.at {E : XK} {H : Hp} {C : Addr} {f : Str} {v : V} (h : Rz E H C f v) {d : Addr} (n : H d = none) : E (.ref C) (some d) (upd H d (.xd [(f, v)])) :=
  h d _ n (fun b o e => by rw [upd_ne (ne_of_none e n)]; exact e) upd_same
/-! ### min of some texts -/
def rMinS (K : PySem.W.Frag) : RC := fun vs H Q => ∃ (a : Addr) (xs : List (List Nat)), vs = [V.ref a] ∧ SqL K H a (xs.map S) ∧ xs ≠ [] ∧ ∀ m, m ∈ xs → (∀ y ∈ xs, ¬ y < m) → Q (S m) H
theorem argBest_min (val : Nat → List Nat) : ∀ k, argBest (fun i j => decide (val i < val j)) k ≤ k ∧ ∀ j, j ≤ k → ¬ val j < val (argBest (fun i j => decide (val i < val j)) k)
  | 0 => ⟨Nat.le_refl _, fun j hj => by
    have : j = 0 := by omega
    subst this
    exact List.lt_irrefl _⟩
  | k + 1 => by
    obtain ⟨h1, h2⟩ := argBest_min val k
    unfold argBest
    by_cases h : val (k + 1) < val (argBest (fun i j => decide (val i < val j)) k)
    · rw [if_pos (decide_eq_true h)]
      refine ⟨Nat.le_refl _, fun j hj => ?_⟩
      by_cases e : j = k + 1
      · subst e; exact List.lt_irrefl _
      · exact fun z => h2 j (by omega) (List.lt_trans z h)
    · rw [if_neg (by simpa using h)]
      refine ⟨by omega, fun j hj => ?_⟩
      by_cases e : j = k + 1
      · subst e; exact h
      · exact h2 j (by omega)
theorem cmp_strs {prog : Program} {w : World} {A : Around} {P : Nat → Value → Prop} (val : Nat → List Nat) (hval : ∀ i v, P i v → ∃ t, v = .str ⟨(val i).toArray⟩ t) : CmpOf prog w A .Lt P (fun i j => decide (val i < val j)) := fun i j vi vj s Q E hi hj h => by
  obtain ⟨t, rfl⟩ := hval i vi hi
  obtain ⟨u, rfl⟩ := hval j vj hj
  refine richCompare_gives (op := .Lt) (typeIs_str s _ t) (typeIs_str s _ u) F.slot_str_lt F.entry_str_lt (F.args_str_lt_2 _ _) (gives_str_lt _ _ t u) (fun x => nomatch x) ?_
  show Q (Value.bool (decide ((val i).toArray.toList < (val j).toArray.toList))) s
  simpa using h
theorem cr_minS {X : Cx} (hc : X.calm = true) : CallR X (.builtin "min") (rMinS X.K) := by
  intro pins s σ H vs us Q I r h
  obtain ⟨a, xs, rfl, hs, hne, q⟩ := h
  obtain ⟨its, rv, hl, _⟩ := I.list hs
  rw [Vals.ref1 r]
  have hlen : xs.length = its.length := by have := rv.length; rw [List.length_map] at this; exact this
  have hpos : 0 < its.length := by rw [← hlen]; exact List.length_pos_iff.mpr hne
  have hL := hl.isList
  have ha : a < s.heap.objs.size := by obtain ⟨_, e, _⟩ := id hL; exact Heap.lt_size e
  have hval : ∀ (i : Nat) (v : Value), its.toArray[i]? = some v → ∃ t, v = Value.str ⟨(xs.getD i []).toArray⟩ t := fun i v hv => by
    have hv' : its[i]? = some v := by simpa using hv
    have hi : i < xs.length := by rw [hlen]; exact (List.getElem?_eq_some_iff.mp hv').1
    obtain ⟨u, hu, ru⟩ := rv.get (i := i) (x := S (xs.getD i [])) (by rw [List.getElem?_map, List.getElem?_eq_getElem hi, List.getD_eq_getElem?_getD, List.getElem?_eq_getElem hi]; rfl)
    rw [hv'] at hu
    cases hu
    exact ru
  refine call_min_walk (wpAny_pyIter_list hL ?_)
  refine ⟨_, _, _, _, _, _, _, rfl, Walks.list (A := X.A.in1) (I.ok.hd hc) s.heap.objs.size a (Nat.ne_of_lt ha) its.toArray,
    ⟨⟨_, Heap.get?_push_size _ rfl, rfl, rfl⟩, hL.push _⟩, fun b hb => ?_, by simpa using hpos, cmp_strs (fun i => xs.getD i []) hval, fun v h' tk hP hk => ?_⟩
  · show b < (s.heap.push _).objs.size
    rw [Heap.size_push]
    rcases List.mem_cons.mp hb with e | hb
    · rw [e]; exact Nat.lt_succ_self _
    · rw [List.mem_singleton.mp hb]; exact Nat.lt_succ_of_lt ha
  · obtain ⟨t, rfl⟩ := hval _ v hP
    obtain ⟨b1, b2⟩ := argBest_min (fun i => xs.getD i []) (its.toArray.size - 1)
    have sz : its.toArray.size = xs.length := by simp [hlen]
    have hb : argBest (fun i j => decide (xs.getD i [] < xs.getD j [])) (its.toArray.size - 1) < xs.length := by omega
    refine ⟨S (xs.getD _ []), H, I.kept (t' := tk) fun b u e => hk b u (fun hm => ?_) (Heap.get?_push_of_some _ e), ⟨t, rfl⟩, q _ ?_ fun y hy => ?_⟩
    · have e1 : b = s.heap.objs.size := List.mem_singleton.mp hm
      have e2 := Heap.lt_size e
      rw [e1] at e2
      exact absurd e2 (Nat.lt_irrefl _)
    · rw [List.getD_eq_getElem?_getD, List.getElem?_eq_getElem hb]
      exact List.getElem_mem hb
    · obtain ⟨i, hi, e⟩ := List.mem_iff_getElem.mp hy
      have e2 : xs.getD i [] = y := by rw [List.getD_eq_getElem?_getD, List.getElem?_eq_getElem hi, ← e]; rfl
      rw [← e2]
      exact b2 i (by omega)
theorem i_minS {K : PySem.W.Frag} {H : Hp} {Q : VK} {a : Addr} {xs : List (List Nat)} (hs : SqL K H a (xs.map S)) (hne : xs ≠ []) (q : ∀ m, m ∈ xs → (∀ y ∈ xs, ¬ y < m) → Q (S m) H) : rMinS K [.ref a] H Q := ⟨a, xs, rfl, hs, hne, q⟩
/-! ### the rules, the written part named -/
section
variable {X : Cx} (K : PySem.W.Frag) {e o : Expr} {es : List Expr} {te to : TE} {ta : TA} {tg : Expr} {p pos apos cpos tpos : Pos} {elts : List Expr} {kk : Nat}
theorem opAdd (h : X.K = K := by rfl) : OpR X (binaryOp .Add) (addP K) := h ▸ op_addP
theorem opEq (hu : X.A.units + 64 < cLine) (h : X.K = K := by rfl) : OpR X (compareOp .Eq) (eqP K) := h ▸ op_eqP hu
theorem opNe (hu : X.A.units + 64 < cLine) (h : X.K = K := by rfl) : OpR X (compareOp .NotEq) (neP K) := h ▸ op_neP hu
theorem opIn (h : X.K = K := by rfl) : OpR X (compareOp .In) (inP K) := h ▸ op_inP
theorem opNotIn (h : X.K = K := by rfl) : OpR X (compareOp .NotIn) (notInP K) := h ▸ op_notInP
theorem ixK (h : X.K = K := by rfl) : IxR X (ixP K) := h ▸ ix_P
theorem slK (h : X.K = K := by rfl) : SlR X (slP K) := h ▸ sl_P
theorem piAny (he : PE X e te) (h : X.K = K := by rfl) : PI X tg e (iAny K te) := h ▸ pi_any he
theorem piEnum (hg : Gl X "enumerate") (hm : X.mg "enumerate" = none) (ha : PA X [e] ta) (h : X.K = K := by rfl) (hs : starEach [e] X.env = [(false, eval e X.env)] := by rfl) :
    PI X (.Tuple elts kk tpos) (.Call (.Name "enumerate" p) [e] [] pos) (iEnumP K ta) := h ▸ pi_enumP hg hm ha hs
theorem cLen (h : X.K = K := by rfl) : CallR X (.builtin "len") (rLenP K) := h ▸ call_lenP
theorem cSum (hc : X.calm = true) (h : X.K = K := by rfl) : CallR X (.builtin "sum") (rSum K) := h ▸ cr_sum hc
theorem cAll (hc : X.calm = true) (h : X.K = K := by rfl) : CallR X (.builtin "all") (rAll K) := h ▸ cr_all hc
theorem cTup (h : X.K = K := by rfl) : CallR X (.type "tuple") (rTupP K) := h ▸ call_tupP
theorem cIsi (h : X.K = K := by rfl) : CallR X (.builtin "isinstance") (rIsi K) := h ▸ call_isi
theorem cMinS (hc : X.calm = true) (h : X.K = K := by rfl) : CallR X (.builtin "min") (rMinS K) := h ▸ cr_minS hc
theorem cSortedS (h : X.K = K := by rfl) : CallR X (.builtin "sorted") (rSortedS K) := h ▸ cr_sortedS
theorem peJoin (ho : PE X o to) (he : PE X e te) (h : X.K = K := by rfl) (hs : starEach [e] X.env = [(false, eval e X.env)] := by rfl) (hbase : attributeBase o "join" X.env (eval o X.env) = eval o X.env := by rfl) (hline : (apos.endLine == pos.line) = true := by rfl) :
    PE X (.Call (.Attribute o "join" apos) [e] [] pos) (tM1 (rJoinP K) to te) := h ▸ pe_joinP ho he hs hbase hline
theorem pgTup {t : TGs} {n : Nat} (hc : X.calm = true) (ht : PGs X es t) (h : X.K = K := by rfl) (hn : (assignEach es X.env).length = n := by rfl) (hst : (assignEach es X.env).findIdx? (·.1) = none := by rfl) :
    PG X (.Tuple es kk pos) (gTup K n t) := h ▸ pg_tup hc ht hn hst
/-- xs.append(e) -/
def tApp (K : PySem.W.Frag) (to : TE) (t : TA) : TE := tBM K "list" rAppend to t
theorem peApp (ho : PE X o to) (ha : PA X (e :: es) ta) (h : X.K = K := by rfl) (hbase : attributeBase o "append" X.env (eval o X.env) = eval o X.env := by rfl)
    (hfew : ((backTo cpos (starEach (e :: es) X.env)).all (fun x => !x.1) && (backToKw cpos (keywordEach [] X.env)).all (fun x => x.1.isSome)
      && decide ((e :: es).length + ([] : List Keyword).length + (if ([] : List Keyword).isEmpty then 0 else 1) < 30)) = true := by rfl)
    (hline : (apos.endLine == cpos.line) = true := by rfl) (hs : starEach (e :: es) X.env = (false, eval e X.env) :: starEach es X.env := by rfl) (hplain : (backTo cpos (starEach es X.env)).any (·.1) = false := by rfl) :
    PE X (.Call (.Attribute o "append" apos) (e :: es) [] cpos) (tApp K to ta) := h ▸ pe_bm PySem.F.plainAttrs_list PySem.F.slot_list_append PySem.F.type_list_append mt_append ho ha hbase hfew hline hs hplain
end
section
variable {K : PySem.W.Frag} {σ : L2.St} {H : Hp} {Q : VK} {te : TE} {ta : TA} {l : Addr} {xs : List V} {v : V}
theorem i_app (q : te σ H fun x H1 => tyV K "list" x H1 ∧ ta σ H1 fun xs H2 => rAppend x xs H2 Q) : tApp K te ta σ H Q := q
theorem i_appAt (h : H l = some (.lst xs)) {P : Prop} (q : P) : tyV K "list" (.ref l) H ∧ P := ⟨.inl ⟨rfl, _, .inl (.inl h)⟩, q⟩
theorem i_appEnd (h : H l = some (.lst xs)) (hz : xs.length < 100000) (q : Q .non (upd H l (.lst (xs ++ [v])))) : rAppend (.ref l) [v] H Q := ⟨l, xs, v, rfl, rfl, h, Nat.lt_trans hz (by decide), q⟩
end
/-! ### stores into lists; a word between two statements -/
section
variable {σ : L2.St} {H : Hp} {D : Ends} {t u : TS} {to ti : TE} {v : V} {Qs : L2.St → Hp → Prop} {Qh : Hp → Prop} {p : Addr} {xs ys : List V} {z : Int}
theorem i_gsub {ts : TSet} (q : to σ H fun o H1 => ti σ H1 fun i H2 => ts o i v H2 fun H3 => Qs σ H3) : gSub to ti ts v σ H Qs := q
theorem i_setL (j : Nat) (h : H p = some (.lst xs)) (hj : ixN xs.length z = some j) (e : xs.set j v = ys) (q : Qh (upd H p (.lst ys))) : rSetL (.ref p) (.int z) v H Qh := ⟨p, xs, z, j, rfl, rfl, h, hj, by rw [e]; exact q⟩
theorem i_cut (Mid : L2.St → Hp → Prop) (h1 : t { D with nx := Mid } σ H) (h2 : ∀ σ' H', Mid σ' H' → u D σ' H') : Evl.tCut t u D σ H := ⟨Mid, h1, h2⟩
end
/-! ### "".join -/
theorem joinL_nil : ∀ ls : List (List Nat), TL.joinL [] ls = ls.flatten
  | [] => rfl
  | [p] => by simp [TL.joinL]
  | p :: q :: r => by
    show p ++ ([] ++ TL.joinL [] (q :: r)) = _
    rw [joinL_nil (q :: r)]
    rfl
theorem join_nil (ls : List (List Nat)) : Txt.join ⟨([] : List Nat).toArray⟩ (ls.map fun l => (⟨l.toArray⟩ : Str)) = ⟨ls.flatten.toArray⟩ := by
  refine TL.ext_tl ?_
  rw [TL.join_eq, TL.tl_join, List.map_map]
  show TL.joinL ([] : List Nat).toArray.toList (ls.map fun l => l.toArray.toList) = ls.flatten.toArray.toList
  simp [joinL_nil]
theorem i_join0 {K : PySem.W.Frag} {H : Hp} {Q : VK} {p : Addr} {ls : List (List Nat)} (hs : SqL K H p (ls.map S)) (hz : (ls.map List.length).sum ≤ 100000) (q : Q (S ls.flatten) H) : rJoinP K (S []) [.ref p] H Q := by
  refine ⟨⟨([] : List Nat).toArray⟩, p, ls.map fun l => (⟨l.toArray⟩ : Str), rfl, rfl, .inl ?_, ?_, ?_⟩
  · rw [List.map_map]; exact hs
  · rw [List.map_map]
    have e : (ls.map ((·.length) ∘ fun l => (⟨l.toArray⟩ : Str))) = ls.map List.length := List.map_congr_left fun l _ => str_len l
    rw [e]
    show (ls.map List.length).sum + _ * ([] : List Nat).toArray.size ≤ _
    simp
    omega
  · rw [join_nil]; exact q
theorem flat_one (cs : List Nat) : (cs.map fun c => [c]).flatten = cs := by
  induction cs with
  | nil => rfl
  | cons a r ih => rw [List.map_cons, List.flatten_cons, ih]; rfl
theorem len_one (cs : List Nat) : ((cs.map fun c => [c]).map List.length).sum = cs.length := by
  induction cs with
  | nil => rfl
  | cons a r ih => rw [List.map_cons, List.map_cons, List.sum_cons, ih, List.length_cons, List.length_cons, List.length_nil]; omega
/-- .. of signs -/
theorem i_join1 {K : PySem.W.Frag} {H : Hp} {Q : VK} {p : Addr} {cs : List Nat} (hs : SqL K H p (cs.map fun c => S [c])) (hz : cs.length ≤ 100000) (q : Q (S cs) H) : rJoinP K (S []) [.ref p] H Q := by
  refine i_join0 (ls := cs.map fun c => [c]) (by rw [List.map_map]; exact hs) (by rw [len_one]; exact hz) ?_
  rw [flat_one]
  exact q
theorem i_yes {σ : L2.St} {H : Hp} {QB : Bool → Hp → Prop} (q : QB true H) : tYes σ H QB := q
/-! ### sorted(some texts): its first -/
theorem ltCps_dec : ∀ a b : List Nat, Spec.ltCps a b = decide (a < b)
  | [], [] => by rw [decide_eq_false (List.lt_irrefl _)]; rfl
  | [], b :: t => by rw [decide_eq_true (List.nil_lt_cons b t)]; rfl
  | a :: r, [] => by rw [decide_eq_false (List.not_lt_nil _)]; rfl
  | a :: r, b :: t => by
    show (decide (a < b) || (a == b && Spec.ltCps r t)) = _
    rw [ltCps_dec r t, Bool.eq_iff_iff]
    simp [List.cons_lt_cons_iff]
theorem rising_all : ∀ (r : List Str) (p : Str), PyProof.Rows.risingS p r = true → ∀ y ∈ r, ¬ y.cps.toList < p.cps.toList
  | [], p, _, y, hy => by simp at hy
  | x :: r, p, h, y, hy => by
    have h' : (!Spec.ltCps x.cps.toList p.cps.toList && PyProof.Rows.risingS x r) = true := h
    rw [Bool.and_eq_true, ltCps_dec] at h'
    have h1 : ¬ x.cps.toList < p.cps.toList := by simpa using h'.1
    rcases List.mem_cons.mp hy with rfl | hy
    · exact h1
    · have h2 := rising_all r x h'.2 y hy
      rw [List.not_lt] at h1 h2 ⊢
      exact List.le_trans h1 h2
theorem i_sortedS {K : PySem.W.Frag} {H : Hp} {Q : VK} {a : Addr} {ls : List (List Nat)} (hs : SqL K H a (ls.map S)) (h64 : ls.length < 64)
    (q : ∀ (zs : List (List Nat)) (p : Addr), zs.Perm ls → (∀ m, zs[0]? = some m → m ∈ ls ∧ ∀ y ∈ ls, ¬ y < m) → H p = none → Q (.ref p) (upd H p (.lst (zs.map S)))) : rSortedS K [.ref a] H Q := by
  refine ⟨a, ls.map fun l => (⟨l.toArray⟩ : Str), rfl, by rw [List.map_map]; exact hs, by rw [List.length_map]; exact h64, fun ys p pm srt np => ?_⟩
  have e : ys = (ys.map fun z => z.cps.toList).map fun l => (⟨l.toArray⟩ : Str) := by
    rw [List.map_map]
    have : ys.map ((fun l => (⟨l.toArray⟩ : Str)) ∘ fun z => z.cps.toList) = ys.map id := List.map_congr_left fun z _ => rfl
    rw [this, List.map_id]
  have pm2 : (ys.map fun z => z.cps.toList).Perm ls := by
    have := pm.map fun z : Str => z.cps.toList
    rw [List.map_map] at this
    have e2 : ls.map ((fun z : Str => z.cps.toList) ∘ fun l => (⟨l.toArray⟩ : Str)) = ls.map id := List.map_congr_left fun l _ => rfl
    rw [e2, List.map_id] at this
    exact this
  have := q (ys.map fun z => z.cps.toList) p pm2 (fun m hm => ?_) np
  · rw [List.map_map] at this
    have e3 : ys.map (S ∘ fun z => z.cps.toList) = ys.map V.str := List.map_congr_left fun z _ => rfl
    rw [e3] at this
    exact this
  · have hmem : m ∈ ys.map fun z => z.cps.toList := List.mem_of_getElem? hm
    refine ⟨pm2.mem_iff.mp hmem, fun y hy => ?_⟩
    have hy2 := pm2.mem_iff.mpr hy
    obtain ⟨z, hz, rfl⟩ := List.mem_map.mp hy2
    cases ys with
    | nil => simp at hz
    | cons x r =>
      have hm' : x.cps.toList = m := by simpa using hm
      rw [← hm']
      have srt' : PyProof.Rows.risingS x r = true := srt
      rcases List.mem_cons.mp hz with rfl | hz
      · exact List.lt_irrefl _
      · exact rising_all r x srt' z hz
/-! ### isinstance(e, C), e.f in a suite; data compared -/
section
variable {K : PySem.W.Frag} {σ : L2.St} {H : Hp} {Q : VK} {a dd D C : Addr} {fs : List (Str × V)} {c x y v : V} {cv : Value} {b r : Bool} {i : Nat} {f : Str} {d1 d2 : PyData}
theorem i_isX (hdd : H dd = some (.xd fs)) (T : ExcD K D) (kc : ClsV c cv) (e : PySem.W.kitOne K (.ref D) cv = some b) (q : Q (.bl b) H) : rIsX K a (.ref D) (some dd) [.ref a, c] H Q := ⟨D, dd, fs, c, cv, b, rfl, rfl, rfl, hdd, T, kc, e, q⟩
theorem i_xf (h : σ[i]? = some (some (.ref a))) (hdd : H dd = some (.xd [(f, v)])) (q : Q v H) : tXf a (.ref C) (some dd) C f (tVar i) σ H Q := ⟨.ref a, h, rfl, rfl, dd, _, v, rfl, hdd, by simp [List.lookup], q⟩
theorem i_eq_data (h1 : Dp K H x d1) (h2 : Dp K H y d2) (s1 : SeqAt.shaped d1 = true) (s2 : SeqAt.shaped d2 = true) (e : PyData.eqv d1 d2 = r) (q : Q (.bl r) H) : eqP K x y H Q := .inr ⟨d1, d2, h1, h2, s1, s2, by rw [e]; exact q⟩
theorem i_ne_data (h1 : Dp K H x d1) (h2 : Dp K H y d2) (s1 : SeqAt.shaped d1 = true) (s2 : SeqAt.shaped d2 = true) (e : PyData.eqv d1 d2 = r) (q : Q (.bl (!r)) H) : neP K x y H Q := .inr ⟨d1, d2, h1, h2, s1, s2, by rw [e]; exact q⟩
theorem dp_bls (bs : List Bool) : DpAll K H (bs.map V.bl) (bs.map PyData.bool) := by
  induction bs with
  | nil => exact .nil
  | cons b r ih => exact .cons (.bl b) ih
theorem dp_ints (ns : List Int) : DpAll K H (ns.map V.int) (ns.map PyData.int) := by
  induction ns with
  | nil => exact .nil
  | cons b r ih => exact .cons (.int b) ih
end
theorem cIsX (K : PySem.W.Frag) {X : Cx} {a : Addr} {oe : Obj} {cls : Value} {d : Option Addr} {pn : List (Addr × Obj)} (hz : Zc cls d oe) (hf : ∃ vs, oe.data = .fields vs) (h : X.K = K := by rfl) : CallR (X.suite a ((a, oe) :: pn)) (.builtin "isinstance") (rIsX K a cls d) := h ▸ call_isX hz hf
/-- what a clause asks, at an error of a class that it names -/
theorem i_caught {K : PySem.W.Frag} {C : Addr} {c : Value} {i : Nat} {ts : Addr → Value → Option Addr → TS} {Wout : WX} {D : Ends} {d : Option Addr} {σ : L2.St} {H : Hp} (h : PySem.W.exmOne K (.ref C) c = some true)
    (q : ∀ a, H a = none → ts a (.ref C) d { nx := fun σ' H' => D.nx (σ'.set i none) H', rt := D.rt, bk := fun σ' H' => D.bk (σ'.set i none) H', ct := fun σ' H' => D.ct (σ'.set i none) H' } (σ.set i (some (.ref a))) H) : wAs K c i ts Wout D (.ref C) d σ H :=
  ⟨true, h, fun _ => q, fun z => nomatch z⟩
/-! ### isinstance and clauses, from what stands of the classes -/
theorem kit_ref {K : PySem.W.Frag} {C D : Addr} {b : Bool} (hi : PySem.W.isClsIn K D = true) (ht : PySem.W.typeIn K (.ref D) = some (.type "type")) (hs : PySem.W.subIn K (.ref D) (.ref D) = some true) (e : PySem.W.subIn K (.ref C) (.ref D) = some b) : PySem.W.kitOne K (.ref C) (.ref D) = some b := by
  unfold PySem.W.kitOne
  by_cases h : C = D
  · subst h
    rw [hs] at e
    rw [if_pos (beq_self_eq_true _)]
    exact e
  · rw [if_neg (fun z => h (by simpa using z))]
    show (if ((PySem.W.clsIn K D).isSome && PySem.W.typeIn K (.ref D) == some (.type "type")) = true then PySem.W.subIn K (.ref C) (.ref D) else none) = _
    rw [show (PySem.W.clsIn K D).isSome = true from hi, ht, if_pos (by simp)]
    exact e
theorem kit_base {K : PySem.W.Frag} {C : Addr} {T : String} {b : Bool} (hm : PySem.W.kitMeta T = true) (e : PySem.W.subIn K (.ref C) (.type T) = some b) : PySem.W.kitOne K (.ref C) (.type T) = some b := by
  unfold PySem.W.kitOne
  rw [if_neg (by simp)]
  show (if PySem.W.kitMeta T = true then PySem.W.subIn K (.ref C) (.type T) else none) = _
  rw [if_pos hm]
  exact e
theorem exm_ref {K : PySem.W.Frag} {C D : Addr} {b : Bool} (hi : PySem.W.isClsIn K D = true) (ht : PySem.W.typeIn K (.ref D) = some (.type "type")) (hb : PySem.W.subIn K (.ref D) (.type "BaseException") = some true) (e : PySem.W.subIn K (.ref C) (.ref D) = some b) : PySem.W.exmOne K (.ref C) (.ref D) = some b := by
  unfold PySem.W.exmOne
  rw [hb, if_pos (by simp)]
  show (if ((PySem.W.clsIn K D).isSome && PySem.W.typeIn K (.ref D) == some (.type "type")) = true then PySem.W.subIn K (.ref C) (.ref D) else none) = _
  rw [show (PySem.W.clsIn K D).isSome = true from hi, ht, if_pos (by simp)]
  exact e
/-! ### what is never come to; a comprehension in a comprehension -/
theorem pe_never {X : Cx} {e : Expr} : PE X e (fun _ _ _ => False) := ⟨fun _ _ _ _ _ _ h => h.elim⟩
theorem passN {X : Cx} : Passes (L2.CX X.prog X.w) X E0 := fun _ _ _ _ _ _ _ ⟨_, _, _, _, _, _, _, _, _, _, _, _, h⟩ => h.elim
theorem pss_never {X : Cx} {st : List Stmt} : PSs X st (fun _ _ _ => False) := ⟨fun _ _ _ _ _ _ h => h.elim⟩
theorem blkOk_in {N : List Str} {sc scope scope2 : Scope} {own : List (Str × Nat)} {X : Cx} {s : Shared} {H : Hp} {cl : List (Str × Addr)} {C : Addr} {fp : List Addr} (hN : X.N = N) (he : X.env.scope = sc) (h : blkC N (relS scope sc) scope2 own = true) :
    BlkOk (X.blk s H scope (compEnvC scope cl C X.env) fp).N (X.blk s H scope (compEnvC scope cl C X.env) fp).env.scope scope2 own := by
  subst hN he
  exact blkOk_by h
theorem i_is_bl {H : Hp} {Q : VK} {b : Bool} (q : Q (.bl false) H) : isP (.bl b) .non H Q := ⟨rfl, q⟩
theorem i_isn_bl {H : Hp} {Q : VK} {b : Bool} (q : Q (.bl true) H) : isNotP (.bl b) .non H Q := ⟨rfl, q⟩
theorem i_int_bl {H : Hp} {Q : VK} {b : Bool} (q : Q (.int (if b then 1 else 0)) H) : rIntP [.bl b] H Q := .inr ⟨b, rfl, q⟩
section
variable {K : PySem.W.Frag} {σ : L2.St} {H : Hp} {Q : VK} {D : Ends} {te : TE} {ta : TA} {i j : Nat} {u v w x : V} {a : Addr} {Qs : L2.St → Hp → Prop}
theorem i_par (q : ta σ H fun vs H1 => ∃ v w, vs = [v, w] ∧ D.nx ((σ.set i (some v)).set j (some w)) H1) : tPar i j ta D σ H := q
theorem i_par2 (q : D.nx ((σ.set i (some v)).set j (some w)) H) : ∃ v' w', [v, w] = [v', w'] ∧ D.nx ((σ.set i (some v')).set j (some w')) H := ⟨v, w, rfl, q⟩
theorem i_aug {ti : TIp} (h : σ[i]? = some (some x)) (q : te σ H fun y H1 => ti x y H1 fun z H2 => D.nx (σ.set i (some z)) H2) : tAug i te ti D σ H := ⟨x, h, q⟩
theorem i_ipI {f : Int → Int → Int} {a b : Int} (q : Q (.int (f a b)) H) : ipI f (.int a) (.int b) H Q := ⟨a, b, rfl, rfl, q⟩
theorem i_gtup2 (h : SqT K H a [u, v]) (q : Qs ((σ.set i (some u)).set j (some v)) H) : gTup K 2 (gCons (gName i) (gCons (gName j) gNil)) (.ref a) σ H Qs := ⟨a, _, rfl, h, rfl, u, _, rfl, v, _, rfl, rfl, q⟩
theorem i_while {c : TT} {tb : TS} (W : Nat → L2.St → Hp → Prop) (m : Nat) (h0 : W m σ H)
    (h : ∀ m σ H, W m σ H → c σ H fun b H1 => if b = true then ∃ N : L2.St → Hp → Prop, (∀ σ' H', N σ' H' → ∃ m', m' < m ∧ W m' σ' H') ∧ tb { D with nx := N, ct := N, bk := D.nx } σ H1 else D.nx σ H1) : tWhile c tb D σ H := ⟨W, ⟨m, h0⟩, h⟩
theorem i_turn {tb : TS} {W : Nat → L2.St → Hp → Prop} {m : Nat} (q : tb { D with nx := fun σ' H' => ∃ m', m' < m ∧ W m' σ' H', ct := fun σ' H' => ∃ m', m' < m ∧ W m' σ' H', bk := D.nx } σ H) :
    ∃ N : L2.St → Hp → Prop, (∀ σ' H', N σ' H' → ∃ m', m' < m ∧ W m' σ' H') ∧ tb { D with nx := N, ct := N, bk := D.nx } σ H := ⟨_, fun _ _ h => h, q⟩
theorem i_lstRg1 (q : te σ H fun x H1 => ∃ n, x = .int n ∧ RgOk 0 n ∧ ∀ q, H1 q = none → Q (.ref q) (upd H1 q (.lst (rgV 0 n)))) : tLstRg (tRg1 te) σ H Q := q
theorem rgV_nat (n : Nat) : rgV 0 (n : Int) = (List.range n).map fun (i : Nat) => V.int (i : Int) := by
  unfold rgV
  rw [Int.sub_zero, Int.toNat_natCast]
  exact List.map_congr_left fun i _ => by rw [Int.zero_add]
theorem i_rg {n : Nat} {P : Addr → Prop} (hn : n ≤ 100000) (q : ∀ q, H q = none → P q) : RgOk 0 (n : Int) ∧ ∀ q, H q = none → P q := ⟨⟨by omega, by omega, by omega, by omega, by omega⟩, q⟩
end
end Fg
/-! Loops and comprehensions, by what a turn does. -/
namespace Fg
open PySem PySem.Spec PyProof.Rows L2
theorem same_upd {H : Hp} {p : Addr} {o : HO} (h : H p = none) : Same H (upd H p o) := fun b x e => by
  rw [upd_ne (ne_of_none e h)]
  exact e
theorem Same.upd {H H' : Hp} {p : Addr} {o : HO} (e : Same H H') (h : H p = none) : Same H (upd H' p o) := fun b x eb => by
  rw [upd_ne (ne_of_none eb h)]
  exact e b x eb
theorem Same.tup {K : PySem.W.Frag} {H H' : Hp} {a : Addr} {xs : List V} (e : Same H H') (h : SqT K H a xs) : SqT K H' a xs := by
  rcases h with (h | ⟨o, h⟩) | h
  · exact .inl (.inl (e _ _ h))
  · exact .inl (.inr ⟨o, e _ _ h⟩)
  · exact .inr h
section
variable {K : PySem.W.Frag} {σ : L2.St} {H : Hp} {Q : VK} {D : Ends} {te tl : TE} {tt : TT} {ta : TA} {tb : TS} {j : Nat} {g : TG} {a : Addr} {xs : List V} {z : List Nat} {vs : List Nat}
/-- for j in range(n) -/
theorem f_rng1 (n : Nat) (ha : ∀ R : List V → Hp → Prop, R [.int (n : Int)] H → ta σ H R) (hn : n ≤ 100000000) (Pv : Nat → L2.St → Hp → Prop) (h0 : Pv 0 σ H)
    (hs : ∀ i σ' H', i < n → Pv i σ' H' → g (.int (i : Int)) σ' H' fun σ2 H2 => tb { D with nx := Pv (i + 1), ct := Pv (i + 1), bk := D.nx } σ2 H2) (hd : ∀ σ' H', Pv n σ' H' → D.nx σ' H') : tFor (iRng1 ta) g tb D σ H := by
  refine ha _ ⟨(n : Int), rfl, by omega, by omega, ?_⟩
  rw [Int.toNat_natCast]
  refine for_range Pv h0 (fun i σ' H' hi p => ?_) hd
  rw [Int.zero_add]
  exact hs i σ' H' hi p
/-- for j in range(lo, n) -/
theorem f_rng2 (lo n : Nat) (ha : ∀ R : List V → Hp → Prop, R [.int (lo : Int), .int (n : Int)] H → ta σ H R) (hn : lo ≤ 100000 ∧ n ≤ 100000000) (Pv : Nat → L2.St → Hp → Prop) (h0 : Pv 0 σ H)
    (hs : ∀ i σ' H', lo + i < n → Pv i σ' H' → g (.int ((lo + i : Nat) : Int)) σ' H' fun σ2 H2 => tb { D with nx := Pv (i + 1), ct := Pv (i + 1), bk := D.nx } σ2 H2) (hd : ∀ σ' H', Pv (n - lo) σ' H' → D.nx σ' H') : tFor (iRng2 ta) g tb D σ H := by
  refine ha _ ⟨(lo : Int), (n : Int), rfl, ⟨by omega, by omega, by omega, by omega⟩, ?_⟩
  have e : ((n : Int) - (lo : Int)).toNat = n - lo := by omega
  rw [e]
  refine for_range Pv h0 (fun i σ' H' hi p => ?_) hd
  rw [← Int.natCast_add]
  exact hs i σ' H' (by omega) p
theorem f_lst (ha : ∀ R : VK, R (.ref a) H → te σ H R) (hx : SqL K H a xs) (Pv : Nat → L2.St → Hp → Prop) (h0 : Pv 0 σ H) (hl : ∀ i σ' H', i ≤ xs.length → Pv i σ' H' → SqL K H' a xs)
    (hs : ∀ i x σ' H', xs[i]? = some x → Pv i σ' H' → g x σ' H' fun σ2 H2 => tb { D with nx := Pv (i + 1), ct := Pv (i + 1), bk := D.nx } σ2 H2) (hd : ∀ σ' H', Pv xs.length σ' H' → D.nx σ' H') : tFor (iAny K te) g tb D σ H :=
  ha _ (.inl ⟨a, xs, rfl, hx, for_list Pv h0 hl hs hd⟩)
theorem f_tup (ha : ∀ R : VK, R (.ref a) H → te σ H R) (hx : SqT K H a xs) (Pv : Nat → L2.St → Hp → Prop) (h0 : Pv 0 σ H) (hl : ∀ i σ' H', i ≤ xs.length → Pv i σ' H' → SqT K H' a xs)
    (hs : ∀ i x σ' H', xs[i]? = some x → Pv i σ' H' → g x σ' H' fun σ2 H2 => tb { D with nx := Pv (i + 1), ct := Pv (i + 1), bk := D.nx } σ2 H2) (hd : ∀ σ' H', Pv xs.length σ' H' → D.nx σ' H') : tFor (iAny K te) g tb D σ H :=
  ha _ (.inr (.inl ⟨a, xs, rfl, hx, for_tup Pv h0 hl hs hd⟩))
theorem f_str (ha : ∀ R : VK, R (S z) H → te σ H R) (Pv : Nat → L2.St → Hp → Prop) (h0 : Pv 0 σ H)
    (hs : ∀ i c σ' H', z[i]? = some c → Pv i σ' H' → g (S [c]) σ' H' fun σ2 H2 => tb { D with nx := Pv (i + 1), ct := Pv (i + 1), bk := D.nx } σ2 H2) (hd : ∀ σ' H', Pv z.length σ' H' → D.nx σ' H') : tFor (iAny K te) g tb D σ H := by
  have e : (⟨z.toArray⟩ : Str).cps.size = z.length := str_len z
  refine ha _ (.inr (.inr ⟨_, rfl, for_it walk_str Pv h0 (fun _ _ _ _ _ => True.intro) (fun i x σ' H' H2 hi p y => ?_) (by rw [e]; exact hd)⟩))
  obtain ⟨rfl, c, hc, rfl⟩ := y
  exact hs i c σ' _ (by simpa using hc) p
/-- for i, c in enumerate(text) -/
theorem f_enumS {i1 i2 : Nat} (ha : ∀ R : List V → Hp → Prop, R [S z] H → ta σ H R) (Pv : Nat → L2.St → Hp → Prop) (h0 : Pv 0 σ H)
    (hs : ∀ i c σ' H' T, z[i]? = some c → Pv i σ' H' → H' T = none → tb { D with nx := Pv (i + 1), ct := Pv (i + 1), bk := D.nx } ((σ'.set i1 (some (.int (i : Int)))).set i2 (some (S [c]))) (upd H' T (.tup [.int (i : Int), S [c]]))) (hd : ∀ σ' H', Pv z.length σ' H' → D.nx σ' H') :
    tFor (iEnumP K ta) (gTup K 2 (gCons (gName i1) (gCons (gName i2) gNil))) tb D σ H := by
  have e : (⟨z.toArray⟩ : Str).cps.size = z.length := str_len z
  refine ha _ (.inr ⟨⟨z.toArray⟩, rfl, ?_⟩)
  have w : Walk (Ites ⟨z.toArray⟩) z.length (fun _ => True) (fun i Ha v Hb => ∃ T c, v = .ref T ∧ Ha T = none ∧ Hb = upd Ha T (.tup [.int (i : Nat), S [c]]) ∧ z[i]? = some c) := by
    refine ⟨fun i H' hi _ => by show i < (⟨z.toArray⟩ : Str).cps.size; rw [e]; exact hi, fun H' _ => e.symm, fun i H' x H2 hi _ y => ?_⟩
    obtain ⟨T, c, h1, h2, h3, h4⟩ := y
    exact ⟨T, c, h1, h2, h3, by simpa using h4⟩
  refine for_it w Pv h0 (fun _ _ _ _ _ => True.intro) (fun i x σ' H' H2 hi p y => ?_) hd
  obtain ⟨T, c, rfl, nT, rfl, hc⟩ := y
  exact ⟨T, _, rfl, SqT.of upd_same, rfl, _, _, rfl, _, _, rfl, rfl, hs i c σ' H' T hc p nT⟩
/-! comprehensions whose elements leave what stood -/
def Lw (H1 : Hp) (Dl : Addr) (l : Nat → List V) (i : Nat) (H' : Hp) : Prop := H1 Dl = none ∧ Same H1 H' ∧ H' Dl = some (.lst (l i))
/-- the kept ones among the first n -/
def kept (f : Nat → Bool) (v : Nat → V) (n : Nat) : List V := ((List.range n).filter f).map v
theorem kept_yes {f : Nat → Bool} {v : Nat → V} {n : Nat} (h : f n = true) : kept f v (n + 1) = kept f v n ++ [v n] := by
  unfold kept
  rw [List.range_succ, List.filter_append, List.map_append, List.filter_cons_of_pos h] <;> rfl
theorem kept_no {f : Nat → Bool} {v : Nat → V} {n : Nat} (h : f n = false) : kept f v (n + 1) = kept f v n := by
  unfold kept
  rw [List.range_succ, List.filter_append, List.map_append, List.filter_cons_of_neg (by rw [h]; decide)]
  simp
theorem kept_len (f : Nat → Bool) (v : Nat → V) (n : Nat) : (kept f v n).length ≤ n := by
  unfold kept
  rw [List.length_map]
  exact Nat.le_trans (List.length_filter_le _ _) (by rw [List.length_range]; exact Nat.le_refl _)
theorem kept_all (v : Nat → V) (n : Nat) : kept (fun _ => true) v n = (List.range n).map v := by
  unfold kept
  rw [List.filter_eq_self.mpr (fun _ _ => rfl)]
theorem lw_turn {H1 H' : Hp} {Dl : Addr} {f : Nat → Bool} {v : Nat → V} {i : Nat} {σ2 : L2.St} (p : Lw H1 Dl (kept f v) i H') (hi : i < 100000)
    (ht : ∀ H2, Same H1 H2 → ∀ QB : Bool → Hp → Prop, (∀ H3, Same H2 H3 → QB (f i) H3) → tt σ2 H2 QB) (he : ∀ H2, Same H1 H2 → f i = true → ∀ QV : VK, (∀ H3, Same H2 H3 → QV (v i) H3) → te σ2 H2 QV) :
    tt σ2 H' fun b H3 => if b = true then te σ2 H3 fun y H4 => ∃ acc, H4 Dl = some (.lst acc) ∧ acc.length < sizeLine ∧ Lw H1 Dl (kept f v) (i + 1) (upd H4 Dl (.lst (acc ++ [y]))) else Lw H1 Dl (kept f v) (i + 1) H3 := by
  obtain ⟨n1, s1, d1⟩ := p
  refine ht H' s1 _ fun H3 s3 => ?_
  cases hf : f i with
  | true =>
    rw [if_pos rfl]
    refine he H3 (s1.trans s3) hf _ fun H4 s4 => ⟨kept f v i, s4 _ _ (s3 _ _ d1), ?_, n1, ?_, ?_⟩
    · exact Nat.lt_of_le_of_lt (kept_len f v i) (Nat.lt_trans hi (by decide))
    · exact Same.upd ((s1.trans s3).trans s4) n1
    · rw [kept_yes hf]; exact upd_same
  | false =>
    rw [if_neg (by decide)]
    exact ⟨n1, s1.trans s3, by rw [kept_no hf]; exact s3 _ _ d1⟩
/-- [te for j in range(n) if tt] -/
theorem c_rng1 (n : Nat) (ha : ∀ R : List V → Hp → Prop, R [.int (n : Int)] H → ta σ H R) (hn : n ≤ 100000) (f : Nat → Bool) (v : Nat → V) (hw : ∀ x, wipe ((wipe σ vs).set j (some x)) vs = wipe σ vs)
    (ht : ∀ i H2, i < n → Same H H2 → ∀ QB : Bool → Hp → Prop, (∀ H3, Same H2 H3 → QB (f i) H3) → tt ((wipe σ vs).set j (some (.int (i : Int)))) H2 QB)
    (he : ∀ i H2, i < n → Same H H2 → f i = true → ∀ QV : VK, (∀ H3, Same H2 H3 → QV (v i) H3) → te ((wipe σ vs).set j (some (.int (i : Int)))) H2 QV)
    (q : ∀ Dl H2, H Dl = none → Same H H2 → H2 Dl = some (.lst (kept f v n)) → Q (.ref Dl) H2) : tLc (iRng1 ta) (gName j) tt te vs σ H Q := by
  refine ha _ ⟨(n : Int), rfl, by omega, by omega, fun Dl nD => ?_⟩
  rw [Int.toNat_natCast]
  refine lc_range (Lw H Dl (kept f v)) ⟨nD, same_upd nD, upd_same⟩ (fun i H' hi p => ?_) (fun H' p => q Dl H' p.1 p.2.1 p.2.2)
  rw [Int.zero_add]
  exact ⟨hw _, lw_turn p (by omega) (fun H2 s2 => ht i H2 hi s2) (fun H2 s2 => he i H2 hi s2)⟩
/-- .. every one -/
theorem c_rng1A (n : Nat) (ha : ∀ R : List V → Hp → Prop, R [.int (n : Int)] H → ta σ H R) (hn : n ≤ 100000) (v : Nat → V) (hw : ∀ x, wipe ((wipe σ vs).set j (some x)) vs = wipe σ vs)
    (he : ∀ i H2, i < n → Same H H2 → ∀ QV : VK, (∀ H3, Same H2 H3 → QV (v i) H3) → te ((wipe σ vs).set j (some (.int (i : Int)))) H2 QV)
    (q : ∀ Dl H2, H Dl = none → Same H H2 → H2 Dl = some (.lst ((List.range n).map v)) → Q (.ref Dl) H2) : tLc (iRng1 ta) (gName j) tYes te vs σ H Q :=
  c_rng1 n ha hn (fun _ => true) v hw (fun i H2 hi s2 QB k => k H2 (L2.Same.refl H2)) (fun i H2 hi s2 _ => he i H2 hi s2) (fun Dl H2 n1 s1 d1 => q Dl H2 n1 s1 (by rw [kept_all] at d1; exact d1))
/-- [te for j in a list if tt] -/
theorem c_lst (ha : ∀ R : VK, R (.ref a) H → tl σ H R) (hx : SqL K H a xs) (hn : xs.length ≤ 100000) (f : Nat → Bool) (v : Nat → V) (hw : ∀ x, wipe ((wipe σ vs).set j (some x)) vs = wipe σ vs)
    (ht : ∀ i x H2, xs[i]? = some x → Same H H2 → ∀ QB : Bool → Hp → Prop, (∀ H3, Same H2 H3 → QB (f i) H3) → tt ((wipe σ vs).set j (some x)) H2 QB)
    (he : ∀ i x H2, xs[i]? = some x → Same H H2 → f i = true → ∀ QV : VK, (∀ H3, Same H2 H3 → QV (v i) H3) → te ((wipe σ vs).set j (some x)) H2 QV)
    (q : ∀ Dl H2, H Dl = none → Same H H2 → H2 Dl = some (.lst (kept f v xs.length)) → Q (.ref Dl) H2) : tLc (iAny K tl) (gName j) tt te vs σ H Q := by
  refine ha _ (.inl ⟨a, xs, rfl, hx, fun Dl nD => ?_⟩)
  refine lc_list (Lw H Dl (kept f v)) ⟨nD, same_upd nD, upd_same⟩ (fun i H' hi p => p.2.1.seq hx) (fun i x H' hi p => ?_) (fun H' p => q Dl H' p.1 p.2.1 p.2.2)
  have hlt := (List.getElem?_eq_some_iff.mp hi).1
  exact ⟨hw _, lw_turn p (by omega) (fun H2 s2 => ht i x H2 hi s2) (fun H2 s2 => he i x H2 hi s2)⟩
/-- [te for j in a tuple if tt] -/
theorem c_tup (ha : ∀ R : VK, R (.ref a) H → tl σ H R) (hx : SqT K H a xs) (hn : xs.length ≤ 100000) (f : Nat → Bool) (v : Nat → V) (hw : ∀ x, wipe ((wipe σ vs).set j (some x)) vs = wipe σ vs)
    (ht : ∀ i x H2, xs[i]? = some x → Same H H2 → ∀ QB : Bool → Hp → Prop, (∀ H3, Same H2 H3 → QB (f i) H3) → tt ((wipe σ vs).set j (some x)) H2 QB)
    (he : ∀ i x H2, xs[i]? = some x → Same H H2 → f i = true → ∀ QV : VK, (∀ H3, Same H2 H3 → QV (v i) H3) → te ((wipe σ vs).set j (some x)) H2 QV)
    (q : ∀ Dl H2, H Dl = none → Same H H2 → H2 Dl = some (.lst (kept f v xs.length)) → Q (.ref Dl) H2) : tLc (iAny K tl) (gName j) tt te vs σ H Q := by
  refine ha _ (.inr (.inl ⟨a, xs, rfl, hx, fun Dl nD => ?_⟩))
  refine lc_tup (Lw H Dl (kept f v)) ⟨nD, same_upd nD, upd_same⟩ (fun i H' hi p => Same.tup p.2.1 hx) (fun i x H' hi p => ?_) (fun H' p => q Dl H' p.1 p.2.1 p.2.2)
  have hlt := (List.getElem?_eq_some_iff.mp hi).1
  exact ⟨hw _, lw_turn p (by omega) (fun H2 s2 => ht i x H2 hi s2) (fun H2 s2 => he i x H2 hi s2)⟩
end
/-! a loop over what the text makes anew -/
def LoopG (g : TG) (tb : TS) (D : Ends) (σ : L2.St) : It → Hp → Prop := fun J H1 => tFor (fun _ _ R => R J H1) g tb D σ H1
section
variable {K : PySem.W.Frag} {σ : L2.St} {H : Hp} {D : Ends} {te : TE} {tb : TS} {g : TG} {a : Addr} {xs : List V}
theorem i_for (q : te σ H fun x H1 => (∃ a xs, x = .ref a ∧ SqL K H1 a xs ∧ LoopG g tb D σ (Itl K a) H1) ∨ (∃ a xs, x = .ref a ∧ SqT K H1 a xs ∧ LoopG g tb D σ (Itt K a) H1) ∨ (∃ z, x = .str z ∧ LoopG g tb D σ (Its z) H1)) : tFor (iAny K te) g tb D σ H := q
theorem i_forL {B : Prop} (hx : SqL K H a xs) (Pv : Nat → L2.St → Hp → Prop) (h0 : Pv 0 σ H) (hl : ∀ i σ' H', i ≤ xs.length → Pv i σ' H' → SqL K H' a xs)
    (hs : ∀ i x σ' H', xs[i]? = some x → Pv i σ' H' → g x σ' H' fun σ2 H2 => tb { D with nx := Pv (i + 1), ct := Pv (i + 1), bk := D.nx } σ2 H2) (hd : ∀ σ' H', Pv xs.length σ' H' → D.nx σ' H') :
    (∃ a' xs', V.ref a = .ref a' ∧ SqL K H a' xs' ∧ LoopG g tb D σ (Itl K a') H) ∨ B := .inl ⟨a, xs, rfl, hx, for_list Pv h0 hl hs hd⟩
end
end Fg
namespace K08
open PySem PySem.Spec PyProof.Rows L2 Fg
def topS (i : Nat) : Stmt := PySem.Challenge.pw_falseglim_k08_whole_parted_rounds.main.body.getD i (.Pass ⟨0, 0, 0, 0⟩)
abbrev s_wrong_sign : Stmt := topS 9
theorem sc_wrong_sign : FnScope ["row", "place", "sign"] ["row"] (defScope s_wrong_sign) := ⟨rfl, rfl, rfl, by decide +kernel, rfl, by decide +kernel, by decide +kernel⟩
abbrev s_check_round : Stmt := topS 10
theorem sc_check_round : FnScope ["thing", "place"] ["thing"] (defScope s_check_round) := ⟨rfl, rfl, rfl, by decide +kernel, rfl, by decide +kernel, by decide +kernel⟩
abbrev s_common_beats : Stmt := topS 14
theorem sc_common_beats : FnScope ["first", "second", "one", "two"] ["first", "second"] (defScope s_common_beats) := ⟨rfl, rfl, rfl, by decide +kernel, rfl, by decide +kernel, by decide +kernel⟩
abbrev s_repeated : Stmt := topS 15
theorem sc_repeated : FnScope ["stretch", "times", "beats"] ["stretch", "times"] (defScope s_repeated) := ⟨rfl, rfl, rfl, by decide +kernel, rfl, by decide +kernel, by decide +kernel⟩
abbrev s_put_behind : Stmt := topS 16
theorem sc_put_behind : FnScope ["stretch", "other", "beats"] ["stretch", "other"] (defScope s_put_behind) := ⟨rfl, rfl, rfl, by decide +kernel, rfl, by decide +kernel, by decide +kernel⟩
abbrev s_first_lit : Stmt := topS 17
theorem sc_first_lit : FnScope ["signs", "sign"] ["signs"] (defScope s_first_lit) := ⟨rfl, rfl, rfl, by decide +kernel, rfl, by decide +kernel, by decide +kernel⟩
abbrev s_shown_together : Stmt := topS 18
theorem sc_shown_together : FnScope ["parts", "beats", "part", "rows", "beat", "row"] ["parts"] (defScope s_shown_together) := ⟨rfl, rfl, rfl, by decide +kernel, rfl, by decide +kernel, by decide +kernel⟩
abbrev s_behind_digits : Stmt := topS 19
theorem sc_behind_digits : FnScope ["text", "at"] ["text", "at"] (defScope s_behind_digits) := ⟨rfl, rfl, rfl, by decide +kernel, rfl, by decide +kernel, by decide +kernel⟩
abbrev s_is_within : Stmt := topS 20
theorem sc_is_within : FnScope ["run", "low", "high"] ["run", "low", "high"] (defScope s_is_within) := ⟨rfl, rfl, rfl, by decide +kernel, rfl, by decide +kernel, by decide +kernel⟩
abbrev s_read_item : Stmt := topS 21
theorem sc_read_item : FnScope ["text", "at", "opened", "low", "run", "times", "stretch"] ["text", "at", "opened"] (defScope s_read_item) := ⟨rfl, rfl, rfl, by decide +kernel, rfl, by decide +kernel, by decide +kernel⟩
abbrev s_read_filled : Stmt := topS 22
theorem sc_read_filled : FnScope ["text", "at", "part", "behind", "run", "beats"] ["text", "at", "part"] (defScope s_read_filled) := ⟨rfl, rfl, rfl, by decide +kernel, rfl, by decide +kernel, by decide +kernel⟩
abbrev s_read_part : Stmt := topS 23
theorem sc_read_part : FnScope ["text", "at", "opened", "part", "item"] ["text", "at", "opened"] (defScope s_read_part) := ⟨rfl, rfl, rfl, by decide +kernel, rfl, by decide +kernel, by decide +kernel⟩
abbrev s_read_parts : Stmt := topS 24
theorem sc_read_parts : FnScope ["text", "at", "opened", "part", "parts"] ["text", "at", "opened"] (defScope s_read_parts) := ⟨rfl, rfl, rfl, by decide +kernel, rfl, by decide +kernel, by decide +kernel⟩
abbrev s_read_round : Stmt := topS 25
theorem sc_read_round : FnScope ["text", "stretch", "at"] ["text"] (defScope s_read_round) := ⟨rfl, rfl, rfl, by decide +kernel, rfl, by decide +kernel, by decide +kernel⟩
abbrev s_shortest : Stmt := topS 27
theorem sc_shortest : FnScope ["row", "many"] ["row"] (defScope s_shortest) := ⟨rfl, rfl, rfl, by decide +kernel, rfl, by decide +kernel, by decide +kernel⟩
abbrev s_turned : Stmt := topS 28
theorem sc_turned : FnScope ["row", "beats", "many"] ["row", "beats"] (defScope s_turned) := ⟨rfl, rfl, rfl, by decide +kernel, rfl, by decide +kernel, by decide +kernel⟩
abbrev s_alike : Stmt := topS 29
theorem sc_alike : FnScope ["first", "second"] ["first", "second"] (defScope s_alike) := ⟨rfl, rfl, rfl, by decide +kernel, rfl, by decide +kernel, by decide +kernel⟩
abbrev s_parting : Stmt := topS 30
theorem sc_parting : FnScope ["first", "second", "beat"] ["first", "second"] (defScope s_parting) := ⟨rfl, rfl, rfl, by decide +kernel, rfl, by decide +kernel, by decide +kernel⟩
abbrev s_laid_over : Stmt := topS 31
theorem sc_laid_over : FnScope ["first", "second"] ["first", "second"] (defScope s_laid_over) := ⟨rfl, rfl, rfl, by decide +kernel, rfl, by decide +kernel, by decide +kernel⟩
abbrev s_L_draw : Stmt := topS 33
theorem sc_L_draw : FnScope ["_law_script", "_law_cells", "_law_cell"] ["_law_script"] (defScope s_L_draw) := ⟨rfl, rfl, rfl, by decide +kernel, rfl, by decide +kernel, by decide +kernel⟩
abbrev s_L_mix : Stmt := topS 34
theorem sc_L_mix : FnScope ["_law_cell", "_law_turn", "_law_one", "_law_two"] ["_law_cell", "_law_turn"] (defScope s_L_mix) := ⟨rfl, rfl, rfl, by decide +kernel, rfl, by decide +kernel, by decide +kernel⟩
abbrev s_L_pick : Stmt := topS 35
theorem sc_L_pick : FnScope ["_law_draw_here", "_law_many", "_law_cell", "_law_digit", "_law_found"] ["_law_draw_here", "_law_many"] (defScope s_L_pick) := ⟨rfl, rfl, rfl, by decide +kernel, rfl, by decide +kernel, by decide +kernel⟩
abbrev s_L_is_int : Stmt := topS 36
theorem sc_L_is_int : FnScope ["_law_thing"] ["_law_thing"] (defScope s_L_is_int) := ⟨rfl, rfl, rfl, by decide +kernel, rfl, by decide +kernel, by decide +kernel⟩
abbrev s_L_sign : Stmt := topS 37
theorem sc_L_sign : FnScope ["_law_draw_here"] ["_law_draw_here"] (defScope s_L_sign) := ⟨rfl, rfl, rfl, by decide +kernel, rfl, by decide +kernel, by decide +kernel⟩
abbrev s_L_round : Stmt := topS 38
theorem sc_L_round : FnScope ["_law_draw_here", "_law_most", "_law_turn"] ["_law_draw_here", "_law_most"] (defScope s_L_round) := ⟨rfl, rfl, rfl, by decide +kernel, rfl, by decide +kernel, by decide +kernel⟩
abbrev s_L_bent : Stmt := topS 39
theorem sc_L_bent : FnScope ["_law_draw_here", "_law_row", "_law_place", "_law_kind"] ["_law_draw_here", "_law_row"] (defScope s_L_bent) := ⟨rfl, rfl, rfl, by decide +kernel, rfl, by decide +kernel, by decide +kernel⟩
abbrev s_L_agreeing : Stmt := topS 40
theorem sc_L_agreeing : FnScope ["_law_draw_here", "_law_one", "_law_two", "_law_many", "_law_lot", "_law_spot", "_law_first", "_law_second", "_law_signs", "_law_row", "_law_label"] ["_law_draw_here", "_law_one", "_law_two", "_law_many"] (defScope s_L_agreeing) := ⟨rfl, rfl, rfl, by decide +kernel, rfl, by decide +kernel, by decide +kernel⟩
abbrev s_L_two_rounds : Stmt := topS 41
theorem sc_L_two_rounds : FnScope ["_law_draw_here", "_law_kind", "_law_row", "_law_most", "_law_one", "_law_two"] ["_law_draw_here"] (defScope s_L_two_rounds) := ⟨rfl, rfl, rfl, by decide +kernel, rfl, by decide +kernel, by decide +kernel⟩
abbrev s_L_parting : Stmt := topS 42
theorem sc_L_parting : FnScope ["_law_first", "_law_second", "_law_spot"] ["_law_first", "_law_second"] (defScope s_L_parting) := ⟨rfl, rfl, rfl, by decide +kernel, rfl, by decide +kernel, by decide +kernel⟩
abbrev s_L_over : Stmt := topS 43
theorem sc_L_over : FnScope ["_law_first", "_law_second", "_law_many", "_law_row", "_law_spot", "_law_sign_here"] ["_law_first", "_law_second"] (defScope s_L_over) := ⟨rfl, rfl, rfl, by decide +kernel, rfl, by decide +kernel, by decide +kernel⟩
abbrev s_L_call : Stmt := topS 44
theorem sc_L_call : FnScope ["_law_kind", "_law_first", "_law_second"] ["_law_kind", "_law_first", "_law_second"] (defScope s_L_call) := ⟨rfl, rfl, rfl, by decide +kernel, rfl, by decide +kernel, by decide +kernel⟩
abbrev s_L_told : Stmt := topS 45
theorem sc_L_told : FnScope ["_law_kind", "_law_first", "_law_second", "e", "_law_hits"] ["_law_kind", "_law_first", "_law_second"] (defScope s_L_told) := ⟨rfl, rfl, rfl, by decide +kernel, rfl, by decide +kernel, by decide +kernel⟩
abbrev s_L_equal : Stmt := topS 46
theorem sc_L_equal : FnScope ["_law_told_here", "_law_due"] ["_law_told_here", "_law_due"] (defScope s_L_equal) := ⟨rfl, rfl, rfl, by decide +kernel, rfl, by decide +kernel, by decide +kernel⟩
abbrev s_L_pair_right : Stmt := topS 47
theorem sc_L_pair_right : FnScope ["_law_draw_here", "_law_first", "_law_second", "_law_due", "_law_kind", "_law_spot"] ["_law_draw_here", "_law_first", "_law_second"] (defScope s_L_pair_right) := ⟨rfl, rfl, rfl, by decide +kernel, rfl, by decide +kernel, by decide +kernel⟩
abbrev s_L_bad_round : Stmt := topS 48
theorem sc_L_bad_round : FnScope ["_law_draw_here", "_law_row", "_law_menu", "_law_place", "_law_later", "_law_bad"] ["_law_draw_here", "_law_row"] (defScope s_L_bad_round) := ⟨rfl, rfl, rfl, by decide +kernel, rfl, by decide +kernel, by decide +kernel⟩
abbrev s_law : Stmt := topS 49
theorem sc_law : FnScope ["_law_script", "_law_draw_here", "_law_rows", "_law_others", "_law_pair", "_law_bad", "_law_dull", "_law_kind"] ["_law_script"] (defScope s_law) := ⟨rfl, rfl, rfl, by decide +kernel, rfl, by decide +kernel, by decide +kernel⟩
abbrev s_BadRound : Stmt := inClass (topS 2) 0
theorem sc_BadRound : FnScope ["self", "number"] ["self", "number"] (defScope s_BadRound) := ⟨rfl, rfl, rfl, by decide +kernel, rfl, by decide +kernel, by decide +kernel⟩
abbrev s_BadBeats : Stmt := inClass (topS 3) 0
theorem sc_BadBeats : FnScope ["self", "beats"] ["self", "beats"] (defScope s_BadBeats) := ⟨rfl, rfl, rfl, by decide +kernel, rfl, by decide +kernel, by decide +kernel⟩
abbrev s_BadText : Stmt := inClass (topS 4) 0
theorem sc_BadText : FnScope ["self", "at"] ["self", "at"] (defScope s_BadText) := ⟨rfl, rfl, rfl, by decide +kernel, rfl, by decide +kernel, by decide +kernel⟩
abbrev s_TooLong : Stmt := inClass (topS 5) 0
theorem sc_TooLong : FnScope ["self", "number"] ["self", "number"] (defScope s_TooLong) := ⟨rfl, rfl, rfl, by decide +kernel, rfl, by decide +kernel, by decide +kernel⟩
/-- what the top has written -/
structure Txt (K : PySem.W.Frag) (mg : Str → Option Value) (C_GlimError : Addr) (C_BadRound : Addr) (C_BadBeats : Addr) (C_BadText : Addr) (C_TooLong : Addr) : Prop where
  d_wrong_sign : DefIn K mg "wrong_sign" s_wrong_sign ["row"]
  d_check_round : DefIn K mg "check_round" s_check_round ["thing"]
  d_common_beats : DefIn K mg "common_beats" s_common_beats ["first", "second"]
  d_repeated : DefIn K mg "repeated" s_repeated ["stretch", "times"]
  d_put_behind : DefIn K mg "put_behind" s_put_behind ["stretch", "other"]
  d_first_lit : DefIn K mg "first_lit" s_first_lit ["signs"]
  d_shown_together : DefIn K mg "shown_together" s_shown_together ["parts"]
  d_behind_digits : DefIn K mg "behind_digits" s_behind_digits ["text", "at"]
  d_is_within : DefIn K mg "is_within" s_is_within ["run", "low", "high"]
  d_read_item : DefIn K mg "read_item" s_read_item ["text", "at", "opened"]
  d_read_filled : DefIn K mg "read_filled" s_read_filled ["text", "at", "part"]
  d_read_part : DefIn K mg "read_part" s_read_part ["text", "at", "opened"]
  d_read_parts : DefIn K mg "read_parts" s_read_parts ["text", "at", "opened"]
  d_read_round : DefIn K mg "read_round" s_read_round ["text"]
  d_shortest : DefIn K mg "shortest" s_shortest ["row"]
  d_turned : DefIn K mg "turned" s_turned ["row", "beats"]
  d_alike : DefIn K mg "alike" s_alike ["first", "second"]
  d_parting : DefIn K mg "parting" s_parting ["first", "second"]
  d_laid_over : DefIn K mg "laid_over" s_laid_over ["first", "second"]
  d_L_draw : DefIn K mg "_law_draw" s_L_draw ["_law_script"]
  d_L_mix : DefIn K mg "_law_mix" s_L_mix ["_law_cell", "_law_turn"]
  d_L_pick : DefIn K mg "_law_pick" s_L_pick ["_law_draw_here", "_law_many"]
  d_L_is_int : DefIn K mg "_law_is_int" s_L_is_int ["_law_thing"]
  d_L_sign : DefIn K mg "_law_sign" s_L_sign ["_law_draw_here"]
  d_L_round : DefIn K mg "_law_round" s_L_round ["_law_draw_here", "_law_most"]
  d_L_bent : DefIn K mg "_law_bent" s_L_bent ["_law_draw_here", "_law_row"]
  d_L_agreeing : DefIn K mg "_law_agreeing" s_L_agreeing ["_law_draw_here", "_law_one", "_law_two", "_law_many"]
  d_L_two_rounds : DefIn K mg "_law_two_rounds" s_L_two_rounds ["_law_draw_here"]
  d_L_parting : DefIn K mg "_law_parting" s_L_parting ["_law_first", "_law_second"]
  d_L_over : DefIn K mg "_law_over" s_L_over ["_law_first", "_law_second"]
  d_L_call : DefIn K mg "_law_call" s_L_call ["_law_kind", "_law_first", "_law_second"]
  d_L_told : DefIn K mg "_law_told" s_L_told ["_law_kind", "_law_first", "_law_second"]
  d_L_equal : DefIn K mg "_law_equal" s_L_equal ["_law_told_here", "_law_due"]
  d_L_pair_right : DefIn K mg "_law_pair_right" s_L_pair_right ["_law_draw_here", "_law_first", "_law_second"]
  d_L_bad_round : DefIn K mg "_law_bad_round" s_L_bad_round ["_law_draw_here", "_law_row"]
  d_law : DefIn K mg "law" s_law ["_law_script"]
  b_ValueError : mg "ValueError" = none
  b_abs : mg "abs" = none
  b_bool : mg "bool" = none
  b_enumerate : mg "enumerate" = none
  b_int : mg "int" = none
  b_isinstance : mg "isinstance" = none
  b_len : mg "len" = none
  b_list : mg "list" = none
  b_max : mg "max" = none
  b_range : mg "range" = none
  b_str : mg "str" = none
  b_sum : mg "sum" = none
  g_SIGNS : ∃ t, mg "SIGNS" = some (.str ⟨([46, 103, 114, 119] : List Nat).toArray⟩ t)
  g_MOST_ROUND : ∃ t, mg "MOST_ROUND" = some (.int 24 t)
  g_DIGITS : ∃ t, mg "DIGITS" = some (.str ⟨([48, 49, 50, 51, 52, 53, 54, 55, 56, 57] : List Nat).toArray⟩ t)
  g_MOST_OPEN : ∃ t, mg "MOST_OPEN" = some (.int 6 t)
  c_GlimError : mg "GlimError" = some (.ref C_GlimError)
  c_BadRound : mg "BadRound" = some (.ref C_BadRound)
  c_BadBeats : mg "BadBeats" = some (.ref C_BadBeats)
  c_BadText : mg "BadText" = some (.ref C_BadText)
  c_TooLong : mg "TooLong" = some (.ref C_TooLong)
  o_BadRound : OexC K C_BadRound
  nf_BadRound : PySem.W.findIn K (.ref C_BadRound) "number" = some none
  i_BadRound : ∃ fI fd, PySem.W.findIn K (.ref C_BadRound) "__init__" = some (some (.ref fI)) ∧ PySem.W.typeIn K (.ref fI) = some (.type "function") ∧ Fun K "__init__" "BadRound.__init__" s_BadRound fI fd ∧ Binds K fd ["self", "number"] []
  e_BadRound : ExcD K C_BadRound
  o_BadBeats : OexC K C_BadBeats
  nf_BadBeats : PySem.W.findIn K (.ref C_BadBeats) "beats" = some none
  i_BadBeats : ∃ fI fd, PySem.W.findIn K (.ref C_BadBeats) "__init__" = some (some (.ref fI)) ∧ PySem.W.typeIn K (.ref fI) = some (.type "function") ∧ Fun K "__init__" "BadBeats.__init__" s_BadBeats fI fd ∧ Binds K fd ["self", "beats"] []
  e_BadBeats : ExcD K C_BadBeats
  o_BadText : OexC K C_BadText
  nf_BadText : PySem.W.findIn K (.ref C_BadText) "at" = some none
  i_BadText : ∃ fI fd, PySem.W.findIn K (.ref C_BadText) "__init__" = some (some (.ref fI)) ∧ PySem.W.typeIn K (.ref fI) = some (.type "function") ∧ Fun K "__init__" "BadText.__init__" s_BadText fI fd ∧ Binds K fd ["self", "at"] []
  e_BadText : ExcD K C_BadText
  o_TooLong : OexC K C_TooLong
  nf_TooLong : PySem.W.findIn K (.ref C_TooLong) "number" = some none
  i_TooLong : ∃ fI fd, PySem.W.findIn K (.ref C_TooLong) "__init__" = some (some (.ref fI)) ∧ PySem.W.typeIn K (.ref fI) = some (.type "function") ∧ Fun K "__init__" "TooLong.__init__" s_TooLong fI fd ∧ Binds K fd ["self", "number"] []
  e_TooLong : ExcD K C_TooLong
  k_BadRound_BadRound : PySem.W.kitOne K (.ref C_BadRound) (.ref C_BadRound) = some true
  k_BadRound_TooLong : PySem.W.kitOne K (.ref C_BadRound) (.ref C_TooLong) = some false
  k_BadRound_ValueError : PySem.W.kitOne K (.ref C_BadRound) (.type "ValueError") = some true
  k_TooLong_BadRound : PySem.W.kitOne K (.ref C_TooLong) (.ref C_BadRound) = some false
  k_TooLong_TooLong : PySem.W.kitOne K (.ref C_TooLong) (.ref C_TooLong) = some true
  k_TooLong_ValueError : PySem.W.kitOne K (.ref C_TooLong) (.type "ValueError") = some true
  m_BadRound_GlimError : PySem.W.exmOne K (.ref C_BadRound) (.ref C_GlimError) = some true
  m_TooLong_GlimError : PySem.W.exmOne K (.ref C_TooLong) (.ref C_GlimError) = some true
section
variable {P : Program} {w : World} {K : PySem.W.Frag} {mg : Str → Option Value} {base : Heap} {C_GlimError C_BadRound C_BadBeats C_BadText C_TooLong : Addr}
theorem okx_BadRound (T : Txt K mg C_GlimError C_BadRound C_BadBeats C_BadText C_TooLong) : OKx P w K mg base "BadRound" "number" C_BadRound := by
  obtain ⟨fI, fd, h1, h2, F, hb⟩ := T.i_BadRound
  exact ⟨T.c_BadRound, T.o_BadRound, T.nf_BadRound, fI, fd, h1, h2, ini_ok F sc_BadRound T.o_BadRound T.nf_BadRound (fun cdv A outer s H E => (pss_one (ps_ost (pv 0) (pv 1)))), hb⟩
theorem okx_BadBeats (T : Txt K mg C_GlimError C_BadRound C_BadBeats C_BadText C_TooLong) : OKx P w K mg base "BadBeats" "beats" C_BadBeats := by
  obtain ⟨fI, fd, h1, h2, F, hb⟩ := T.i_BadBeats
  exact ⟨T.c_BadBeats, T.o_BadBeats, T.nf_BadBeats, fI, fd, h1, h2, ini_ok F sc_BadBeats T.o_BadBeats T.nf_BadBeats (fun cdv A outer s H E => (pss_one (ps_ost (pv 0) (pv 1)))), hb⟩
theorem okx_BadText (T : Txt K mg C_GlimError C_BadRound C_BadBeats C_BadText C_TooLong) : OKx P w K mg base "BadText" "at" C_BadText := by
  obtain ⟨fI, fd, h1, h2, F, hb⟩ := T.i_BadText
  exact ⟨T.c_BadText, T.o_BadText, T.nf_BadText, fI, fd, h1, h2, ini_ok F sc_BadText T.o_BadText T.nf_BadText (fun cdv A outer s H E => (pss_one (ps_ost (pv 0) (pv 1)))), hb⟩
theorem okx_TooLong (T : Txt K mg C_GlimError C_BadRound C_BadBeats C_BadText C_TooLong) : OKx P w K mg base "TooLong" "number" C_TooLong := by
  obtain ⟨fI, fd, h1, h2, F, hb⟩ := T.i_TooLong
  exact ⟨T.c_TooLong, T.o_TooLong, T.nf_TooLong, fI, fd, h1, h2, ini_ok F sc_TooLong T.o_TooLong T.nf_TooLong (fun cdv A outer s H E => (pss_one (ps_ost (pv 0) (pv 1)))), hb⟩
end
end K08
namespace K08
open PySem PySem.Spec PyProof.Rows L2 Fg
local macro_rules | `(tactic| walk_at "sq") => `(tactic| first
  | assumption
  | exact .inl (.inl (by assumption))
  | exact .inl (.inl upd_same))
local macro_rules | `(tactic| walk_at "st") => `(tactic| first
  | assumption
  | exact .inl (.inl (by assumption))
  | exact .inl (.inl upd_same))
local macro_rules | `(tactic| walk_at "o") => `(tactic| first
  | omega
  | assumption
  | (simp only [List.length_append, List.length_take, List.length_drop, List.length_cons, List.length_nil, List.length_singleton, List.length_map, List.length_range, Int.toNat_natCast] ; omega))
local macro_rules | `(tactic| walk_at "s") => `(tactic| first
  | (with_reducible refine i_seq ?_)
  | (with_reducible refine i_asg ?_)
  | ((with_reducible refine' i_var ?h1 ?_); (case h1 => rfl))
  | (with_reducible refine i_c ?_)
  | ((with_reducible refine' i_gname' ?h1 ?_); (case h1 => (simp only [List.set_cons_zero, List.set_cons_succ]; rfl)))
  | (with_reducible refine i_op ?_)
  | (with_reducible refine i_ifS ?_)
  | (with_reducible refine i_for ?_)
  | (with_reducible refine i_test ?_)
  | (with_reducible refine i_B ?_)
  | (with_reducible refine i_exbl ?_)
  | (with_reducible refine i_exint ?_)
  | (with_reducible refine i_cb ?_)
  | (with_reducible refine i_nil ?_)
  | (with_reducible refine i_cons ?_)
  | (with_reducible refine i_ret ?_)
  | (with_reducible refine i_sl ?_)
  | (with_reducible refine i_nopart ?_)
  | (with_reducible refine i_part ?_)
  | (with_reducible refine i_add_int ?_)
  | (with_reducible refine i_sub ?_)
  | (with_reducible refine i_lt ?_)
  | ((with_reducible refine' i_mod ?h1 ?_); (case h1 => walk_at "o"))
  | ((with_reducible refine' i_fdiv ?h1 ?_); (case h1 => (refine cdiv_small ?_ ?_ <;> walk_at "o")))
  | ((with_reducible refine' i_sl_to ?h1 ?h2 ?_); (case h1 => walk_at "o"); (case h2 => walk_at "o"))
  | ((with_reducible refine' i_sl_from ?h1 ?h2 ?_); (case h1 => walk_at "o"); (case h2 => walk_at "o"))
  | ((with_reducible refine' i_add_str ?h1 ?_); (case h1 => walk_at "o"))
  | ((with_reducible refine' i_mul_int ?h1 ?_); (case h1 => first | (refine mul_small ?_ ?_ <;> walk_at "o") | (refine mul_smallR ?_ ?_ <;> walk_at "o")))
  | (with_reducible refine i_le ?_)
  | (with_reducible refine i_gt ?_)
  | (with_reducible refine i_ge ?_)
  | (with_reducible refine i_eq_int ?_)
  | (with_reducible refine i_eq_str ?_)
  | (with_reducible refine i_ne_int ?_)
  | (with_reducible refine i_ne_str ?_)
  | (with_reducible refine i_eq_bl ?_)
  | (with_reducible refine i_ne_bl ?_)
  | (with_reducible refine i_in_sg ?_)
  | (with_reducible refine i_notIn_sg ?_)
  | (with_reducible refine i_call ?_)
  | (with_reducible refine i_callS ?_)
  | (with_reducible refine i_sp1 ?_)
  | (with_reducible refine i_sp2 ?_)
  | (with_reducible refine i_sp3 ?_)
  | (with_reducible refine i_sp4 ?_)
  | (with_reducible refine i_sp1' ?_)
  | (with_reducible refine i_sp2' ?_)
  | (with_reducible refine i_sp3' ?_)
  | ((with_reducible refine' i_ix_lst ?h1 ?h2 ?_); (case h1 => walk_at "sq"); (case h2 => first | exact atI_nat rfl | rfl))
  | ((with_reducible refine' i_ix_tup ?h1 ?h2 ?_); (case h1 => walk_at "st"); (case h2 => first | exact atI_nat rfl | rfl))
  | (with_reducible refine i_gsub ?_)
  | (with_reducible refine i_par ?_)
  | (with_reducible refine i_lstRg1 ?_)
  | (with_reducible refine i_app ?_)
  | (with_reducible refine i_par2 ?_)
  | ((with_reducible refine' i_aug ?h1 ?_); (case h1 => rfl))
  | (with_reducible refine i_ipI ?_)
  | ((with_reducible refine' i_gtup2 ?h1 ?_); (case h1 => walk_at "st"))
  | (with_reducible refine i_int_bl ?_)
  | (with_reducible refine i_raise ?_)
  | (with_reducible refine i_mkE ?_)
  | (with_reducible refine i_ex1 ?_)
  | (with_reducible refine i_and ?_)
  | (with_reducible refine i_or ?_)
  | (with_reducible refine i_not ?_)
  | (with_reducible refine i_tt ?_)
  | (with_reducible refine i_ff ?_)
  | (with_reducible refine i_nott ?_)
  | (with_reducible refine i_notf ?_)
  | (with_reducible refine i_andV ?_)
  | (with_reducible refine i_orV ?_)
  | (with_reducible refine i_notV ?_)
  | (with_reducible refine i_ifE ?_)
  | (with_reducible refine i_tup ?_)
  | (with_reducible refine i_lst ?_)
  | (with_reducible refine i_un ?_)
  | (with_reducible refine i_neg ?_)
  | (with_reducible refine i_chain ?_)
  | (with_reducible refine i_next ?_)
  | (with_reducible refine i_retN ?_)
  | (with_reducible refine i_drop ?_)
  | (with_reducible refine i_int_int ?_)
  | (with_reducible refine i_abs ?_)
  | (with_reducible refine i_m1c ?_)
  | (with_reducible refine i_is_non ?_)
  | (with_reducible refine i_is_int ?_)
  | (with_reducible refine i_is_bl ?_)
  | (with_reducible refine i_isn_bl ?_)
  | (with_reducible refine i_is_str ?_)
  | (with_reducible refine i_is_ref ?_)
  | (with_reducible refine i_isn_non ?_)
  | (with_reducible refine i_isn_int ?_)
  | (with_reducible refine i_isn_str ?_)
  | (with_reducible refine i_isn_ref ?_)
  | (with_reducible refine i_len_str ?h1 ?_; (case h1 => walk_at "o"))
  | (with_reducible refine i_isi_int_int ?_) | (with_reducible refine i_isi_int_bool ?_) | (with_reducible refine i_isi_int_str ?_) | (with_reducible refine i_isi_int_tuple ?_) | (with_reducible refine i_isi_int_list ?_)
  | (with_reducible refine i_isi_bl_int ?_) | (with_reducible refine i_isi_bl_bool ?_) | (with_reducible refine i_isi_bl_str ?_) | (with_reducible refine i_isi_bl_tuple ?_) | (with_reducible refine i_isi_bl_list ?_)
  | (with_reducible refine i_isi_str_int ?_) | (with_reducible refine i_isi_str_bool ?_) | (with_reducible refine i_isi_str_str ?_) | (with_reducible refine i_isi_str_tuple ?_) | (with_reducible refine i_isi_str_list ?_)
  | (with_reducible refine i_isi_non_int ?_) | (with_reducible refine i_isi_non_bool ?_) | (with_reducible refine i_isi_non_str ?_) | (with_reducible refine i_isi_non_tuple ?_) | (with_reducible refine i_isi_non_list ?_))
local macro_rules | `(tactic| walk_at "go") => `(tactic| (repeat' (walk_at "s")))
local macro_rules | `(tactic| walk_at "n") => `(tactic| simp only [wipe, List.map_cons, List.map_nil, List.set_cons_zero, List.set_cons_succ])
/-! ### the program -/
def rpt (n : Nat) (l : List Nat) : List Nat := (List.replicate n l).flatten
/-- what the program asks of a stretch -/
def good (l : List Nat) (m : Nat) : Prop := l.length % m = 0 ∧ rpt (l.length / m) (l.take m) = l
/-- the program's shortest -/
def IsShort (l r : List Nat) : Prop := ∃ m, 1 ≤ m ∧ m ≤ l.length ∧ r = l.take m ∧ (good l m ∨ m = l.length) ∧ ∀ k, 1 ≤ k → k < m → ¬ good l k
theorem IsShort.len {l r : List Nat} (h : IsShort l r) : 1 ≤ r.length ∧ r.length ≤ l.length := by
  obtain ⟨m, h1, h2, rfl, _⟩ := h
  rw [List.length_take]
  omega
theorem div_le {n m k : Nat} (hk : 1 ≤ k) (h : n ≤ m) : n / k ≤ m := Nat.le_trans (Nat.div_le_self _ _) h
theorem mul_div_le {l : List Nat} {k : Nat} (h : l.length ≤ 1000) : (l.take k).length * (l.length / k) ≤ 100000 := by
  rw [List.length_take]
  have h1 : min k l.length ≤ k := Nat.min_le_left _ _
  have h2 : min k l.length * (l.length / k) ≤ k * (l.length / k) := Nat.mul_le_mul_right _ h1
  have h3 := Nat.mul_div_le l.length k
  omega
abbrev SG : List Nat := [46, 103, 114, 119]
def IsRound (l : List Nat) : Prop := 1 ≤ l.length ∧ l.length ≤ 24 ∧ ∀ c ∈ l, c ∈ SG
def turn (l : List Nat) (k : Nat) : List Nat := l.drop k ++ l.take k
def turns (l : List Nat) : List (List Nat) := (List.range l.length).map (turn l)
def firstBad (l : List Nat) : Option Nat := l.findIdx? fun c => !decide (c ∈ SG)
def oV : Option Nat → V
  | none => .non
  | some p => .int (p : Int)
/-- what is no string -/
def NoStr (H : Hp) (x : V) : Prop := x = .non ∨ (∃ b, x = .bl b) ∨ (∃ i, x = .int i) ∨ ∃ a xs, x = .ref a ∧ (H a = some (.tup xs) ∨ H a = some (.lst xs))
theorem NoStr.mono {H H' : Hp} {x : V} (h : NoStr H x) (s : Same H H') : NoStr H' x := by
  rcases h with h | h | h | ⟨a, xs, h, h2⟩
  · exact .inl h
  · exact .inr (.inl h)
  · exact .inr (.inr (.inl h))
  · exact .inr (.inr (.inr ⟨a, xs, h, h2.imp (s _ _) (s _ _)⟩))
/-- no round, and what BadRound bears of it -/
def BadR (H : Hp) (x : V) (k : Int) : Prop := (NoStr H x ∧ k = -1) ∨ ∃ l, x = S l ∧ l.length ≤ 1000 ∧ ((¬ (1 ≤ l.length ∧ l.length ≤ 24) ∧ k = -1) ∨ ((1 ≤ l.length ∧ l.length ≤ 24) ∧ ∃ p, firstBad l = some p ∧ k = (p : Int)))
theorem BadR.mono {H H' : Hp} {x : V} {k : Int} (h : BadR H x k) (s : Same H H') : BadR H' x k := by
  rcases h with ⟨h, e⟩ | h
  · exact .inl ⟨h.mono s, e⟩
  · exact .inr h
def BadX (C : Addr) (H : Hp) (x : V) (E : XK) : Prop := ∃ k, BadR H x k ∧ Rz E H C "number" (.int k)
theorem BadX.mono {C : Addr} {H H' : Hp} {x : V} {E : XK} (h : BadX C H x E) (s : Same H H') : BadX C H' x E := by
  obtain ⟨k, h1, h2⟩ := h
  exact ⟨k, h1.mono s, h2.mono s⟩
theorem firstBad_none {l : List Nat} (h : ∀ c ∈ l, c ∈ SG) : firstBad l = none := by
  unfold firstBad
  rw [List.findIdx?_eq_none_iff]
  intro c hc
  simp [h c hc]
theorem firstBad_some {l : List Nat} {p : Nat} {c : Nat} (h : l[p]? = some c) (hc : c ∉ SG) (hb : ∀ k < p, ∀ c, l[k]? = some c → c ∈ SG) : firstBad l = some p := by
  unfold firstBad
  rw [List.findIdx?_eq_some_iff_getElem]
  obtain ⟨hp, e⟩ := List.getElem?_eq_some_iff.mp h
  refine ⟨hp, by simpa [e] using hc, fun j hj => ?_⟩
  have := hb j hj (l[j]) (List.getElem?_eq_getElem (by omega))
  simp only [decide_eq_true this, Bool.not_true]
  decide
section
variable {P : Program} {w : World} {K : PySem.W.Frag} {mg : Str → Option Value} {base : Heap} {C_GlimError C_BadRound C_BadBeats C_BadText C_TooLong : Addr}
def p_shortest : P1 := fun x H Q _ => ∃ l, x = S l ∧ 1 ≤ l.length ∧ l.length ≤ 1000 ∧ ∀ r, IsShort l r → Q (S r) H
theorem ok_shortest (T : Txt K mg C_GlimError C_BadRound C_BadBeats C_BadText C_TooLong) : OK P w K mg base CX0 1 "shortest" ["row"] (sp1  p_shortest) := by
  refine OK.mk (k := 0) T.d_shortest sc_shortest len1 fun f cdv A outer s H vs Q E hr h => ?_
  obtain ⟨x, rfl, h⟩ := h
  refine ⟨_, (pss_cons (ps_for PassesOwn.never rfl (pi_range2 rfl T.b_range (pa_cons pe_int (pa_cons (pe_callB (cLen K) (by rfl) T.b_len (by decide +kernel) (pa_cons (pv 0) pa_nil)) pa_nil))) (pg_name (i := 1) sc_shortest.nd rfl (Or.inl rfl)) (pss_one (ps_if (pw_and (pt_cmpR (opEq K hr.units) (pe_op op_modP (pe_callB (cLen K) (by rfl) T.b_len (by decide +kernel) (pa_cons (pv 0) pa_nil)) (pv 1)) pe_int (nomark _)) (pw_and1 (pt_cmpR (opEq K hr.units) (pe_op op_mulP (pe_slice (slK K) (pv 0) po_none (po_some (pv 1))) (pe_op op_fdivP (pe_callB (cLen K) (by rfl) T.b_len (by decide +kernel) (pa_cons (pv 0) pa_nil)) (pv 1))) (pv 0) (nomark _)))).pt (pss_one (ps_ret (pe_slice (slK K) (pv 0) po_none (po_some (pv 1))))) pss_nil))) (pss_one (ps_ret (pv 0)))), ?_⟩
  show (_ : TS) { nx := fun _ H' => Q .non H', rt := Q } [some x, none] H
  obtain ⟨l, rfl, h1, h2, q⟩ := h
  walk_at "go"
  refine f_rng2 1 l.length (fun R k => by walk_at "go"; exact k) (by omega) (fun i σ H' => ∃ v, σ = [some (S l), v] ∧ H' = H ∧ ∀ k, 1 ≤ k → k < 1 + i → ¬ good l k) ⟨none, rfl, rfl, by omega⟩ ?_ ?_
  · rintro i σ H' hi ⟨v, rfl, rfl, hn⟩
    walk_at "go"
    refine i_dec (fun e1 => ?_) (fun e1 => ?_)
    · walk_at "go"
      refine i_mul_strI (by rw [← Int.natCast_ediv]; exact Int.natCast_nonneg _) ?_ ?_
      · rw [← Int.natCast_ediv, Int.toNat_natCast, Int.toNat_natCast]
        exact ⟨mul_div_le h2, div_le (by omega) (by omega)⟩
      · walk_at "go"
        rw [← Int.natCast_ediv, Int.toNat_natCast, Int.toNat_natCast]
        refine i_dec (fun e2 => ?_) (fun e2 => ?_)
        · walk_at "go"
          exact q _ ⟨1 + i, by omega, by omega, by rw [Int.toNat_natCast], .inl ⟨by omega, e2⟩, hn⟩
        · walk_at "go"
          exact ⟨_, rfl, rfl, fun k k1 k2 => by
            by_cases hk : k < 1 + i
            · exact hn k k1 hk
            · have : k = 1 + i := by omega
              subst this
              exact fun g => e2 g.2⟩
    · walk_at "go"
      exact ⟨_, rfl, rfl, fun k k1 k2 => by
        by_cases hk : k < 1 + i
        · exact hn k k1 hk
        · have : k = 1 + i := by omega
          subst this
          exact fun g => e1 (by have := g.1; omega)⟩
  · rintro σ H' ⟨v, rfl, rfl, hn⟩
    walk_at "go"
    exact q l ⟨l.length, h1, Nat.le_refl _, (List.take_length).symm, .inr rfl, fun k k1 k2 => hn k k1 (by omega)⟩
def p_wrong_sign : P1 := fun x H Q _ => ∃ l, x = S l ∧ l.length ≤ 1000 ∧ ∀ H', Same H H' → Q (oV (firstBad l)) H'
theorem ok_wrong_sign (T : Txt K mg C_GlimError C_BadRound C_BadBeats C_BadText C_TooLong) : OK P w K mg base CX0 1 "wrong_sign" ["row"] (sp1  p_wrong_sign) := by
  refine OK.mk (k := 0) T.d_wrong_sign sc_wrong_sign len1 fun f cdv A outer s H vs Q E hr h => ?_
  obtain ⟨x, rfl, h⟩ := h
  refine ⟨_, (pss_cons (ps_for PassesOwn.never rfl (piEnum K rfl T.b_enumerate (pa_cons (pv 0) pa_nil)) (pgTup (n := 2) K rfl (pgs_cons (pg_name (i := 1) sc_wrong_sign.nd rfl (Or.inl rfl)) (pgs_cons (pg_name (i := 2) sc_wrong_sign.nd rfl (Or.inl rfl)) pgs_nil))) (pss_one (ps_if (pt_cmpR (opNotIn K) (pv 2) (pe_gS [46, 103, 114, 119] T.g_SIGNS) (by with_unfolding_all rfl)) (pss_one (ps_ret (pv 1))) pss_nil))) (pss_one (ps_ret pe_non))), ?_⟩
  show (_ : TS) { nx := fun _ H' => Q .non H', rt := Q } [some x, none, none] H
  obtain ⟨l, rfl, h1, q⟩ := h
  walk_at "go"
  refine f_enumS (z := l) (fun R k => by walk_at "go"; exact k) (fun i σ H' => ∃ v1 v2, σ = [some (S l), v1, v2] ∧ Same H H' ∧ ∀ k < i, ∀ c, l[k]? = some c → c ∈ SG) ⟨none, none, rfl, Same.refl H, by omega⟩ ?_ ?_
  · rintro i c σ H' Tt hc ⟨v1, v2, rfl, s1, hb⟩ nT
    show (_ : TS) _ [some (S l), some (.int (i : Int)), some (S [c])] _
    walk_at "go"
    refine i_decN (fun e => ?_) (fun e => ?_)
    · walk_at "go"
      have := q _ (s1.trans (same_upd (o := .tup [.int (i : Int), S [c]]) nT))
      rw [firstBad_some hc e hb] at this
      exact this
    · walk_at "go"
      refine ⟨_, _, rfl, s1.trans (same_upd nT), fun k hk c' hc' => ?_⟩
      by_cases e' : k < i
      · exact hb k e' c' hc'
      · have : k = i := by omega
        subst this
        rw [hc] at hc'
        cases hc'
        exact e
  · rintro σ H' ⟨v1, v2, rfl, s1, hb⟩
    walk_at "go"
    have := q _ s1
    rw [firstBad_none fun c hc => by
      obtain ⟨k, hk⟩ := List.getElem?_of_mem hc
      exact hb k (List.getElem?_eq_some_iff.mp hk).1 c hk] at this
    exact this
end
end K08
namespace K08
open PySem PySem.Spec PyProof.Rows L2 Fg
local macro_rules | `(tactic| walk_at "sq") => `(tactic| first
  | assumption
  | exact .inl (.inl (by assumption))
  | exact .inl (.inl upd_same))
local macro_rules | `(tactic| walk_at "st") => `(tactic| first
  | assumption
  | exact .inl (.inl (by assumption))
  | exact .inl (.inl upd_same))
local macro_rules | `(tactic| walk_at "o") => `(tactic| first
  | omega
  | assumption
  | (simp only [List.length_append, List.length_take, List.length_drop, List.length_cons, List.length_nil, List.length_singleton, List.length_map, List.length_range, Int.toNat_natCast] ; omega))
local macro_rules | `(tactic| walk_at "s") => `(tactic| first
  | (with_reducible refine i_seq ?_)
  | (with_reducible refine i_asg ?_)
  | ((with_reducible refine' i_var ?h1 ?_); (case h1 => rfl))
  | (with_reducible refine i_c ?_)
  | ((with_reducible refine' i_gname' ?h1 ?_); (case h1 => (simp only [List.set_cons_zero, List.set_cons_succ]; rfl)))
  | (with_reducible refine i_op ?_)
  | (with_reducible refine i_ifS ?_)
  | (with_reducible refine i_for ?_)
  | (with_reducible refine i_test ?_)
  | (with_reducible refine i_B ?_)
  | (with_reducible refine i_exbl ?_)
  | (with_reducible refine i_exint ?_)
  | (with_reducible refine i_cb ?_)
  | (with_reducible refine i_nil ?_)
  | (with_reducible refine i_cons ?_)
  | (with_reducible refine i_ret ?_)
  | (with_reducible refine i_sl ?_)
  | (with_reducible refine i_nopart ?_)
  | (with_reducible refine i_part ?_)
  | (with_reducible refine i_add_int ?_)
  | (with_reducible refine i_sub ?_)
  | (with_reducible refine i_lt ?_)
  | ((with_reducible refine' i_mod ?h1 ?_); (case h1 => walk_at "o"))
  | ((with_reducible refine' i_fdiv ?h1 ?_); (case h1 => (refine cdiv_small ?_ ?_ <;> walk_at "o")))
  | ((with_reducible refine' i_sl_to ?h1 ?h2 ?_); (case h1 => walk_at "o"); (case h2 => walk_at "o"))
  | ((with_reducible refine' i_sl_from ?h1 ?h2 ?_); (case h1 => walk_at "o"); (case h2 => walk_at "o"))
  | ((with_reducible refine' i_add_str ?h1 ?_); (case h1 => walk_at "o"))
  | ((with_reducible refine' i_mul_int ?h1 ?_); (case h1 => first | (refine mul_small ?_ ?_ <;> walk_at "o") | (refine mul_smallR ?_ ?_ <;> walk_at "o")))
  | (with_reducible refine i_le ?_)
  | (with_reducible refine i_gt ?_)
  | (with_reducible refine i_ge ?_)
  | (with_reducible refine i_eq_int ?_)
  | (with_reducible refine i_eq_str ?_)
  | (with_reducible refine i_ne_int ?_)
  | (with_reducible refine i_ne_str ?_)
  | (with_reducible refine i_eq_bl ?_)
  | (with_reducible refine i_ne_bl ?_)
  | (with_reducible refine i_in_sg ?_)
  | (with_reducible refine i_notIn_sg ?_)
  | (with_reducible refine i_call ?_)
  | (with_reducible refine i_callS ?_)
  | (with_reducible refine i_sp1 ?_)
  | (with_reducible refine i_sp2 ?_)
  | (with_reducible refine i_sp3 ?_)
  | (with_reducible refine i_sp4 ?_)
  | (with_reducible refine i_sp1' ?_)
  | (with_reducible refine i_sp2' ?_)
  | (with_reducible refine i_sp3' ?_)
  | ((with_reducible refine' i_ix_lst ?h1 ?h2 ?_); (case h1 => walk_at "sq"); (case h2 => first | exact atI_nat rfl | rfl))
  | ((with_reducible refine' i_ix_tup ?h1 ?h2 ?_); (case h1 => walk_at "st"); (case h2 => first | exact atI_nat rfl | rfl))
  | (with_reducible refine i_gsub ?_)
  | (with_reducible refine i_par ?_)
  | (with_reducible refine i_lstRg1 ?_)
  | (with_reducible refine i_app ?_)
  | (with_reducible refine i_par2 ?_)
  | ((with_reducible refine' i_aug ?h1 ?_); (case h1 => rfl))
  | (with_reducible refine i_ipI ?_)
  | ((with_reducible refine' i_gtup2 ?h1 ?_); (case h1 => walk_at "st"))
  | (with_reducible refine i_int_bl ?_)
  | (with_reducible refine i_raise ?_)
  | (with_reducible refine i_mkE ?_)
  | (with_reducible refine i_ex1 ?_)
  | (with_reducible refine i_and ?_)
  | (with_reducible refine i_or ?_)
  | (with_reducible refine i_not ?_)
  | (with_reducible refine i_tt ?_)
  | (with_reducible refine i_ff ?_)
  | (with_reducible refine i_nott ?_)
  | (with_reducible refine i_notf ?_)
  | (with_reducible refine i_andV ?_)
  | (with_reducible refine i_orV ?_)
  | (with_reducible refine i_notV ?_)
  | (with_reducible refine i_ifE ?_)
  | (with_reducible refine i_tup ?_)
  | (with_reducible refine i_lst ?_)
  | (with_reducible refine i_un ?_)
  | (with_reducible refine i_neg ?_)
  | (with_reducible refine i_chain ?_)
  | (with_reducible refine i_next ?_)
  | (with_reducible refine i_retN ?_)
  | (with_reducible refine i_drop ?_)
  | (with_reducible refine i_int_int ?_)
  | (with_reducible refine i_abs ?_)
  | (with_reducible refine i_m1c ?_)
  | (with_reducible refine i_is_non ?_)
  | (with_reducible refine i_is_int ?_)
  | (with_reducible refine i_is_bl ?_)
  | (with_reducible refine i_isn_bl ?_)
  | (with_reducible refine i_is_str ?_)
  | (with_reducible refine i_is_ref ?_)
  | (with_reducible refine i_isn_non ?_)
  | (with_reducible refine i_isn_int ?_)
  | (with_reducible refine i_isn_str ?_)
  | (with_reducible refine i_isn_ref ?_)
  | (with_reducible refine i_len_str ?h1 ?_; (case h1 => walk_at "o"))
  | (with_reducible refine i_isi_int_int ?_) | (with_reducible refine i_isi_int_bool ?_) | (with_reducible refine i_isi_int_str ?_) | (with_reducible refine i_isi_int_tuple ?_) | (with_reducible refine i_isi_int_list ?_)
  | (with_reducible refine i_isi_bl_int ?_) | (with_reducible refine i_isi_bl_bool ?_) | (with_reducible refine i_isi_bl_str ?_) | (with_reducible refine i_isi_bl_tuple ?_) | (with_reducible refine i_isi_bl_list ?_)
  | (with_reducible refine i_isi_str_int ?_) | (with_reducible refine i_isi_str_bool ?_) | (with_reducible refine i_isi_str_str ?_) | (with_reducible refine i_isi_str_tuple ?_) | (with_reducible refine i_isi_str_list ?_)
  | (with_reducible refine i_isi_non_int ?_) | (with_reducible refine i_isi_non_bool ?_) | (with_reducible refine i_isi_non_str ?_) | (with_reducible refine i_isi_non_tuple ?_) | (with_reducible refine i_isi_non_list ?_))
local macro_rules | `(tactic| walk_at "go") => `(tactic| (repeat' (walk_at "s")))
local macro_rules | `(tactic| walk_at "n") => `(tactic| simp only [wipe, List.map_cons, List.map_nil, List.set_cons_zero, List.set_cons_succ])
section
variable {P : Program} {w : World} {K : PySem.W.Frag} {mg : Str → Option Value} {base : Heap} {C_GlimError C_BadRound C_BadBeats C_BadText C_TooLong : Addr}
def p_check_round (C : Addr) : P1 := fun x H Q E => (∃ l, x = S l ∧ IsRound l ∧ ∀ H', Same H H' → Q .non H') ∨ BadX C H x E
theorem ok_check_round (T : Txt K mg C_GlimError C_BadRound C_BadBeats C_BadText C_TooLong) : OK P w K mg base (L2.CX P w) 3 "check_round" ["thing"] (sp1  (p_check_round C_BadRound)) := by
  refine OK.mkX (k := 2) T.d_check_round sc_check_round len1 fun f cdv A outer s H vs Q E hr h => ?_
  obtain ⟨x, rfl, h⟩ := h
  refine ⟨_, (pss_cons (ps_if (pw_or (pt_not (pt_val (pe_callB (cIsi K) (by rfl) T.b_isinstance (by decide +kernel) (pa_cons (pv 0) (pa_cons (pe_bltn (v := .ty "str") (by rfl) T.b_str (by decide +kernel) rfl) pa_nil))))) (pw_or1 (pt_not (pt_chain op_leP op_leP pe_int (pe_callB (cLen K) (by rfl) T.b_len (by decide +kernel) (pa_cons (pv 0) pa_nil)) (pe_gI 24 T.g_MOST_ROUND))))).pt (pss_one (ps_raiseP rfl (takes_of rfl rfl rfl rfl) (pmk_E (k := 0) (okx_BadRound T) (hr.mono (by decide)) (pa_cons (pe_un un_neg pe_int) pa_nil)))) pss_nil) (pss_cons (ps_set (i := 1) sc_check_round.nd rfl (Or.inl rfl) (pe_f (ok_wrong_sign (K := K) T) (hr.mono (by decide)) pass0 (pa_cons (pv 0) pa_nil))) (pss_one (ps_if (pt_cmpR op_isNotP (pv 1) pe_non (nomark _)) (pss_one (ps_raiseP rfl (takes_of rfl rfl rfl rfl) (pmk_E (k := 0) (okx_BadRound T) (hr.mono (by decide)) (pa_cons (pv 1) pa_nil)))) pss_nil)))), ?_⟩
  show (_ : TS) { nx := fun _ H' => Q .non H', rt := Q } [some x, none] H
  rcases h with ⟨l, rfl, ⟨h1, h2, h3⟩, q⟩ | ⟨k, h | ⟨l, rfl, hl, h⟩, z⟩
  · walk_at "go"
    refine i_dec (fun e1 => ?_) (fun e1 => absurd (by omega) e1)
    walk_at "go"
    refine i_decN (fun e2 => absurd (by omega) e2) (fun e2 => ?_)
    walk_at "go"
    refine ⟨l, rfl, by omega, fun H1 s1 => ?_⟩
    rw [firstBad_none h3, show oV none = V.non from rfl]
    walk_at "go"
    exact q H1 s1
  · obtain ⟨h, rfl⟩ := h
    rcases h with rfl | ⟨b, rfl⟩ | ⟨i, rfl⟩ | ⟨a, xs, rfl, h | h⟩
    · walk_at "go"
      intro d nd
      exact z.at nd
    · walk_at "go"
      intro d nd
      exact z.at nd
    · walk_at "go"
      intro d nd
      exact z.at nd
    · walk_at "go"
      refine i_isi_tup_str h ?_
      walk_at "go"
      intro d nd
      exact z.at nd
    · walk_at "go"
      refine i_isi_lst_str h ?_
      walk_at "go"
      intro d nd
      exact z.at nd
  · rcases h with ⟨h, rfl⟩ | ⟨⟨h1, h2⟩, p, hp, rfl⟩
    · walk_at "go"
      refine i_dec (fun e1 => ?_) (fun e1 => ?_)
      · walk_at "go"
        refine i_decN (fun e2 => ?_) (fun e2 => absurd (by omega) h)
        walk_at "go"
        intro d nd
        exact z.at nd
      · walk_at "go"
        intro d nd
        exact z.at nd
    · walk_at "go"
      refine i_dec (fun e1 => ?_) (fun e1 => absurd (by omega) e1)
      walk_at "go"
      refine i_decN (fun e2 => absurd (by omega) e2) (fun e2 => ?_)
      walk_at "go"
      refine ⟨l, rfl, by omega, fun H1 s1 => ?_⟩
      rw [hp, show oV (some p) = V.int (p : Int) from rfl]
      walk_at "go"
      intro d nd
      exact (z.mono s1).at nd
/-- no number of beats -/
def NoBeats (H : Hp) (y : V) : Prop := (∃ b, y = .bl b) ∨ (∃ n : Int, y = .int n ∧ n < 0) ∨ y = .non ∨ (∃ l, y = S l) ∨ ∃ a xs, y = .ref a ∧ (H a = some (.tup xs) ∨ H a = some (.lst xs))
theorem NoBeats.mono {H H' : Hp} {x : V} (h : NoBeats H x) (s : Same H H') : NoBeats H' x := by
  rcases h with h | h | h | h | ⟨a, xs, h, h2⟩
  · exact .inl h
  · exact .inr (.inl h)
  · exact .inr (.inr (.inl h))
  · exact .inr (.inr (.inr (.inl h)))
  · exact .inr (.inr (.inr (.inr ⟨a, xs, h, h2.imp (s _ _) (s _ _)⟩)))
def p_turned (C CB : Addr) : P2 := fun x y H Q E => (∃ l, x = S l ∧ IsRound l ∧ ((∃ n : Int, y = .int n ∧ 0 ≤ n ∧ ∀ H', Same H H' → Q (S (turn l (n % l.length).toNat)) H') ∨ (NoBeats H y ∧ Rz E H CB "beats" y))) ∨ BadX C H x E
theorem ok_turned (T : Txt K mg C_GlimError C_BadRound C_BadBeats C_BadText C_TooLong) : OK P w K mg base (L2.CX P w) 4 "turned" ["row", "beats"] (sp2  (p_turned C_BadRound C_BadBeats)) := by
  refine OK.mkX (k := 3) T.d_turned sc_turned len2 fun f cdv A outer s H vs Q E hr h => ?_
  obtain ⟨x, y, rfl, h⟩ := h
  refine ⟨_, (pss_cons (ps_expr (pe_f (ok_check_round (K := K) T) (hr.mono (by decide)) (passes_call (takes_of rfl rfl rfl rfl) (fun _ _ _ _ h => h)) (pa_cons (pv 0) pa_nil))) (pss_cons (ps_if (pw_or (pt_val (pe_callB (cIsi K) (by rfl) T.b_isinstance (by decide +kernel) (pa_cons (pv 1) (pa_cons (pe_bltn (v := .ty "bool") (by rfl) T.b_bool (by decide +kernel) rfl) pa_nil)))) (pw_or (pt_not (pt_val (pe_callB (cIsi K) (by rfl) T.b_isinstance (by decide +kernel) (pa_cons (pv 1) (pa_cons (pe_bltn (v := .ty "int") (by rfl) T.b_int (by decide +kernel) rfl) pa_nil))))) (pw_or1 (pt_cmpR op_ltP (pv 1) pe_int (nomark _))))).pt (pss_one (ps_raiseP rfl (takes_of rfl rfl rfl rfl) (pmk_E (k := 0) (okx_BadBeats T) (hr.mono (by decide)) (pa_cons (pv 1) pa_nil)))) pss_nil) (pss_cons (ps_set (i := 2) sc_turned.nd rfl (Or.inl rfl) (pe_op op_modP (pv 1) (pe_callB (cLen K) (by rfl) T.b_len (by decide +kernel) (pa_cons (pv 0) pa_nil)))) (pss_one (ps_ret (pe_op (opAdd K) (pe_slice (slK K) (pv 0) (po_some (pv 2)) po_none) (pe_slice (slK K) (pv 0) po_none (po_some (pv 2))))))))), ?_⟩
  show (_ : TS) { nx := fun _ H' => Q .non H', rt := Q } [some x, some y, none] H
  rcases h with ⟨l, rfl, hl, h⟩ | h
  · walk_at "go"
    refine .inl ⟨l, rfl, hl, fun H1 s1 => ?_⟩
    have l1 := hl.1
    have l2 := hl.2.1
    rcases h with ⟨n, rfl, hn, q⟩ | ⟨nb, z⟩
    · walk_at "go"
      refine i_dec (fun e => absurd e (by omega)) (fun _ => ?_)
      have h0 : 0 ≤ n % (l.length : Int) := Int.emod_nonneg _ (by omega)
      walk_at "go"
      exact q H1 s1
    · rcases nb.mono s1 with ⟨b, rfl⟩ | ⟨n, rfl, hn⟩ | rfl | ⟨m, rfl⟩ | ⟨a, xs, rfl, h | h⟩
      · walk_at "go"
        intro d nd
        exact (z.mono s1).at nd
      · walk_at "go"
        refine i_dec (fun _ => ?_) (fun e => absurd hn e)
        walk_at "go"
        intro d nd
        exact (z.mono s1).at nd
      · walk_at "go"
        intro d nd
        exact (z.mono s1).at nd
      · walk_at "go"
        intro d nd
        exact (z.mono s1).at nd
      · walk_at "go"
        refine i_isi_tup_bool h ?_
        walk_at "go"
        refine i_isi_tup_int h ?_
        walk_at "go"
        intro d nd
        exact (z.mono s1).at nd
      · walk_at "go"
        refine i_isi_lst_bool h ?_
        walk_at "go"
        refine i_isi_lst_int h ?_
        walk_at "go"
        intro d nd
        exact (z.mono s1).at nd
  · walk_at "go"
    exact .inr h
end
end K08
namespace K08
open PySem PySem.Spec PyProof.Rows L2 Fg
/-! ### rounds for ever, in plain Lean -/
def sq (l : List Nat) (i : Nat) : Option Nat := l[i % l.length]?
def Per (f : Nat → Option Nat) (m : Nat) : Prop := ∀ i, f (i + m) = f i
theorem Per.mul {f : Nat → Option Nat} {m : Nat} (h : Per f m) : ∀ q i, f (i + m * q) = f i
  | 0, i => by rw [Nat.mul_zero, Nat.add_zero]
  | q + 1, i => by
    have e : i + m * (q + 1) = i + m * q + m := by rw [Nat.mul_succ]; omega
    rw [e, h, Per.mul h q i]
theorem Per.mod {f : Nat → Option Nat} {m n : Nat} (hm : Per f m) (hn : Per f n) : Per f (n % m) := fun i => by
  have e : i + n = i + n % m + m * (n / m) := by have := Nat.mod_add_div n m; omega
  have h1 := hn i
  rw [e, hm.mul] at h1
  exact h1
theorem Per.gcd {f : Nat → Option Nat} : ∀ (m n : Nat), Per f m → Per f n → Per f (Nat.gcd m n) := by
  intro m n
  induction m, n using Nat.gcd.induction with
  | H0 n => intro _ h; rw [Nat.gcd_zero_left]; exact h
  | H1 m n hm ih =>
    intro h1 h2
    rw [Nat.gcd_rec]
    exact ih (h1.mod h2) h1
theorem sq_per (l : List Nat) : Per (sq l) l.length := fun i => by
  unfold sq
  rw [Nat.add_mod_right]
theorem sq_lt {l : List Nat} {i : Nat} (h : i < l.length) : sq l i = l[i]? := by
  unfold sq
  rw [Nat.mod_eq_of_lt h]
theorem take_sq {l : List Nat} {m : Nat} (h1 : 1 ≤ m) (h2 : m ≤ l.length) : (∀ i, sq (l.take m) i = sq l i) ↔ Per (sq l) m := by
  have lt : (l.take m).length = m := by rw [List.length_take]; omega
  constructor
  · intro h i
    rw [← h, ← h]
    unfold sq
    rw [lt, Nat.add_mod_right]
  · intro h i
    have e : i = i % m + m * (i / m) := (Nat.mod_add_div i m).symm
    have b : i % m < m := Nat.mod_lt _ h1
    have h3 : sq l i = sq l (i % m) := by
      conv => lhs; rw [e]
      exact h.mul _ _
    rw [h3, sq_lt (l := l) (i := i % m) (by omega)]
    unfold sq
    rw [lt, List.getElem?_take_of_lt b]
theorem rpt_get : ∀ (k : Nat) (t : List Nat) (j : Nat), j < k * t.length → (rpt k t)[j]? = t[j % t.length]?
  | 0, t, j, h => by rw [Nat.zero_mul] at h; omega
  | k + 1, t, j, h => by
    have e : rpt (k + 1) t = t ++ rpt k t := by unfold rpt; rw [List.replicate_succ, List.flatten_cons]
    rw [e]
    by_cases hj : j < t.length
    · rw [List.getElem?_append_left hj, Nat.mod_eq_of_lt hj]
    · rw [List.getElem?_append_right (by omega), rpt_get k t (j - t.length) (by rw [Nat.succ_mul] at h; omega)]
      rw [← Nat.mod_eq_sub_mod (by omega)]
theorem rpt_len (k : Nat) (t : List Nat) : (rpt k t).length = k * t.length := by simp [rpt, List.length_flatten]
theorem good_iff {l : List Nat} {m : Nat} (h1 : 1 ≤ m) (h2 : m ≤ l.length) : good l m ↔ m ∣ l.length ∧ Per (sq l) m := by
  have lt : (l.take m).length = m := by rw [List.length_take]; omega
  unfold good
  rw [← Nat.dvd_iff_mod_eq_zero]
  constructor
  · rintro ⟨d, e⟩
    refine ⟨d, (take_sq h1 h2).mp fun i => ?_⟩
    have hk : l.length / m * m = l.length := Nat.div_mul_cancel d
    have b : i % l.length < l.length := Nat.mod_lt _ (by omega)
    have h3 := rpt_get (l.length / m) (l.take m) (i % l.length) (by rw [lt, hk]; exact b)
    rw [e, lt, Nat.mod_mod_of_dvd _ d] at h3
    unfold sq
    rw [lt, h3]
  · rintro ⟨d, p⟩
    refine ⟨d, ?_⟩
    have hk : l.length / m * m = l.length := Nat.div_mul_cancel d
    have q := (take_sq h1 h2).mpr p
    refine List.ext_getElem? fun j => ?_
    by_cases hj : j < l.length
    · rw [rpt_get _ _ _ (by rw [lt, hk]; exact hj), ← sq_lt hj, ← q j]
      rfl
    · rw [List.getElem?_eq_none (by rw [rpt_len, lt, hk]; omega), List.getElem?_eq_none (by omega)]
/-- the least period of what a round shows -/
def LP (l : List Nat) (p : Nat) : Prop := 1 ≤ p ∧ p ≤ l.length ∧ Per (sq l) p ∧ ∀ k, 1 ≤ k → k < p → ¬ Per (sq l) k
theorem LP.dvd {l : List Nat} {p : Nat} (h : LP l p) : p ∣ l.length := by
  obtain ⟨h1, h2, h3, h4⟩ := h
  have g := Per.gcd p l.length h3 (sq_per l)
  have g1 : Nat.gcd p l.length ∣ p := Nat.gcd_dvd_left _ _
  have g2 : 1 ≤ Nat.gcd p l.length := Nat.gcd_pos_of_pos_left _ h1
  have g3 := Nat.le_of_dvd h1 g1
  by_cases e : Nat.gcd p l.length < p
  · exact absurd g (h4 _ g2 e)
  · have : Nat.gcd p l.length = p := by omega
    rw [← this]
    exact Nat.gcd_dvd_right _ _
theorem LP.le {l : List Nat} {p m : Nat} (h : LP l p) (hm : 1 ≤ m) (g : Per (sq l) m) : p ≤ m := by
  by_cases e : m < p
  · exact absurd g (h.2.2.2 m hm e)
  · omega
theorem short_lp {l r : List Nat} (h : IsShort l r) : ∃ p, LP l p ∧ r = l.take p := by
  obtain ⟨m, h1, h2, rfl, h3, h4⟩ := h
  have pm : Per (sq l) m := by
    rcases h3 with h3 | rfl
    · exact ((good_iff h1 h2).mp h3).2
    · exact sq_per l
  refine ⟨m, ⟨h1, h2, pm, fun k k1 k2 pk => ?_⟩, rfl⟩
  have g := Per.gcd k l.length pk (sq_per l)
  have g1 := Nat.gcd_dvd_left k l.length
  have g2 : 1 ≤ Nat.gcd k l.length := Nat.gcd_pos_of_pos_left _ k1
  have g3 := Nat.le_of_dvd k1 g1
  exact h4 _ g2 (by omega) ((good_iff g2 (by omega)).mpr ⟨Nat.gcd_dvd_right _ _, g⟩)
theorem LP.one {l : List Nat} {p q : Nat} (h : LP l p) (g : LP l q) : p = q := Nat.le_antisymm (h.le g.1 g.2.2.1) (g.le h.1 h.2.2.1)
theorem lp_sq {l : List Nat} {p : Nat} (h : LP l p) : ∀ i, sq (l.take p) i = sq l i := (take_sq h.1 h.2.1).mpr h.2.2.1
theorem lp_eq {l m : List Nat} {p q : Nat} (h : LP l p) (g : LP m q) (hp : ∀ k, Per (sq l) k ↔ Per (sq m) k) : p = q :=
  Nat.le_antisymm (h.le g.1 ((hp q).mpr g.2.2.1)) (g.le h.1 ((hp p).mp h.2.2.1))
theorem eq_of_sq {l m : List Nat} (hl : l.length = m.length) (h : ∀ i, sq l i = sq m i) : l = m := by
  refine List.ext_getElem? fun j => ?_
  by_cases hj : j < l.length
  · rw [← sq_lt hj, ← sq_lt (by omega), h]
  · rw [List.getElem?_eq_none (by omega), List.getElem?_eq_none (by omega)]
theorem turn_len (l : List Nat) (k : Nat) (h : k ≤ l.length) : (turn l k).length = l.length := by
  unfold turn
  rw [List.length_append, List.length_drop, List.length_take]
  omega
theorem turn_get {l : List Nat} {k i : Nat} (hk : k < l.length) (hi : i < l.length) : (turn l k)[i]? = l[(i + k) % l.length]? := by
  unfold turn
  by_cases h : i < l.length - k
  · rw [List.getElem?_append_left (by rw [List.length_drop]; exact h), List.getElem?_drop, Nat.mod_eq_of_lt (by omega), Nat.add_comm]
  · rw [List.getElem?_append_right (by rw [List.length_drop]; omega), List.length_drop, List.getElem?_take_of_lt (by omega)]
    have e : (i + k) % l.length = i + k - l.length := by
      rw [Nat.mod_eq_sub_mod (by omega), Nat.mod_eq_of_lt (by omega)]
    rw [e]
    congr 1
    omega
theorem sq_turn {l : List Nat} {k : Nat} (hk : k < l.length) (i : Nat) : sq (turn l k) i = sq l (i + k) := by
  unfold sq
  rw [turn_len _ _ (by omega), turn_get hk (Nat.mod_lt _ (by omega)), Nat.mod_add_mod]
/-- the first beat at which the two differ -/
def IsPart (l m : List Nat) : Option Nat → Prop
  | none => ∀ i < l.length * m.length, sq l i = sq m i
  | some p => p < l.length * m.length ∧ sq l p ≠ sq m p ∧ ∀ k < p, sq l k = sq m k
theorem IsPart.symm {l m : List Nat} {o : Option Nat} (h : IsPart l m o) : IsPart m l o := by
  cases o with
  | none => exact fun i hi => (h i (by rw [Nat.mul_comm]; exact hi)).symm
  | some p => exact ⟨by rw [Nat.mul_comm]; exact h.1, fun e => h.2.1 e.symm, fun k hk => (h.2.2 k hk).symm⟩
theorem IsPart.one {l m : List Nat} {o o' : Option Nat} (h : IsPart l m o) (h' : IsPart l m o') : o = o' := by
  cases o with
  | none =>
    cases o' with
    | none => rfl
    | some p => exact absurd (h p h'.1) h'.2.1
  | some p =>
    cases o' with
    | none => exact absurd (h' p h.1) h.2.1
    | some q =>
      rcases Nat.lt_trichotomy p q with e | e | e
      · exact absurd (h'.2.2 p e) h.2.1
      · rw [e]
      · exact absurd (h.2.2 q e) h'.2.1
theorem IsPart.all {l m : List Nat} (hl : 1 ≤ l.length) (hm : 1 ≤ m.length) (h : IsPart l m none) (i : Nat) : sq l i = sq m i := by
  have h0 : 0 < l.length * m.length := Nat.mul_pos hl hm
  have := h (i % (l.length * m.length)) (Nat.mod_lt i h0)
  unfold sq at this ⊢
  rw [Nat.mod_mul_right_mod, Nat.mod_mul_left_mod] at this
  exact this
theorem alike_eq {l m r1 r2 : List Nat} {o : Option Nat} (hl : 1 ≤ l.length) (hm : 1 ≤ m.length) (h1 : IsShort l r1) (h2 : IsShort m r2) (ho : IsPart l m o) : decide (r1 = r2) = o.isNone := by
  obtain ⟨p, a, rfl⟩ := short_lp h1
  obtain ⟨q, b, rfl⟩ := short_lp h2
  rw [Bool.eq_iff_iff, decide_eq_true_iff]
  constructor
  · intro e
    cases o with
    | none => rfl
    | some k => exact absurd (by rw [← lp_sq a, ← lp_sq b, e]) ho.2.1
  · intro e
    cases o with
    | some k => cases e
    | none =>
      have e := IsPart.all hl hm ho
      have hf : sq l = sq m := funext e
      have : p = q := lp_eq a b fun k => by rw [hf]
      subst this
      exact eq_of_sq (by rw [List.length_take, List.length_take]; have := a.2.1; have := b.2.1; omega) fun i => by rw [lp_sq a, lp_sq b, e]
/-- the first sign of a turned round -/
theorem turn_head {l : List Nat} (hl : 1 ≤ l.length) (n : Nat) : ∃ c, sq l n = some c ∧ (turn l (n % l.length)).take 1 = [c] := by
  have hk : n % l.length < l.length := Nat.mod_lt _ hl
  have h1 := sq_turn hk 0
  have h2 : (turn l (n % l.length)).length = l.length := turn_len _ _ (by omega)
  rw [sq_lt (by omega)] at h1
  have h3 : sq l (0 + n % l.length) = sq l n := by unfold sq; rw [Nat.zero_add, Nat.mod_mod]
  rw [h3] at h1
  generalize turn l (n % l.length) = t at *
  cases t with
  | nil => rw [List.length_nil] at h2; omega
  | cons c r => exact ⟨c, h1.symm, rfl⟩
/-! ### two rounds, the one over the other -/
def lit (a b : Nat) : Nat := if a = 46 then b else a
def overN (l m : List Nat) (n : Nat) : List Nat := (List.range n).map fun i => lit (l.getD (i % l.length) 0) (m.getD (i % m.length) 0)
def over (l m : List Nat) : List Nat := overN l m (Nat.lcm l.length m.length)
theorem overN_len (l m : List Nat) (n : Nat) : (overN l m n).length = n := by simp [overN]
theorem overN_succ (l m : List Nat) (n : Nat) : overN l m (n + 1) = overN l m n ++ [lit (l.getD (n % l.length) 0) (m.getD (n % m.length) 0)] := by
  unfold overN
  rw [List.range_succ, List.map_append]
  rfl
/-- the first lit one -/
def firstLit : List Nat → Nat
  | [] => 46
  | c :: r => if c = 46 then firstLit r else c
/-- a stretch as the reader has it -/
def Sv (n : Nat) (r : List Nat) : HO := .tup [.int (n : Int), if n ≤ 24 then S r else .non]
def lcmL (ps : List (Nat × List Nat)) : Nat := ps.foldl (fun b p => Nat.lcm b p.1) 1
theorem lcmL_snoc (ps : List (Nat × List Nat)) (p : Nat × List Nat) : lcmL (ps ++ [p]) = Nat.lcm (lcmL ps) p.1 := by
  unfold lcmL
  rw [List.foldl_append]
  rfl
def showN (ps : List (Nat × List Nat)) (n : Nat) : List Nat := (List.range n).map fun i => firstLit (ps.map fun p => (rpt (n / p.1) p.2).getD i 0)
theorem dvd_fold (ps : List (Nat × List Nat)) : ∀ b, (b ∣ ps.foldl (fun b p => Nat.lcm b p.1) b) ∧ ∀ p ∈ ps, p.1 ∣ ps.foldl (fun b p => Nat.lcm b p.1) b := by
  induction ps with
  | nil => exact fun b => ⟨Nat.dvd_refl _, by simp⟩
  | cons q r ih =>
    intro b
    obtain ⟨h1, h2⟩ := ih (Nat.lcm b q.1)
    refine ⟨Nat.dvd_trans (Nat.dvd_lcm_left _ _) h1, fun p hp => ?_⟩
    rcases List.mem_cons.mp hp with rfl | hp
    · exact Nat.dvd_trans (Nat.dvd_lcm_right _ _) h1
    · exact h2 p hp
theorem dvd_lcmL {ps : List (Nat × List Nat)} {p : Nat × List Nat} (h : p ∈ ps) : p.1 ∣ lcmL ps := (dvd_fold ps 1).2 p h
theorem fold_pos (ps : List (Nat × List Nat)) (h : ∀ p ∈ ps, 1 ≤ p.1) : ∀ b, 1 ≤ b → 1 ≤ ps.foldl (fun b p => Nat.lcm b p.1) b := by
  induction ps with
  | nil => exact fun b hb => hb
  | cons q r ih => exact fun b hb => ih (fun p hp => h p (List.mem_cons_of_mem _ hp)) _ (Nat.lcm_pos hb (h q List.mem_cons_self))
theorem lcmL_pos {ps : List (Nat × List Nat)} (h : ∀ p ∈ ps, 1 ≤ p.1) : 1 ≤ lcmL ps := fold_pos ps h 1 (Nat.le_refl _)
theorem lcmL_two (l m : List Nat) : lcmL [(l.length, l), (m.length, m)] = Nat.lcm l.length m.length := by
  show Nat.lcm (Nat.lcm 1 l.length) m.length = _
  rw [show Nat.lcm 1 l.length = l.length by simp [Nat.lcm]]
theorem rpt_getD {l : List Nat} {n i : Nat} (hl : 1 ≤ l.length) (hd : l.length ∣ n) (hi : i < n) : (rpt (n / l.length) l).getD i 0 = l.getD (i % l.length) 0 := by
  rw [List.getD_eq_getElem?_getD, List.getD_eq_getElem?_getD, rpt_get _ _ _ (by rw [Nat.div_mul_cancel hd]; exact hi)]
theorem show_two {l m : List Nat} (hl : 1 ≤ l.length) (hm : 1 ≤ m.length) : showN [(l.length, l), (m.length, m)] (Nat.lcm l.length m.length) = over l m := by
  unfold showN over overN
  refine List.map_congr_left fun i hi => ?_
  have hi := List.mem_range.mp hi
  show firstLit [(rpt (Nat.lcm l.length m.length / l.length) l).getD i 0, (rpt (Nat.lcm l.length m.length / m.length) m).getD i 0] = _
  rw [rpt_getD hl (Nat.dvd_lcm_left _ _) hi, rpt_getD hm (Nat.dvd_lcm_right _ _) hi]
  unfold lit firstLit firstLit firstLit
  split
  · split
    · rename_i h; exact h.symm
    · rfl
  · rfl
end K08
namespace K08
open PySem PySem.Spec PyProof.Rows L2 Fg
local macro_rules | `(tactic| walk_at "sq") => `(tactic| first
  | assumption
  | exact .inl (.inl (by assumption))
  | exact .inl (.inl upd_same))
local macro_rules | `(tactic| walk_at "st") => `(tactic| first
  | assumption
  | exact .inl (.inl (by assumption))
  | exact .inl (.inl upd_same))
local macro_rules | `(tactic| walk_at "o") => `(tactic| first
  | omega
  | assumption
  | (simp only [List.length_append, List.length_take, List.length_drop, List.length_cons, List.length_nil, List.length_singleton, List.length_map, List.length_range, Int.toNat_natCast] ; omega))
local macro_rules | `(tactic| walk_at "s") => `(tactic| first
  | (with_reducible refine i_seq ?_)
  | (with_reducible refine i_asg ?_)
  | ((with_reducible refine' i_var ?h1 ?_); (case h1 => rfl))
  | (with_reducible refine i_c ?_)
  | ((with_reducible refine' i_gname' ?h1 ?_); (case h1 => (simp only [List.set_cons_zero, List.set_cons_succ]; rfl)))
  | (with_reducible refine i_op ?_)
  | (with_reducible refine i_ifS ?_)
  | (with_reducible refine i_for ?_)
  | (with_reducible refine i_test ?_)
  | (with_reducible refine i_B ?_)
  | (with_reducible refine i_exbl ?_)
  | (with_reducible refine i_exint ?_)
  | (with_reducible refine i_cb ?_)
  | (with_reducible refine i_nil ?_)
  | (with_reducible refine i_cons ?_)
  | (with_reducible refine i_ret ?_)
  | (with_reducible refine i_sl ?_)
  | (with_reducible refine i_nopart ?_)
  | (with_reducible refine i_part ?_)
  | (with_reducible refine i_add_int ?_)
  | (with_reducible refine i_sub ?_)
  | (with_reducible refine i_lt ?_)
  | ((with_reducible refine' i_mod ?h1 ?_); (case h1 => walk_at "o"))
  | ((with_reducible refine' i_fdiv ?h1 ?_); (case h1 => (refine cdiv_small ?_ ?_ <;> walk_at "o")))
  | ((with_reducible refine' i_sl_to ?h1 ?h2 ?_); (case h1 => walk_at "o"); (case h2 => walk_at "o"))
  | ((with_reducible refine' i_sl_from ?h1 ?h2 ?_); (case h1 => walk_at "o"); (case h2 => walk_at "o"))
  | ((with_reducible refine' i_add_str ?h1 ?_); (case h1 => walk_at "o"))
  | ((with_reducible refine' i_mul_int ?h1 ?_); (case h1 => first | (refine mul_small ?_ ?_ <;> walk_at "o") | (refine mul_smallR ?_ ?_ <;> walk_at "o")))
  | (with_reducible refine i_le ?_)
  | (with_reducible refine i_gt ?_)
  | (with_reducible refine i_ge ?_)
  | (with_reducible refine i_eq_int ?_)
  | (with_reducible refine i_eq_str ?_)
  | (with_reducible refine i_ne_int ?_)
  | (with_reducible refine i_ne_str ?_)
  | (with_reducible refine i_eq_bl ?_)
  | (with_reducible refine i_ne_bl ?_)
  | (with_reducible refine i_in_sg ?_)
  | (with_reducible refine i_notIn_sg ?_)
  | (with_reducible refine i_call ?_)
  | (with_reducible refine i_callS ?_)
  | (with_reducible refine i_sp1 ?_)
  | (with_reducible refine i_sp2 ?_)
  | (with_reducible refine i_sp3 ?_)
  | (with_reducible refine i_sp4 ?_)
  | (with_reducible refine i_sp1' ?_)
  | (with_reducible refine i_sp2' ?_)
  | (with_reducible refine i_sp3' ?_)
  | ((with_reducible refine' i_ix_lst ?h1 ?h2 ?_); (case h1 => walk_at "sq"); (case h2 => first | exact atI_nat rfl | rfl))
  | ((with_reducible refine' i_ix_tup ?h1 ?h2 ?_); (case h1 => walk_at "st"); (case h2 => first | exact atI_nat rfl | rfl))
  | (with_reducible refine i_gsub ?_)
  | (with_reducible refine i_par ?_)
  | (with_reducible refine i_lstRg1 ?_)
  | (with_reducible refine i_app ?_)
  | (with_reducible refine i_par2 ?_)
  | ((with_reducible refine' i_aug ?h1 ?_); (case h1 => rfl))
  | (with_reducible refine i_ipI ?_)
  | ((with_reducible refine' i_gtup2 ?h1 ?_); (case h1 => walk_at "st"))
  | (with_reducible refine i_int_bl ?_)
  | (with_reducible refine i_raise ?_)
  | (with_reducible refine i_mkE ?_)
  | (with_reducible refine i_ex1 ?_)
  | (with_reducible refine i_and ?_)
  | (with_reducible refine i_or ?_)
  | (with_reducible refine i_not ?_)
  | (with_reducible refine i_tt ?_)
  | (with_reducible refine i_ff ?_)
  | (with_reducible refine i_nott ?_)
  | (with_reducible refine i_notf ?_)
  | (with_reducible refine i_andV ?_)
  | (with_reducible refine i_orV ?_)
  | (with_reducible refine i_notV ?_)
  | (with_reducible refine i_ifE ?_)
  | (with_reducible refine i_tup ?_)
  | (with_reducible refine i_lst ?_)
  | (with_reducible refine i_un ?_)
  | (with_reducible refine i_neg ?_)
  | (with_reducible refine i_chain ?_)
  | (with_reducible refine i_next ?_)
  | (with_reducible refine i_retN ?_)
  | (with_reducible refine i_drop ?_)
  | (with_reducible refine i_int_int ?_)
  | (with_reducible refine i_abs ?_)
  | (with_reducible refine i_m1c ?_)
  | (with_reducible refine i_is_non ?_)
  | (with_reducible refine i_is_int ?_)
  | (with_reducible refine i_is_bl ?_)
  | (with_reducible refine i_isn_bl ?_)
  | (with_reducible refine i_is_str ?_)
  | (with_reducible refine i_is_ref ?_)
  | (with_reducible refine i_isn_non ?_)
  | (with_reducible refine i_isn_int ?_)
  | (with_reducible refine i_isn_str ?_)
  | (with_reducible refine i_isn_ref ?_)
  | (with_reducible refine i_len_str ?h1 ?_; (case h1 => walk_at "o"))
  | (with_reducible refine i_isi_int_int ?_) | (with_reducible refine i_isi_int_bool ?_) | (with_reducible refine i_isi_int_str ?_) | (with_reducible refine i_isi_int_tuple ?_) | (with_reducible refine i_isi_int_list ?_)
  | (with_reducible refine i_isi_bl_int ?_) | (with_reducible refine i_isi_bl_bool ?_) | (with_reducible refine i_isi_bl_str ?_) | (with_reducible refine i_isi_bl_tuple ?_) | (with_reducible refine i_isi_bl_list ?_)
  | (with_reducible refine i_isi_str_int ?_) | (with_reducible refine i_isi_str_bool ?_) | (with_reducible refine i_isi_str_str ?_) | (with_reducible refine i_isi_str_tuple ?_) | (with_reducible refine i_isi_str_list ?_)
  | (with_reducible refine i_isi_non_int ?_) | (with_reducible refine i_isi_non_bool ?_) | (with_reducible refine i_isi_non_str ?_) | (with_reducible refine i_isi_non_tuple ?_) | (with_reducible refine i_isi_non_list ?_))
local macro_rules | `(tactic| walk_at "go") => `(tactic| (repeat' (walk_at "s")))
local macro_rules | `(tactic| walk_at "n") => `(tactic| simp only [wipe, List.map_cons, List.map_nil, List.set_cons_zero, List.set_cons_succ])
/-! ### draws: the list at a holds a place in the script's cells (at c) and what is left of a great one -/
structure Dd where
  a : Addr
  c : Addr
  ns : List Int
/-- H0: what is known besides -/
def Dr (K : PySem.W.Frag) (d : Dd) (H0 H : Hp) : Prop := Same H0 H ∧ H0 d.a = none ∧ SqL K H0 d.c (d.ns.map V.int) ∧ d.ns.length ≤ 100 ∧ ∃ p b u x s : Int, H d.a = some (.lst [.ref d.c, .int p, .int b, .int u, .int x, .int s]) ∧ 0 ≤ p
section
variable {K : PySem.W.Frag} {d : Dd} {H0 H H' H1 : Hp} {q : Addr} {o o' : HO}
theorem Dr.same (h : Dr K d H0 H) (s : Same H H') : Dr K d H0 H' := by
  obtain ⟨s0, n0, hc, hl, p, b, u, x, sd, ha, hp⟩ := h
  exact ⟨s0.trans s, n0, hc, hl, p, b, u, x, sd, s _ _ ha, hp⟩
theorem Dr.new (h : Dr K d H0 H) (n : H q = none) : Dr K d (upd H0 q o) (upd H q o) := by
  obtain ⟨s0, n0, hc, hl, p, b, u, x, sd, ha, hp⟩ := h
  have nq : d.a ≠ q := ne_of_none ha n
  have s1 : Same H0 (upd H0 q o) := same_upd (s0.free n)
  refine ⟨fun b' o' e => ?_, by rw [upd_ne nq]; exact n0, s1.seq hc, hl, p, b, u, x, sd, by rw [upd_ne nq]; exact ha, hp⟩
  by_cases hb : b' = q
  · rw [hb, upd_same] at e
    rw [hb, upd_same]; exact e
  · rw [upd_ne hb] at e
    rw [upd_ne hb]; exact s0 _ _ e
/-- an object that is known changes -/
theorem Dr.put (h : Dr K d (upd H0 q o) H) (hc : SqL K H0 d.c (d.ns.map V.int)) (n : H0 q = none) : Dr K d (upd H0 q o') (upd H q o') := by
  obtain ⟨s0, n0, _, hl, p, b, u, x, sd, ha, hp⟩ := h
  have nq : d.a ≠ q := fun z => by rw [z, upd_same] at n0; cases n0
  have s1 : Same H0 (upd H0 q o') := same_upd n
  rw [upd_ne nq] at n0
  refine ⟨fun b' o' e => ?_, by rw [upd_ne nq]; exact n0, s1.seq hc, hl, p, b, u, x, sd, by rw [upd_ne nq]; exact ha, hp⟩
  by_cases hb : b' = q
  · rw [hb, upd_same] at e
    rw [hb, upd_same]; exact e
  · rw [upd_ne hb] at e
    rw [upd_ne hb]; exact s0 _ _ (by rw [upd_ne hb]; exact e)
/-- more, or less, is known -/
theorem Dr.know (h : Dr K d H0 H) (s0 : Same H0 H1) (s1 : Same H1 H) (n : H1 d.a = none) : Dr K d H1 H := by
  obtain ⟨_, n0, hc, hl, p, b, u, x, sd, ha, hp⟩ := h
  exact ⟨s1, n, s0.seq hc, hl, p, b, u, x, sd, ha, hp⟩
theorem Dr.less (h : Dr K d (upd H0 q o) H) (hc : SqL K H0 d.c (d.ns.map V.int)) (n : H0 q = none) : Dr K d H0 H := by
  obtain ⟨s0, n0, _, hl, p, b, u, x, sd, ha, hp⟩ := h
  have nq : d.a ≠ q := fun z => by rw [z, upd_same] at n0; cases n0
  rw [upd_ne nq] at n0
  exact ⟨(same_upd n).trans s0, n0, hc, hl, p, b, u, x, sd, ha, hp⟩
theorem Dr.old (h : Dr K d H0 H) (e : H0 q = some o) : H q = some o := h.1 _ _ e
theorem Dr.cells (h : Dr K d H0 H) : SqL K H0 d.c (d.ns.map V.int) := h.2.2.1
theorem Dr.free (h : Dr K d H0 H) (n : H q = none) : H0 q = none := h.1.free n
/-- what a call that leaves all as it was hands back new -/
theorem Dr.got (h : Dr K d H0 H) (n : H q = none) (s : Same H H') (e : H' q = some o) : Dr K d (upd H0 q o) H' := by
  obtain ⟨s0, n0, hc, hl, p, b, u, x, sd, ha, hp⟩ := h
  have nq : d.a ≠ q := ne_of_none ha n
  have s1 : Same H0 (upd H0 q o) := same_upd (s0.free n)
  refine ⟨fun b' o' e' => ?_, by rw [upd_ne nq]; exact n0, s1.seq hc, hl, p, b, u, x, sd, s _ _ ha, hp⟩
  by_cases hb : b' = q
  · rw [hb, upd_same] at e'
    rw [hb, e]; exact e'
  · rw [upd_ne hb] at e'
    exact s _ _ (s0 _ _ e')
end
theorem range_getD (xs : List V) : (List.range xs.length).map (fun i => xs.getD i .non) = xs := by
  refine List.ext_getElem? fun i => ?_
  rw [List.getElem?_map]
  by_cases h : i < xs.length
  · rw [List.getElem?_range h, Option.map_some, List.getD_eq_getElem?_getD, List.getElem?_eq_getElem h]
    rfl
  · rw [List.getElem?_eq_none (by simpa using h), List.getElem?_eq_none (by omega)]
    rfl
def Btw (n many : Int) : Prop := 0 ≤ n ∧ (2 ≤ many → n < many) ∧ (many < 2 → n = 0)
section
variable {P : Program} {w : World} {K : PySem.W.Frag} {mg : Str → Option Value} {base : Heap} {C_GlimError C_BadRound C_BadBeats C_BadText C_TooLong : Addr}
def p_L_draw (K : PySem.W.Frag) : P1 := fun v H Q _ => ∃ (a0 : Addr) (ns : List Int), v = .ref a0 ∧ SqL K H a0 (ns.map V.int) ∧ ns.length ≤ 100 ∧ ∀ H0 d H', Same H H0 → Dr K d H0 H' → Q (.ref d.a) H'
theorem ok_L_draw (T : Txt K mg C_GlimError C_BadRound C_BadBeats C_BadText C_TooLong) : OK P w K mg base CX0 1 "_law_draw" ["_law_script"] (sp1  (p_L_draw K)) := by
  refine OK.mk (k := 0) T.d_L_draw sc_L_draw len1 fun f cdv A outer s H vs Q E hr h => ?_
  obtain ⟨x, rfl, h⟩ := h
  refine ⟨_, (pss_cons (ps_setLc (i := 1) (own := [("_law_cell", 2)]) (g := gName 2) (tt := tYes) (by rfl) sc_L_draw.nd rfl rfl (sw_true rfl rfl rfl (by decide +kernel)) (piAny K (pv 0)) (blkOk_by (own := [("_law_cell", 2)]) (N := ["_law_script", "_law_cells", "_law_cell"]) (sc := (defScope s_L_draw)) (by decide +kernel)) (fun _ _ _ _ _ => (pg_name (i := 2) sc_L_draw.nd rfl (Or.inl rfl))) (fun _ _ _ _ _ => pts_nil) (fun _ _ _ _ _ => (pv 2))) (pss_one (ps_ret (pe_lst (pa_cons (pv 1) (pa_cons pe_int (pa_cons pe_int (pa_cons pe_int (pa_cons pe_int (pa_cons (pe_op (opAdd K) (pe_op op_modP (pe_callTy call_intP (by rfl) T.b_int (by decide +kernel) (pa_cons (pe_callB (cSum K rfl) (by rfl) T.b_sum (by decide +kernel) (pa_cons (pv 1) pa_nil)) pa_nil)) pe_int) (pe_op op_mulP pe_int (pe_callB (cLen K) (by rfl) T.b_len (by decide +kernel) (pa_cons (pv 1) pa_nil)))) pa_nil)))))))))), ?_⟩
  show (_ : TS) { nx := fun _ H' => Q .non H', rt := Q } [some x, none, none] H
  obtain ⟨a0, ns, rfl, hS, hl, q⟩ := h
  walk_at "go"
  refine c_lst (xs := ns.map V.int) (fun R k => by walk_at "go"; exact k) hS (by rw [List.length_map]; omega) (fun _ => true) (fun i => (ns.map V.int).getD i .non) (fun _ => rfl) (fun i v H2 hi s2 QB k => k H2 (Same.refl H2)) (fun i v H2 hi s2 _ QV k => ?_) (fun Dl H2 n2 s2 d2 => ?_)
  · show (_ : TE) [some (.ref a0), none, some v] H2 QV
    walk_at "go"
    have e : v = (ns.map V.int).getD i .non := by rw [List.getD_eq_getElem?_getD, hi]; rfl
    rw [e]
    exact k H2 (Same.refl H2)
  · rw [kept_all, range_getD] at d2
    walk_at "go"
    refine i_sum (ns := ns) (.inl (.inl d2)) ?_
    walk_at "go"
    refine i_len_lst (.inl (.inl d2)) ?_
    walk_at "go"
    refine i_new (by show 6 ≤ 100000; omega) fun a na => ?_
    walk_at "go"
    exact q H2 ⟨a, Dl, ns⟩ _ s2 ⟨same_upd na, na, .inl (.inl d2), hl, _, _, _, _, _, upd_same, Int.le_refl _⟩
def p_L_mix : P2 := fun x y H Q _ => ∃ a b : Int, x = .int a ∧ y = .int b ∧ ∀ r : Int, Q (.int r) H
theorem ok_L_mix (T : Txt K mg C_GlimError C_BadRound C_BadBeats C_BadText C_TooLong) : OK P w K mg base CX0 1 "_law_mix" ["_law_cell", "_law_turn"] (sp2  p_L_mix) := by
  refine OK.mk (k := 0) T.d_L_mix sc_L_mix len2 fun f cdv A outer s H vs Q E hr h => ?_
  obtain ⟨x, y, rfl, h⟩ := h
  refine ⟨_, (pss_cons (ps_set (i := 2) sc_L_mix.nd rfl (Or.inl rfl) (pe_op op_modP (pe_callTy call_intP (by rfl) T.b_int (by decide +kernel) (pa_cons (pe_op (opAdd K) (pe_op (opAdd K) (pe_op op_mulP (pv 0) pe_int) (pe_op op_mulP (pv 1) pe_int)) pe_int) pa_nil)) pe_int)) (pss_cons (ps_set (i := 3) sc_L_mix.nd rfl (Or.inl rfl) (pe_op op_modP (pe_callTy call_intP (by rfl) T.b_int (by decide +kernel) (pa_cons (pe_op (opAdd K) (pe_op (opAdd K) (pe_op op_mulP (pv 2) (pv 2)) (pe_op op_mulP (pv 1) pe_int)) (pv 0)) pa_nil)) pe_int)) (pss_cons (ps_set (i := 3) sc_L_mix.nd rfl (Or.inl rfl) (pe_op op_modP (pe_callTy call_intP (by rfl) T.b_int (by decide +kernel) (pa_cons (pe_op (opAdd K) (pe_op op_mulP (pv 3) (pv 3)) (pv 2)) pa_nil)) pe_int)) (pss_one (ps_ret (pe_op op_fdivP (pv 3) pe_int)))))), ?_⟩
  show (_ : TS) { nx := fun _ H' => Q .non H', rt := Q } [some x, some y, none, none] H
  obtain ⟨c, t, rfl, rfl, q⟩ := h
  walk_at "go"
  have h1 : 0 ≤ (c * 48271 + t * 69621 + 12345) % 2147483647 := Int.emod_nonneg _ (by decide)
  have h2 : (c * 48271 + t * 69621 + 12345) % 2147483647 < 2147483647 := Int.emod_lt_of_pos _ (by decide)
  generalize (c * 48271 + t * 69621 + 12345) % 2147483647 = o at *
  walk_at "go"
  have h3 : 0 ≤ (o * o + t * 7919 + c) % 998244353 := Int.emod_nonneg _ (by decide)
  have h4 : (o * o + t * 7919 + c) % 998244353 < 998244353 := Int.emod_lt_of_pos _ (by decide)
  generalize (o * o + t * 7919 + c) % 998244353 = o2 at *
  walk_at "go"
  exact q _
/-- a number from 0 to less than so many; the draws go on -/
def p_L_pick (K : PySem.W.Frag) : P2 := fun x y H Q _ => ∃ (H0 : Hp) (d : Dd) (many : Int), x = .ref d.a ∧ y = .int many ∧ Dr K d H0 H ∧ many ≤ 10000000000000000000000000000000000000000 ∧ ∀ (n : Int) H', Dr K d H0 H' → Btw n many → Q (.int n) H'
theorem wide_many {b many : Int} (h : 0 < many) (h2 : many ≤ 10000000000000000000000000000000000000000) : CDivW b many := by
  refine wide_div (b := 140) h ?_ (by decide) (by decide)
  have e : (2 : Nat) ^ 140 = 1393796574908163946345982392040522594123776 := by decide +kernel
  rw [e]
  omega
theorem ok_L_pick (T : Txt K mg C_GlimError C_BadRound C_BadBeats C_BadText C_TooLong) : OK P w K mg base CX0 2 "_law_pick" ["_law_draw_here", "_law_many"] (sp2  (p_L_pick K)) := by
  refine OK.mk (k := 1) T.d_L_pick sc_L_pick len2 fun f cdv A outer s H vs Q E hr h => ?_
  obtain ⟨x, y, rfl, h⟩ := h
  refine ⟨_, (pss_cons (ps_if (pt_cmpR op_ltP (pv 1) pe_int (nomark _)) (pss_one (ps_ret pe_int)) pss_nil) (Evl.pss_cut (ps_if (pw_and (pt_cmpR (opEq K hr.units) (pe_ix (ixK K) (pv 0) pe_int (fun _ _ => rfl)) pe_int (nomark _)) (pw_and (pt_cmpR op_ltP (pe_ix (ixK K) (pv 0) pe_int (fun _ _ => rfl)) (pe_callB (cLen K) (by rfl) T.b_len (by decide +kernel) (pa_cons (pe_ix (ixK K) (pv 0) pe_int (fun _ _ => rfl)) pa_nil)) (nomark _)) (pw_and1 (pt_cmpR (opEq K hr.units) (pe_ix (ixK K) (pv 0) pe_int (fun _ _ => rfl)) pe_int (nomark _))))).pt (pss_cons (ps_set (i := 2) sc_L_pick.nd rfl (Or.inl rfl) (pe_ix (ixK K) (pe_ix (ixK K) (pv 0) pe_int (fun _ _ => rfl)) (pe_ix (ixK K) (pv 0) pe_int (fun _ _ => rfl)) (fun _ _ => rfl))) (pss_one (ps_if (pw_or (pt_cmpR op_geP (pv 2) (pe_op op_powP pe_int pe_int) (nomark _)) (pw_or1 (pt_cmpR op_leP (pv 2) (pe_un un_neg (pe_op op_powP pe_int pe_int)) (nomark _)))).pt (pss_cons (ps_asg (pe_op op_modP (pe_callTy call_intP (by rfl) T.b_int (by decide +kernel) (pa_cons (pe_callB call_absP (by rfl) T.b_abs (by decide +kernel) (pa_cons (pv 2) pa_nil)) pa_nil)) (pe_op op_powP (pe_op op_powP pe_int pe_int) pe_int)) (pg_sub (pv 0) pe_int set_list)) (pss_one (ps_asg (pe_op (opAdd K) (pe_ix (ixK K) (pv 0) pe_int (fun _ _ => rfl)) pe_int) (pg_sub (pv 0) pe_int set_list)))) pss_nil))) pss_nil) (pss_cons (ps_if (pt_cmpR op_gtP (pe_ix (ixK K) (pv 0) pe_int (fun _ _ => rfl)) pe_int (nomark _)) (pss_cons (ps_set (i := 3) sc_L_pick.nd rfl (Or.inl rfl) (pe_op op_modP (pe_callTy call_intP (by rfl) T.b_int (by decide +kernel) (pa_cons (pe_ix (ixK K) (pv 0) pe_int (fun _ _ => rfl)) pa_nil)) (pv 1))) (pss_cons (ps_asg (pe_op op_fdivP (pe_ix (ixK K) (pv 0) pe_int (fun _ _ => rfl)) (pv 1)) (pg_sub (pv 0) pe_int set_list)) (pss_one (ps_ret (pv 3))))) pss_nil) (pss_cons (ps_if (pt_cmpR op_ltP (pe_ix (ixK K) (pv 0) pe_int (fun _ _ => rfl)) (pe_callB (cLen K) (by rfl) T.b_len (by decide +kernel) (pa_cons (pe_ix (ixK K) (pv 0) pe_int (fun _ _ => rfl)) pa_nil)) (nomark _)) (pss_cons (ps_set (i := 2) sc_L_pick.nd rfl (Or.inl rfl) (pe_ix (ixK K) (pe_ix (ixK K) (pv 0) pe_int (fun _ _ => rfl)) (pe_ix (ixK K) (pv 0) pe_int (fun _ _ => rfl)) (fun _ _ => rfl))) (pss_cons (ps_asg (pe_op (opAdd K) (pe_ix (ixK K) (pv 0) pe_int (fun _ _ => rfl)) pe_int) (pg_sub (pv 0) pe_int set_list)) (pss_cons (ps_set (i := 4) sc_L_pick.nd rfl (Or.inl rfl) (pe_op op_modP (pe_callTy call_intP (by rfl) T.b_int (by decide +kernel) (pa_cons (pe_f (ok_L_mix (K := K) T) (hr.mono (by decide)) pass0 (pa_cons (pe_op (opAdd K) (pv 2) (pe_op op_mulP pe_int (pe_ix (ixK K) (pv 0) pe_int (fun _ _ => rfl)))) (pa_cons (pe_ix (ixK K) (pv 0) pe_int (fun _ _ => rfl)) pa_nil))) pa_nil)) (pv 1))) (Evl.pss_cut (ps_if (pt_cmpR (opEq K hr.units) (pe_ix (ixK K) (pv 0) pe_int (fun _ _ => rfl)) pe_int (nomark _)) (pss_cons (ps_asg pe_int (pg_sub (pv 0) pe_int set_list)) (pss_one (ps_asg (pe_op (opAdd K) (pe_ix (ixK K) (pv 0) pe_int (fun _ _ => rfl)) pe_int) (pg_sub (pv 0) pe_int set_list)))) pss_nil) (pss_one (ps_ret (pv 4))))))) pss_nil) (pss_cons (ps_asg (pe_op (opAdd K) (pe_ix (ixK K) (pv 0) pe_int (fun _ _ => rfl)) pe_int) (pg_sub (pv 0) pe_int set_list)) (pss_one (ps_ret (pe_op op_modP (pe_callTy call_intP (by rfl) T.b_int (by decide +kernel) (pa_cons (pe_f (ok_L_mix (K := K) T) (hr.mono (by decide)) pass0 (pa_cons (pe_ix (ixK K) (pv 0) pe_int (fun _ _ => rfl)) (pa_cons (pe_op (opAdd K) (pe_ix (ixK K) (pv 0) pe_int (fun _ _ => rfl)) pe_int) pa_nil))) pa_nil)) (pv 1))))))))), ?_⟩
  show (_ : TS) { nx := fun _ H' => Q .non H', rt := Q } [some x, some y, none, none, none] H
  obtain ⟨H0, d, many, rfl, rfl, dr, hmax, q⟩ := h
  walk_at "go"
  refine i_dec (fun e => ?_) (fun e => ?_)
  · walk_at "go"
    exact q 0 H dr ⟨Int.le_refl _, fun z => by omega, fun _ => rfl⟩
  walk_at "go"
  have hpos : 0 < many := by omega
  -- a great cell is taken up
  refine i_cut (fun σ H' => ∃ v2 v3 v4, σ = [some (.ref d.a), some (.int many), v2, v3, v4] ∧ Dr K d H0 H') ?_ ?_
  · obtain ⟨a, c, ns⟩ := d
    obtain ⟨s0, n0, hC, hl, p, b, u, x, sd, hA, hp⟩ := id dr
    dsimp only at *
    have hC' : SqL K H c (ns.map V.int) := s0.seq hC
    have skip : ∃ v2 v3 v4, ([some (.ref a), some (.int many), none, none, none] : L2.St) = [some (.ref a), some (.int many), v2, v3, v4] ∧ Dr K ⟨a, c, ns⟩ H0 H := ⟨_, _, _, rfl, dr⟩
    walk_at "go"
    refine i_dec (fun e1 => ?_) (fun e1 => skip)
    walk_at "go"
    refine i_len_lst hC' ?_
    walk_at "go"
    refine i_dec (fun e2 => ?_) (fun e2 => skip)
    walk_at "go"
    refine i_dec (fun e3 => ?_) (fun e3 => skip)
    walk_at "go"
    rw [List.length_map] at e2
    have hpl : p.toNat < ns.length := by omega
    refine i_ix_lst (v := .int ns[p.toNat]) hC' (atI_int hp (by rw [List.getElem?_map, List.getElem?_eq_getElem hpl]; rfl)) ?_
    walk_at "go"
    refine i_pow (by decide +kernel) ?_
    walk_at "go"
    have fin : ∃ v2 v3 v4, ([some (.ref a), some (.int many), some (.int ns[p.toNat]), none, none] : L2.St) = [some (.ref a), some (.int many), v2, v3, v4] ∧ Dr K ⟨a, c, ns⟩ H0 H := ⟨_, _, _, rfl, dr⟩
    refine i_dec (fun e4 => ?_) (fun e4 => ?_)
    case' refine_2 =>
      walk_at "go"
      refine i_pow (by decide +kernel) ?_
      walk_at "go"
      refine i_dec (fun e5 => ?_) (fun e5 => fin)
    all_goals
      walk_at "go"
      refine i_pow (by decide +kernel) ?_
      walk_at "go"
      refine i_pow (by decide +kernel) ?_
      walk_at "go"
      refine i_mod (by decide +kernel) ?_
      walk_at "go"
      refine i_setL 2 hA rfl rfl ?_
      walk_at "go"
      refine i_setL 1 upd_same rfl rfl ?_
      walk_at "go"
      rw [upd_upd]
      exact ⟨_, _, _, rfl, Same.upd s0 n0, n0, hC, hl, _, _, _, _, _, upd_same, by omega⟩
  · rintro σ H1 ⟨v2, v3, v4, rfl, d1⟩
    obtain ⟨a, c, ns⟩ := d
    obtain ⟨s0, n0, hC, hl, p, b, u, x, sd, hA, hp⟩ := id d1
    dsimp only at *
    have hC' : SqL K H1 c (ns.map V.int) := s0.seq hC
    have put : ∀ {p' b' u' x' s' : Int}, 0 ≤ p' → Dr K ⟨a, c, ns⟩ H0 (upd H1 a (.lst [.ref c, .int p', .int b', .int u', .int x', .int s'])) := fun h => ⟨Same.upd s0 n0, n0, hC, hl, _, _, _, _, _, upd_same, h⟩
    have btw : ∀ r : Int, Btw (r % many) many := fun r => ⟨Int.emod_nonneg _ (by omega), fun _ => Int.emod_lt_of_pos _ hpos, fun z => by omega⟩
    walk_at "go"
    refine i_dec (fun e1 => ?_) (fun e1 => ?_)
    · -- a digit of the great one
      walk_at "go"
      refine i_fdiv (wide_many hpos hmax) ?_
      walk_at "go"
      refine i_setL 2 hA rfl rfl ?_
      walk_at "go"
      exact q _ _ (put hp) (btw _)
    walk_at "go"
    refine i_len_lst hC' ?_
    walk_at "go"
    rw [List.length_map]
    refine i_dec (fun e2 => ?_) (fun e2 => ?_)
    · have hpl : p.toNat < ns.length := by omega
      walk_at "go"
      refine i_ix_lst (v := .int ns[p.toNat]) hC' (atI_int hp (by rw [List.getElem?_map, List.getElem?_eq_getElem hpl]; rfl)) ?_
      walk_at "go"
      refine i_setL 3 hA rfl rfl ?_
      walk_at "go"
      refine ⟨_, _, rfl, rfl, fun r => ?_⟩
      walk_at "go"
      refine i_cut (fun σ H' => ∃ v3, σ = [some (.ref a), some (.int many), some (.int ns[p.toNat]), v3, some (.int (r % many))] ∧ Dr K ⟨a, c, ns⟩ H0 H') ?_ ?_
      · walk_at "go"
        refine i_dec (fun e3 => ?_) (fun e3 => ⟨_, rfl, put hp⟩)
        walk_at "go"
        refine i_setL 3 upd_same rfl rfl ?_
        walk_at "go"
        refine i_setL 1 upd_same rfl rfl ?_
        walk_at "go"
        rw [upd_upd, upd_upd]
        exact ⟨_, rfl, put (by omega)⟩
      · rintro σ H2 ⟨v3, rfl, d2⟩
        walk_at "go"
        exact q _ _ d2 (btw _)
    · walk_at "go"
      refine i_setL 4 hA rfl rfl ?_
      walk_at "go"
      refine ⟨_, _, rfl, rfl, fun r => ?_⟩
      walk_at "go"
      exact q _ _ (put hp) (btw _)
end
end K08
namespace K08
open PySem PySem.Spec PyProof.Rows L2 Fg
local macro_rules | `(tactic| walk_at "sq") => `(tactic| first
  | assumption
  | exact .inl (.inl (by assumption))
  | exact .inl (.inl upd_same))
local macro_rules | `(tactic| walk_at "st") => `(tactic| first
  | assumption
  | exact .inl (.inl (by assumption))
  | exact .inl (.inl upd_same))
local macro_rules | `(tactic| walk_at "o") => `(tactic| first
  | omega
  | assumption
  | (simp only [List.length_append, List.length_take, List.length_drop, List.length_cons, List.length_nil, List.length_singleton, List.length_map, List.length_range, Int.toNat_natCast] ; omega))
local macro_rules | `(tactic| walk_at "s") => `(tactic| first
  | (with_reducible refine i_seq ?_)
  | (with_reducible refine i_asg ?_)
  | ((with_reducible refine' i_var ?h1 ?_); (case h1 => rfl))
  | (with_reducible refine i_c ?_)
  | ((with_reducible refine' i_gname' ?h1 ?_); (case h1 => (simp only [List.set_cons_zero, List.set_cons_succ]; rfl)))
  | (with_reducible refine i_op ?_)
  | (with_reducible refine i_ifS ?_)
  | (with_reducible refine i_for ?_)
  | (with_reducible refine i_test ?_)
  | (with_reducible refine i_B ?_)
  | (with_reducible refine i_exbl ?_)
  | (with_reducible refine i_exint ?_)
  | (with_reducible refine i_cb ?_)
  | (with_reducible refine i_nil ?_)
  | (with_reducible refine i_cons ?_)
  | (with_reducible refine i_ret ?_)
  | (with_reducible refine i_sl ?_)
  | (with_reducible refine i_nopart ?_)
  | (with_reducible refine i_part ?_)
  | (with_reducible refine i_add_int ?_)
  | (with_reducible refine i_sub ?_)
  | (with_reducible refine i_lt ?_)
  | ((with_reducible refine' i_mod ?h1 ?_); (case h1 => walk_at "o"))
  | ((with_reducible refine' i_fdiv ?h1 ?_); (case h1 => (refine cdiv_small ?_ ?_ <;> walk_at "o")))
  | ((with_reducible refine' i_sl_to ?h1 ?h2 ?_); (case h1 => walk_at "o"); (case h2 => walk_at "o"))
  | ((with_reducible refine' i_sl_from ?h1 ?h2 ?_); (case h1 => walk_at "o"); (case h2 => walk_at "o"))
  | ((with_reducible refine' i_add_str ?h1 ?_); (case h1 => walk_at "o"))
  | ((with_reducible refine' i_mul_int ?h1 ?_); (case h1 => first | (refine mul_small ?_ ?_ <;> walk_at "o") | (refine mul_smallR ?_ ?_ <;> walk_at "o")))
  | (with_reducible refine i_le ?_)
  | (with_reducible refine i_gt ?_)
  | (with_reducible refine i_ge ?_)
  | (with_reducible refine i_eq_int ?_)
  | (with_reducible refine i_eq_str ?_)
  | (with_reducible refine i_ne_int ?_)
  | (with_reducible refine i_ne_str ?_)
  | (with_reducible refine i_eq_bl ?_)
  | (with_reducible refine i_ne_bl ?_)
  | (with_reducible refine i_in_sg ?_)
  | (with_reducible refine i_notIn_sg ?_)
  | (with_reducible refine i_call ?_)
  | (with_reducible refine i_callS ?_)
  | (with_reducible refine i_sp1 ?_)
  | (with_reducible refine i_sp2 ?_)
  | (with_reducible refine i_sp3 ?_)
  | (with_reducible refine i_sp4 ?_)
  | (with_reducible refine i_sp1' ?_)
  | (with_reducible refine i_sp2' ?_)
  | (with_reducible refine i_sp3' ?_)
  | ((with_reducible refine' i_ix_lst ?h1 ?h2 ?_); (case h1 => walk_at "sq"); (case h2 => first | exact atI_nat rfl | rfl))
  | ((with_reducible refine' i_ix_tup ?h1 ?h2 ?_); (case h1 => walk_at "st"); (case h2 => first | exact atI_nat rfl | rfl))
  | (with_reducible refine i_gsub ?_)
  | (with_reducible refine i_par ?_)
  | (with_reducible refine i_lstRg1 ?_)
  | (with_reducible refine i_app ?_)
  | (with_reducible refine i_par2 ?_)
  | ((with_reducible refine' i_aug ?h1 ?_); (case h1 => rfl))
  | (with_reducible refine i_ipI ?_)
  | ((with_reducible refine' i_gtup2 ?h1 ?_); (case h1 => walk_at "st"))
  | (with_reducible refine i_int_bl ?_)
  | (with_reducible refine i_raise ?_)
  | (with_reducible refine i_mkE ?_)
  | (with_reducible refine i_ex1 ?_)
  | (with_reducible refine i_and ?_)
  | (with_reducible refine i_or ?_)
  | (with_reducible refine i_not ?_)
  | (with_reducible refine i_tt ?_)
  | (with_reducible refine i_ff ?_)
  | (with_reducible refine i_nott ?_)
  | (with_reducible refine i_notf ?_)
  | (with_reducible refine i_andV ?_)
  | (with_reducible refine i_orV ?_)
  | (with_reducible refine i_notV ?_)
  | (with_reducible refine i_ifE ?_)
  | (with_reducible refine i_tup ?_)
  | (with_reducible refine i_lst ?_)
  | (with_reducible refine i_un ?_)
  | (with_reducible refine i_neg ?_)
  | (with_reducible refine i_chain ?_)
  | (with_reducible refine i_next ?_)
  | (with_reducible refine i_retN ?_)
  | (with_reducible refine i_drop ?_)
  | (with_reducible refine i_int_int ?_)
  | (with_reducible refine i_abs ?_)
  | (with_reducible refine i_m1c ?_)
  | (with_reducible refine i_is_non ?_)
  | (with_reducible refine i_is_int ?_)
  | (with_reducible refine i_is_bl ?_)
  | (with_reducible refine i_isn_bl ?_)
  | (with_reducible refine i_is_str ?_)
  | (with_reducible refine i_is_ref ?_)
  | (with_reducible refine i_isn_non ?_)
  | (with_reducible refine i_isn_int ?_)
  | (with_reducible refine i_isn_str ?_)
  | (with_reducible refine i_isn_ref ?_)
  | (with_reducible refine i_len_str ?h1 ?_; (case h1 => walk_at "o"))
  | (with_reducible refine i_isi_int_int ?_) | (with_reducible refine i_isi_int_bool ?_) | (with_reducible refine i_isi_int_str ?_) | (with_reducible refine i_isi_int_tuple ?_) | (with_reducible refine i_isi_int_list ?_)
  | (with_reducible refine i_isi_bl_int ?_) | (with_reducible refine i_isi_bl_bool ?_) | (with_reducible refine i_isi_bl_str ?_) | (with_reducible refine i_isi_bl_tuple ?_) | (with_reducible refine i_isi_bl_list ?_)
  | (with_reducible refine i_isi_str_int ?_) | (with_reducible refine i_isi_str_bool ?_) | (with_reducible refine i_isi_str_str ?_) | (with_reducible refine i_isi_str_tuple ?_) | (with_reducible refine i_isi_str_list ?_)
  | (with_reducible refine i_isi_non_int ?_) | (with_reducible refine i_isi_non_bool ?_) | (with_reducible refine i_isi_non_str ?_) | (with_reducible refine i_isi_non_tuple ?_) | (with_reducible refine i_isi_non_list ?_))
local macro_rules | `(tactic| walk_at "go") => `(tactic| (repeat' (walk_at "s")))
local macro_rules | `(tactic| walk_at "n") => `(tactic| simp only [wipe, List.map_cons, List.map_nil, List.set_cons_zero, List.set_cons_succ])
/-! ### comprehensions whose elements draw -/
section
variable {K : PySem.W.Frag} {σ : L2.St} {H H0 : Hp} {Q : VK} {te : TE} {ta : TA} {j : Nat} {vs : List Nat} {d : Dd}
theorem c_rngD (Pz : Int → Prop) (ha : ∀ R : List V → Hp → Prop, (∀ (z : Int) H1, Dr K d H0 H1 → Pz z → R [.int z] H1) → ta σ H R) (hz : ∀ z, Pz z → 0 ≤ z ∧ z ≤ 100000)
    (Pc : Nat → List V → Prop) (h0 : Pc 0 []) (hl : ∀ i acc, Pc i acc → acc.length ≤ 100000) (hw : ∀ x, wipe ((wipe σ vs).set j (some x)) vs = wipe σ vs)
    (he : ∀ (z : Int) (i : Nat) acc Hk H2, Pz z → (i : Int) < z → Pc i acc → Dr K d Hk H2 → ∀ QV : VK, (∀ y H3, Dr K d Hk H3 → Pc (i + 1) (acc ++ [y]) → QV y H3) → te ((wipe σ vs).set j (some (.int (i : Int)))) H2 QV)
    (q : ∀ (z : Int) Dl H3 acc, Pz z → H0 Dl = none → Pc z.toNat acc → Dr K d (upd H0 Dl (.lst acc)) H3 → Q (.ref Dl) H3) : tLc (iRng1 ta) (gName j) tYes te vs σ H Q := by
  refine ha _ fun z H1 dr pz => ⟨z, rfl, by have := hz z pz; omega, by have := hz z pz; omega, fun Dl nD => ?_⟩
  have n0 : H0 Dl = none := dr.free nD
  refine lc_range (fun i H' => ∃ acc, Pc i acc ∧ Dr K d (upd H0 Dl (.lst acc)) H') ⟨[], h0, dr.new nD⟩ (fun i H' hi p => ?_) (fun H' p => ?_)
  · obtain ⟨acc, pc, dr'⟩ := p
    rw [Int.zero_add]
    refine ⟨hw _, ?_⟩
    refine i_yes (i_tt ?_)
    refine he z i acc _ H' pz (by omega) pc dr' _ fun y H3 dr3 pc' => ⟨acc, dr3.old upd_same, Nat.lt_of_le_of_lt (hl i acc pc) (by decide), _, pc', dr3.put dr.cells n0⟩
  · obtain ⟨acc, pc, dr'⟩ := p
    exact q z Dl H' acc pz n0 pc dr'
end
section
variable {P : Program} {w : World} {K : PySem.W.Frag} {mg : Str → Option Value} {base : Heap} {C_GlimError C_BadRound C_BadBeats C_BadText C_TooLong : Addr}
/-- the kinds of values that laws show about -/
def Kn (H : Hp) (x : V) : Prop := (∃ l, x = S l) ∨ NoStr H x
def isI : V → Bool
  | .int _ => true
  | _ => false
def p_L_is_int : P1 := fun x H Q _ => Kn H x ∧ Q (.bl (isI x)) H
theorem ok_L_is_int (T : Txt K mg C_GlimError C_BadRound C_BadBeats C_BadText C_TooLong) : OK P w K mg base CX0 1 "_law_is_int" ["_law_thing"] (sp1  p_L_is_int) := by
  refine OK.mk (k := 0) T.d_L_is_int sc_L_is_int len1 fun f cdv A outer s H vs Q E hr h => ?_
  obtain ⟨x, rfl, h⟩ := h
  refine ⟨_, (pss_one (ps_ret (pe_and (pe_callB (cIsi K) (by rfl) T.b_isinstance (by decide +kernel) (pa_cons (pv 0) (pa_cons (pe_bltn (v := .ty "int") (by rfl) T.b_int (by decide +kernel) rfl) pa_nil))) (pe_one (pe_not (pe_callB (cIsi K) (by rfl) T.b_isinstance (by decide +kernel) (pa_cons (pv 0) (pa_cons (pe_bltn (v := .ty "bool") (by rfl) T.b_bool (by decide +kernel) rfl) pa_nil)))))))), ?_⟩
  show (_ : TS) { nx := fun _ H' => Q .non H', rt := Q } [some x] H
  obtain ⟨h, q⟩ := h
  rcases h with ⟨l, rfl⟩ | rfl | ⟨b, rfl⟩ | ⟨i, rfl⟩ | ⟨a, xs, rfl, h | h⟩
  · walk_at "go"
    exact q
  · walk_at "go"
    exact q
  · walk_at "go"
    exact q
  · walk_at "go"
    exact q
  · walk_at "go"
    refine i_isi_tup_int h ?_
    walk_at "go"
    exact q
  · walk_at "go"
    refine i_isi_lst_int h ?_
    walk_at "go"
    exact q
def p_L_sign (K : PySem.W.Frag) : P1 := fun x H Q _ => ∃ (H0 : Hp) (d : Dd), x = .ref d.a ∧ Dr K d H0 H ∧ ∀ c H', Dr K d H0 H' → c ∈ SG → Q (S [c]) H'
theorem ok_L_sign (T : Txt K mg C_GlimError C_BadRound C_BadBeats C_BadText C_TooLong) : OK P w K mg base CX0 3 "_law_sign" ["_law_draw_here"] (sp1  (p_L_sign K)) := by
  refine OK.mk (k := 2) T.d_L_sign sc_L_sign len1 fun f cdv A outer s H vs Q E hr h => ?_
  obtain ⟨x, rfl, h⟩ := h
  refine ⟨_, (pss_one (ps_ret (pe_ix (ixK K) (pe_S [46, 46, 46, 119, 119, 114, 103]) (pe_f (ok_L_pick (K := K) T) (hr.mono (by decide)) pass0 (pa_cons (pv 0) (pa_cons pe_int pa_nil))) (fun _ _ => rfl)))), ?_⟩
  show (_ : TS) { nx := fun _ H' => Q .non H', rt := Q } [some x] H
  obtain ⟨H0, d, rfl, dr, q⟩ := h
  walk_at "go"
  refine ⟨H0, d, 7, rfl, rfl, dr, by decide, fun n H1 dr1 b => ?_⟩
  have b0 := b.1
  have b1 := b.2.1 (by decide)
  have hn : n.toNat < 7 := by omega
  have key : ∀ i < 7, ∃ c, ([46, 46, 46, 119, 119, 114, 103] : List Nat)[i]? = some c ∧ c ∈ SG := by decide
  obtain ⟨c, hc, hs⟩ := key n.toNat hn
  refine i_ix_str (by decide) b0 hc ?_
  walk_at "go"
  exact q c H1 dr1 hs
def Row (l : List Nat) : Prop := ∀ c ∈ l, c ∈ SG
def p_L_round (K : PySem.W.Frag) : P2 := fun x y H Q _ => ∃ (H0 : Hp) (d : Dd) (most : Int), x = .ref d.a ∧ y = .int most ∧ Dr K d H0 H ∧ 1 ≤ most ∧ most ≤ 1000 ∧ ∀ l H', Dr K d H0 H' → Row l → 1 ≤ l.length → (l.length : Int) ≤ most → Q (S l) H'
theorem ok_L_round (T : Txt K mg C_GlimError C_BadRound C_BadBeats C_BadText C_TooLong) : OK P w K mg base CX0 4 "_law_round" ["_law_draw_here", "_law_most"] (sp2  (p_L_round K)) := by
  refine OK.mk (k := 3) T.d_L_round sc_L_round len2 fun f cdv A outer s H vs Q E hr h => ?_
  obtain ⟨x, y, rfl, h⟩ := h
  refine ⟨_, (pss_one (ps_ret (peJoin K (pe_S []) (pe_lc (own := [("_law_turn", 2)]) (g := gName 2) (tt := tYes) (by rfl) sc_L_round.nd (pi_range1 rfl T.b_range (pa_cons (pe_op (opAdd K) pe_int (pe_f (ok_L_pick (K := K) T) (hr.mono (by decide)) pass0 (pa_cons (pv 0) (pa_cons (pv 1) pa_nil)))) pa_nil)) (blkOk_by (own := [("_law_turn", 2)]) (N := ["_law_draw_here", "_law_most", "_law_turn"]) (sc := (defScope s_L_round)) (by decide +kernel)) (fun _ _ _ _ _ => (pg_name (i := 2) sc_L_round.nd rfl (Or.inl rfl))) (fun _ _ _ _ _ => pts_nil) (fun _ _ _ _ _ => (pe_f (ok_L_sign (K := K) T) (hr.mono (by decide)) pass0 (pa_cons (pv 0) pa_nil))))))), ?_⟩
  show (_ : TS) { nx := fun _ H' => Q .non H', rt := Q } [some x, some y, none] H
  obtain ⟨H0, d, most, rfl, rfl, dr, m1, m2, q⟩ := h
  walk_at "go"
  refine c_rngD (K := K) (d := d) (H0 := H0) (fun z => 1 ≤ z ∧ z ≤ most) (fun R k => ?_) (fun z h => by omega) (fun i acc => ∃ cs : List Nat, cs.length = i ∧ i ≤ 1000 ∧ Row cs ∧ acc = cs.map fun c => S [c]) ⟨[], rfl, by omega, by simp [Row], rfl⟩ ?_ (fun _ => rfl) ?_ ?_
  · walk_at "go"
    refine ⟨H0, d, most, rfl, rfl, dr, by omega, fun n H1 dr1 b => ?_⟩
    walk_at "go"
    exact k _ _ dr1 (by have := b.1; have := b.2.1; have := b.2.2; omega)
  · rintro i acc ⟨cs, h1, h2, h3, rfl⟩
    rw [List.length_map]; omega
  · rintro z i acc Hk H2 hz hi ⟨cs, h1, h2, h3, rfl⟩ dr2 QV k
    show (_ : TE) [some (.ref d.a), some (.int most), some (.int (i : Int))] H2 QV
    walk_at "go"
    refine ⟨Hk, d, rfl, dr2, fun c H3 dr3 hc => k _ _ dr3 ⟨cs ++ [c], by rw [List.length_append, h1]; rfl, by omega, fun x hx => ?_, by rw [List.map_append]; rfl⟩⟩
    rcases List.mem_append.mp hx with hx | hx
    · exact h3 x hx
    · rw [List.mem_singleton.mp hx]; exact hc
  · rintro z Dl H3 acc hz n0 ⟨cs, h1, h2, h3, rfl⟩ dr3
    walk_at "go"
    refine i_join1 (.inl (.inl (dr3.old upd_same))) (by omega) ?_
    exact q cs H3 (dr3.less dr.cells n0) h3 (by omega) (by omega)
end
end K08
namespace K08
open PySem PySem.Spec PyProof.Rows L2 Fg
local macro_rules | `(tactic| walk_at "sq") => `(tactic| first
  | assumption
  | exact .inl (.inl (by assumption))
  | exact .inl (.inl upd_same))
local macro_rules | `(tactic| walk_at "st") => `(tactic| first
  | assumption
  | exact .inl (.inl (by assumption))
  | exact .inl (.inl upd_same))
local macro_rules | `(tactic| walk_at "o") => `(tactic| first
  | omega
  | assumption
  | (simp only [List.length_append, List.length_take, List.length_drop, List.length_cons, List.length_nil, List.length_singleton, List.length_map, List.length_range, Int.toNat_natCast] ; omega))
local macro_rules | `(tactic| walk_at "s") => `(tactic| first
  | (with_reducible refine i_seq ?_)
  | (with_reducible refine i_asg ?_)
  | ((with_reducible refine' i_var ?h1 ?_); (case h1 => rfl))
  | (with_reducible refine i_c ?_)
  | ((with_reducible refine' i_gname' ?h1 ?_); (case h1 => (simp only [List.set_cons_zero, List.set_cons_succ]; rfl)))
  | (with_reducible refine i_op ?_)
  | (with_reducible refine i_ifS ?_)
  | (with_reducible refine i_for ?_)
  | (with_reducible refine i_test ?_)
  | (with_reducible refine i_B ?_)
  | (with_reducible refine i_exbl ?_)
  | (with_reducible refine i_exint ?_)
  | (with_reducible refine i_cb ?_)
  | (with_reducible refine i_nil ?_)
  | (with_reducible refine i_cons ?_)
  | (with_reducible refine i_ret ?_)
  | (with_reducible refine i_sl ?_)
  | (with_reducible refine i_nopart ?_)
  | (with_reducible refine i_part ?_)
  | (with_reducible refine i_add_int ?_)
  | (with_reducible refine i_sub ?_)
  | (with_reducible refine i_lt ?_)
  | ((with_reducible refine' i_mod ?h1 ?_); (case h1 => walk_at "o"))
  | ((with_reducible refine' i_fdiv ?h1 ?_); (case h1 => (refine cdiv_small ?_ ?_ <;> walk_at "o")))
  | ((with_reducible refine' i_sl_to ?h1 ?h2 ?_); (case h1 => walk_at "o"); (case h2 => walk_at "o"))
  | ((with_reducible refine' i_sl_from ?h1 ?h2 ?_); (case h1 => walk_at "o"); (case h2 => walk_at "o"))
  | ((with_reducible refine' i_add_str ?h1 ?_); (case h1 => walk_at "o"))
  | ((with_reducible refine' i_mul_int ?h1 ?_); (case h1 => first | (refine mul_small ?_ ?_ <;> walk_at "o") | (refine mul_smallR ?_ ?_ <;> walk_at "o")))
  | (with_reducible refine i_le ?_)
  | (with_reducible refine i_gt ?_)
  | (with_reducible refine i_ge ?_)
  | (with_reducible refine i_eq_int ?_)
  | (with_reducible refine i_eq_str ?_)
  | (with_reducible refine i_ne_int ?_)
  | (with_reducible refine i_ne_str ?_)
  | (with_reducible refine i_eq_bl ?_)
  | (with_reducible refine i_ne_bl ?_)
  | (with_reducible refine i_in_sg ?_)
  | (with_reducible refine i_notIn_sg ?_)
  | (with_reducible refine i_call ?_)
  | (with_reducible refine i_callS ?_)
  | (with_reducible refine i_sp1 ?_)
  | (with_reducible refine i_sp2 ?_)
  | (with_reducible refine i_sp3 ?_)
  | (with_reducible refine i_sp4 ?_)
  | (with_reducible refine i_sp1' ?_)
  | (with_reducible refine i_sp2' ?_)
  | (with_reducible refine i_sp3' ?_)
  | ((with_reducible refine' i_ix_lst ?h1 ?h2 ?_); (case h1 => walk_at "sq"); (case h2 => first | exact atI_nat rfl | rfl))
  | ((with_reducible refine' i_ix_tup ?h1 ?h2 ?_); (case h1 => walk_at "st"); (case h2 => first | exact atI_nat rfl | rfl))
  | (with_reducible refine i_gsub ?_)
  | (with_reducible refine i_par ?_)
  | (with_reducible refine i_lstRg1 ?_)
  | (with_reducible refine i_app ?_)
  | (with_reducible refine i_par2 ?_)
  | ((with_reducible refine' i_aug ?h1 ?_); (case h1 => rfl))
  | (with_reducible refine i_ipI ?_)
  | ((with_reducible refine' i_gtup2 ?h1 ?_); (case h1 => walk_at "st"))
  | (with_reducible refine i_int_bl ?_)
  | (with_reducible refine i_raise ?_)
  | (with_reducible refine i_mkE ?_)
  | (with_reducible refine i_ex1 ?_)
  | (with_reducible refine i_and ?_)
  | (with_reducible refine i_or ?_)
  | (with_reducible refine i_not ?_)
  | (with_reducible refine i_tt ?_)
  | (with_reducible refine i_ff ?_)
  | (with_reducible refine i_nott ?_)
  | (with_reducible refine i_notf ?_)
  | (with_reducible refine i_andV ?_)
  | (with_reducible refine i_orV ?_)
  | (with_reducible refine i_notV ?_)
  | (with_reducible refine i_ifE ?_)
  | (with_reducible refine i_tup ?_)
  | (with_reducible refine i_lst ?_)
  | (with_reducible refine i_un ?_)
  | (with_reducible refine i_neg ?_)
  | (with_reducible refine i_chain ?_)
  | (with_reducible refine i_next ?_)
  | (with_reducible refine i_retN ?_)
  | (with_reducible refine i_drop ?_)
  | (with_reducible refine i_int_int ?_)
  | (with_reducible refine i_abs ?_)
  | (with_reducible refine i_m1c ?_)
  | (with_reducible refine i_is_non ?_)
  | (with_reducible refine i_is_int ?_)
  | (with_reducible refine i_is_bl ?_)
  | (with_reducible refine i_isn_bl ?_)
  | (with_reducible refine i_is_str ?_)
  | (with_reducible refine i_is_ref ?_)
  | (with_reducible refine i_isn_non ?_)
  | (with_reducible refine i_isn_int ?_)
  | (with_reducible refine i_isn_str ?_)
  | (with_reducible refine i_isn_ref ?_)
  | (with_reducible refine i_len_str ?h1 ?_; (case h1 => walk_at "o"))
  | (with_reducible refine i_isi_int_int ?_) | (with_reducible refine i_isi_int_bool ?_) | (with_reducible refine i_isi_int_str ?_) | (with_reducible refine i_isi_int_tuple ?_) | (with_reducible refine i_isi_int_list ?_)
  | (with_reducible refine i_isi_bl_int ?_) | (with_reducible refine i_isi_bl_bool ?_) | (with_reducible refine i_isi_bl_str ?_) | (with_reducible refine i_isi_bl_tuple ?_) | (with_reducible refine i_isi_bl_list ?_)
  | (with_reducible refine i_isi_str_int ?_) | (with_reducible refine i_isi_str_bool ?_) | (with_reducible refine i_isi_str_str ?_) | (with_reducible refine i_isi_str_tuple ?_) | (with_reducible refine i_isi_str_list ?_)
  | (with_reducible refine i_isi_non_int ?_) | (with_reducible refine i_isi_non_bool ?_) | (with_reducible refine i_isi_non_str ?_) | (with_reducible refine i_isi_non_tuple ?_) | (with_reducible refine i_isi_non_list ?_))
local macro_rules | `(tactic| walk_at "go") => `(tactic| (repeat' (walk_at "s")))
local macro_rules | `(tactic| walk_at "n") => `(tactic| simp only [wipe, List.map_cons, List.map_nil, List.set_cons_zero, List.set_cons_succ])
/-! ### the reader of rhythm texts, at texts of two rounds -/
abbrev DG : List Nat := [48, 49, 50, 51, 52, 53, 54, 55, 56, 57]
def rowV (n : Nat) (r : List Nat) : V := if n ≤ 24 then S r else .non
theorem Sv_eq (n : Nat) (r : List Nat) : Sv n r = .tup [.int (n : Int), rowV n r] := rfl
section
variable {P : Program} {w : World} {K : PySem.W.Frag} {mg : Str → Option Value} {base : Heap} {C_GlimError C_BadRound C_BadBeats C_BadText C_TooLong : Addr}
def p_common : P2 := fun x y H Q _ => ∃ a b : Nat, x = .int (a : Int) ∧ y = .int (b : Int) ∧ 1 ≤ a ∧ a ≤ 1000000 ∧ 1 ≤ b ∧ b ≤ 1000000 ∧ Q (.int ((Nat.lcm a b : Nat) : Int)) H
theorem ok_common_beats (T : Txt K mg C_GlimError C_BadRound C_BadBeats C_BadText C_TooLong) : OK P w K mg base CX0 1 "common_beats" ["first", "second"] (sp2  p_common) := by
  refine OK.mk (k := 0) T.d_common_beats sc_common_beats len2 fun f cdv A outer s H vs Q E hr h => ?_
  obtain ⟨x, y, rfl, h⟩ := h
  refine ⟨_, (pss_cons (ps_par (i := 2) (j := 3) rfl sc_common_beats.nd rfl rfl (by decide) rfl rfl (pa_cons (pv 0) (pa_cons (pv 1) pa_nil)) (by rfl)) (pss_cons (ps_while PassesOwn.never (pt_cmpR op_gtP (pv 3) pe_int (nomark _)) (pss_one (ps_par (i := 2) (j := 3) rfl sc_common_beats.nd rfl rfl (by decide) rfl rfl (pa_cons (pv 3) (pa_cons (pe_op op_modP (pv 2) (pv 3)) pa_nil)) (by rfl)))) (pss_one (ps_ret (pe_op op_mulP (pe_op op_fdivP (pv 0) (pv 2)) (pv 1)))))), ?_⟩
  show (_ : TS) { nx := fun _ H' => Q .non H', rt := Q } [some x, some y, none, none] H
  obtain ⟨a, b, rfl, rfl, a1, a2, b1, b2, q⟩ := h
  walk_at "go"
  refine i_while (fun m σ H' => ∃ n : Nat, σ = [some (.int (a : Int)), some (.int (b : Int)), some (.int (n : Int)), some (.int (m : Int))] ∧ H' = H ∧ 1 ≤ n ∧ m ≤ 1000000 ∧ Nat.gcd n m = Nat.gcd a b) b ⟨a, rfl, rfl, a1, b2, rfl⟩ ?_
  rintro m σ H' ⟨n, rfl, rfl, n1, m2, hg⟩
  walk_at "go"
  refine i_dec (fun e => i_turn ?_) (fun e => ?_)
  · walk_at "go"
    refine ⟨n % m, Nat.mod_lt _ (by omega), m, ?_, rfl, by omega, by have := Nat.mod_lt n (show m > 0 by omega); omega, ?_⟩
    · show [_, _, _, some (V.int ((n : Int) % (m : Int)))] = _
      rw [← Int.natCast_emod]
    · rw [← hg, Nat.gcd_comm m, ← Nat.gcd_rec, Nat.gcd_comm]
  · have e0 : m = 0 := by omega
    subst e0
    rw [Nat.gcd_zero_right] at hg
    subst hg
    have g1 : Nat.gcd a b ≤ a := Nat.gcd_le_left _ (by omega)
    walk_at "go"
    have e : (a : Int) / ((Nat.gcd a b : Nat) : Int) * (b : Int) = ((Nat.lcm a b : Nat) : Int) := by
      rw [← Int.natCast_ediv, ← Int.natCast_mul]
      congr 1
      unfold Nat.lcm
      rw [Nat.mul_comm (a / _), ← Nat.mul_div_assoc _ (Nat.gcd_dvd_left a b), Nat.mul_comm]
    rw [e]
    exact q
def p_repeated : P2 := fun x y H Q _ => ∃ (a : Addr) (n : Nat) (r : List Nat) (t : Nat), x = .ref a ∧ y = .int (t : Int) ∧ H a = some (Sv n r) ∧ 1 ≤ n ∧ (n ≤ 24 → r.length = n) ∧ 1 ≤ t ∧ t ≤ 1000 ∧ ∀ p, H p = none → Q (.ref p) (upd H p (Sv (n * t) (rpt t r)))
theorem ok_repeated (T : Txt K mg C_GlimError C_BadRound C_BadBeats C_BadText C_TooLong) : OK P w K mg base CX0 1 "repeated" ["stretch", "times"] (sp2  p_repeated) := by
  refine OK.mk (k := 0) T.d_repeated sc_repeated len2 fun f cdv A outer s H vs Q E hr h => ?_
  obtain ⟨x, y, rfl, h⟩ := h
  refine ⟨_, (pss_cons (ps_set (i := 2) sc_repeated.nd rfl (Or.inl rfl) (pe_op op_mulP (pe_ix (ixK K) (pv 0) pe_int (fun _ _ => rfl)) (pv 1))) (pss_cons (ps_if (pt_cmpR op_gtP (pv 2) (pe_gI 24 T.g_MOST_ROUND) (nomark _)) (pss_one (ps_ret (pe_tup (pa_cons (pv 2) (pa_cons pe_non pa_nil))))) pss_nil) (pss_one (ps_ret (pe_tup (pa_cons (pv 2) (pa_cons (pe_op op_mulP (pe_ix (ixK K) (pv 0) pe_int (fun _ _ => rfl)) (pv 1)) pa_nil))))))), ?_⟩
  show (_ : TS) { nx := fun _ H' => Q .non H', rt := Q } [some x, some y, none] H
  obtain ⟨a, n, r, t, rfl, rfl, ha, n1, hr, t1, t2, q⟩ := h
  walk_at "go"
  have e : (n : Int) * (t : Int) = ((n * t : Nat) : Int) := (Int.natCast_mul _ _).symm
  rw [e]
  have nt : n ≤ n * t := Nat.le_mul_of_pos_right _ t1
  have tt : t ≤ n * t := Nat.le_mul_of_pos_left _ n1
  unfold Sv at q
  generalize hm : n * t = m at *
  walk_at "go"
  refine i_dec (fun e => ?_) (fun e => ?_)
  · walk_at "go"
    refine i_new (by show 2 ≤ 100000; omega) fun p np => ?_
    rw [if_neg (by omega)] at q
    exact q p np
  · walk_at "go"
    have hn : n ≤ 24 := by omega
    rw [if_pos hn]
    refine i_mul_str ⟨by rw [hr hn]; omega, by omega⟩ ?_
    walk_at "go"
    refine i_new (by show 2 ≤ 100000; omega) fun p np => ?_
    rw [if_pos (by omega)] at q
    exact q p np
def p_behind : P2 := fun x y H Q _ => ∃ (a b : Addr) (n m : Nat) (r s : List Nat), x = .ref a ∧ y = .ref b ∧ H a = some (Sv n r) ∧ H b = some (Sv m s) ∧ (n ≤ 24 → r.length = n) ∧ (m ≤ 24 → s.length = m) ∧ ∀ p, H p = none → Q (.ref p) (upd H p (Sv (n + m) (r ++ s)))
theorem ok_put_behind (T : Txt K mg C_GlimError C_BadRound C_BadBeats C_BadText C_TooLong) : OK P w K mg base CX0 1 "put_behind" ["stretch", "other"] (sp2  p_behind) := by
  refine OK.mk (k := 0) T.d_put_behind sc_put_behind len2 fun f cdv A outer s H vs Q E hr h => ?_
  obtain ⟨x, y, rfl, h⟩ := h
  refine ⟨_, (pss_cons (ps_set (i := 2) sc_put_behind.nd rfl (Or.inl rfl) (pe_op (opAdd K) (pe_ix (ixK K) (pv 0) pe_int (fun _ _ => rfl)) (pe_ix (ixK K) (pv 1) pe_int (fun _ _ => rfl)))) (pss_cons (ps_if (pt_cmpR op_gtP (pv 2) (pe_gI 24 T.g_MOST_ROUND) (nomark _)) (pss_one (ps_ret (pe_tup (pa_cons (pv 2) (pa_cons pe_non pa_nil))))) pss_nil) (pss_one (ps_ret (pe_tup (pa_cons (pv 2) (pa_cons (pe_op (opAdd K) (pe_ix (ixK K) (pv 0) pe_int (fun _ _ => rfl)) (pe_ix (ixK K) (pv 1) pe_int (fun _ _ => rfl))) pa_nil))))))), ?_⟩
  show (_ : TS) { nx := fun _ H' => Q .non H', rt := Q } [some x, some y, none] H
  obtain ⟨a, b, n, m, r, s', rfl, rfl, ha, hb, hr, hs, q⟩ := h
  walk_at "go"
  have e : (n : Int) + (m : Int) = ((n + m : Nat) : Int) := (Int.natCast_add _ _).symm
  rw [e]
  unfold Sv at q
  walk_at "go"
  refine i_dec (fun e => ?_) (fun e => ?_)
  · walk_at "go"
    refine i_new (by show 2 ≤ 100000; omega) fun p np => ?_
    rw [if_neg (by omega)] at q
    exact q p np
  · walk_at "go"
    have hn : n ≤ 24 := by omega
    have hm : m ≤ 24 := by omega
    rw [if_pos hn, if_pos hm]
    refine i_add_str (by rw [hr hn, hs hm]; omega) ?_
    walk_at "go"
    refine i_new (by show 2 ≤ 100000; omega) fun p np => ?_
    rw [if_pos (by omega)] at q
    exact q p np
def p_first_lit (K : PySem.W.Frag) : P1 := fun x H Q _ => ∃ (a : Addr) (cs : List Nat), x = .ref a ∧ SqL K H a (cs.map fun c => S [c]) ∧ Q (S [firstLit cs]) H
theorem ok_first_lit (T : Txt K mg C_GlimError C_BadRound C_BadBeats C_BadText C_TooLong) : OK P w K mg base CX0 1 "first_lit" ["signs"] (sp1  (p_first_lit K)) := by
  refine OK.mk (k := 0) T.d_first_lit sc_first_lit len1 fun f cdv A outer s H vs Q E hr h => ?_
  obtain ⟨x, rfl, h⟩ := h
  refine ⟨_, (pss_cons (ps_for PassesOwn.never rfl (piAny K (pv 0)) (pg_name (i := 1) sc_first_lit.nd rfl (Or.inl rfl)) (pss_one (ps_if (pt_cmpR (opNe K hr.units) (pv 1) (pe_S [46]) (nomark _)) (pss_one (ps_ret (pv 1))) pss_nil))) (pss_one (ps_ret (pe_S [46])))), ?_⟩
  show (_ : TS) { nx := fun _ H' => Q .non H', rt := Q } [some x, none] H
  obtain ⟨a, cs, rfl, ha, q⟩ := h
  walk_at "go"
  refine i_forL ha (fun i σ H' => ∃ v, σ = [some (.ref a), v] ∧ H' = H ∧ firstLit cs = firstLit (cs.drop i)) ⟨_, rfl, rfl, rfl⟩ ?_ ?_ ?_
  · rintro i σ H' _ ⟨v, rfl, rfl, _⟩
    exact ha
  · rintro i x σ H' hi ⟨v, rfl, rfl, hf⟩
    rw [List.getElem?_map] at hi
    obtain ⟨c, hc, rfl⟩ := Option.map_eq_some_iff.mp hi
    obtain ⟨hl, rfl⟩ := List.getElem?_eq_some_iff.mp hc
    rw [List.drop_eq_getElem_cons hl] at hf
    walk_at "go"
    refine i_decN (fun e => ?_) (fun e => ?_)
    · walk_at "go"
      have e' : cs[i] ≠ 46 := fun z => e (by rw [z])
      rw [show firstLit (cs[i] :: cs.drop (i + 1)) = cs[i] from if_neg e'] at hf
      rw [hf] at q
      exact q
    · walk_at "go"
      have e' : cs[i] = 46 := by simpa using e
      refine ⟨_, rfl, rfl, ?_⟩
      rw [hf]
      exact if_pos e'
  · rintro σ H' ⟨v, rfl, rfl, hf⟩
    walk_at "go"
    rw [List.length_map, List.drop_length] at hf
    rw [hf] at q
    exact q
end
end K08
namespace K08
open PySem PySem.Spec PyProof.Rows L2 Fg
local macro_rules | `(tactic| walk_at "sq") => `(tactic| first
  | assumption
  | exact .inl (.inl (by assumption))
  | exact .inl (.inl upd_same))
local macro_rules | `(tactic| walk_at "st") => `(tactic| first
  | assumption
  | exact .inl (.inl (by assumption))
  | exact .inl (.inl upd_same))
local macro_rules | `(tactic| walk_at "o") => `(tactic| first
  | omega
  | assumption
  | (simp only [List.length_append, List.length_take, List.length_drop, List.length_cons, List.length_nil, List.length_singleton, List.length_map, List.length_range, Int.toNat_natCast] ; omega))
local macro_rules | `(tactic| walk_at "s") => `(tactic| first
  | (with_reducible refine i_seq ?_)
  | (with_reducible refine i_asg ?_)
  | ((with_reducible refine' i_var ?h1 ?_); (case h1 => rfl))
  | (with_reducible refine i_c ?_)
  | ((with_reducible refine' i_gname' ?h1 ?_); (case h1 => (simp only [List.set_cons_zero, List.set_cons_succ]; rfl)))
  | (with_reducible refine i_op ?_)
  | (with_reducible refine i_ifS ?_)
  | (with_reducible refine i_for ?_)
  | (with_reducible refine i_test ?_)
  | (with_reducible refine i_B ?_)
  | (with_reducible refine i_exbl ?_)
  | (with_reducible refine i_exint ?_)
  | (with_reducible refine i_cb ?_)
  | (with_reducible refine i_nil ?_)
  | (with_reducible refine i_cons ?_)
  | (with_reducible refine i_ret ?_)
  | (with_reducible refine i_sl ?_)
  | (with_reducible refine i_nopart ?_)
  | (with_reducible refine i_part ?_)
  | (with_reducible refine i_add_int ?_)
  | (with_reducible refine i_sub ?_)
  | (with_reducible refine i_lt ?_)
  | ((with_reducible refine' i_mod ?h1 ?_); (case h1 => walk_at "o"))
  | ((with_reducible refine' i_fdiv ?h1 ?_); (case h1 => (refine cdiv_small ?_ ?_ <;> walk_at "o")))
  | ((with_reducible refine' i_sl_to ?h1 ?h2 ?_); (case h1 => walk_at "o"); (case h2 => walk_at "o"))
  | ((with_reducible refine' i_sl_from ?h1 ?h2 ?_); (case h1 => walk_at "o"); (case h2 => walk_at "o"))
  | ((with_reducible refine' i_add_str ?h1 ?_); (case h1 => walk_at "o"))
  | ((with_reducible refine' i_mul_int ?h1 ?_); (case h1 => first | (refine mul_small ?_ ?_ <;> walk_at "o") | (refine mul_smallR ?_ ?_ <;> walk_at "o")))
  | (with_reducible refine i_le ?_)
  | (with_reducible refine i_gt ?_)
  | (with_reducible refine i_ge ?_)
  | (with_reducible refine i_eq_int ?_)
  | (with_reducible refine i_eq_str ?_)
  | (with_reducible refine i_ne_int ?_)
  | (with_reducible refine i_ne_str ?_)
  | (with_reducible refine i_eq_bl ?_)
  | (with_reducible refine i_ne_bl ?_)
  | (with_reducible refine i_in_sg ?_)
  | (with_reducible refine i_notIn_sg ?_)
  | (with_reducible refine i_call ?_)
  | (with_reducible refine i_callS ?_)
  | (with_reducible refine i_sp1 ?_)
  | (with_reducible refine i_sp2 ?_)
  | (with_reducible refine i_sp3 ?_)
  | (with_reducible refine i_sp4 ?_)
  | (with_reducible refine i_sp1' ?_)
  | (with_reducible refine i_sp2' ?_)
  | (with_reducible refine i_sp3' ?_)
  | ((with_reducible refine' i_ix_lst ?h1 ?h2 ?_); (case h1 => walk_at "sq"); (case h2 => first | exact atI_nat rfl | rfl))
  | ((with_reducible refine' i_ix_tup ?h1 ?h2 ?_); (case h1 => walk_at "st"); (case h2 => first | exact atI_nat rfl | rfl))
  | (with_reducible refine i_gsub ?_)
  | (with_reducible refine i_par ?_)
  | (with_reducible refine i_lstRg1 ?_)
  | (with_reducible refine i_app ?_)
  | (with_reducible refine i_par2 ?_)
  | ((with_reducible refine' i_aug ?h1 ?_); (case h1 => rfl))
  | (with_reducible refine i_ipI ?_)
  | ((with_reducible refine' i_gtup2 ?h1 ?_); (case h1 => walk_at "st"))
  | (with_reducible refine i_int_bl ?_)
  | (with_reducible refine i_raise ?_)
  | (with_reducible refine i_mkE ?_)
  | (with_reducible refine i_ex1 ?_)
  | (with_reducible refine i_and ?_)
  | (with_reducible refine i_or ?_)
  | (with_reducible refine i_not ?_)
  | (with_reducible refine i_tt ?_)
  | (with_reducible refine i_ff ?_)
  | (with_reducible refine i_nott ?_)
  | (with_reducible refine i_notf ?_)
  | (with_reducible refine i_andV ?_)
  | (with_reducible refine i_orV ?_)
  | (with_reducible refine i_notV ?_)
  | (with_reducible refine i_ifE ?_)
  | (with_reducible refine i_tup ?_)
  | (with_reducible refine i_lst ?_)
  | (with_reducible refine i_un ?_)
  | (with_reducible refine i_neg ?_)
  | (with_reducible refine i_chain ?_)
  | (with_reducible refine i_next ?_)
  | (with_reducible refine i_retN ?_)
  | (with_reducible refine i_drop ?_)
  | (with_reducible refine i_int_int ?_)
  | (with_reducible refine i_abs ?_)
  | (with_reducible refine i_m1c ?_)
  | (with_reducible refine i_is_non ?_)
  | (with_reducible refine i_is_int ?_)
  | (with_reducible refine i_is_bl ?_)
  | (with_reducible refine i_isn_bl ?_)
  | (with_reducible refine i_is_str ?_)
  | (with_reducible refine i_is_ref ?_)
  | (with_reducible refine i_isn_non ?_)
  | (with_reducible refine i_isn_int ?_)
  | (with_reducible refine i_isn_str ?_)
  | (with_reducible refine i_isn_ref ?_)
  | (with_reducible refine i_len_str ?h1 ?_; (case h1 => walk_at "o"))
  | (with_reducible refine i_isi_int_int ?_) | (with_reducible refine i_isi_int_bool ?_) | (with_reducible refine i_isi_int_str ?_) | (with_reducible refine i_isi_int_tuple ?_) | (with_reducible refine i_isi_int_list ?_)
  | (with_reducible refine i_isi_bl_int ?_) | (with_reducible refine i_isi_bl_bool ?_) | (with_reducible refine i_isi_bl_str ?_) | (with_reducible refine i_isi_bl_tuple ?_) | (with_reducible refine i_isi_bl_list ?_)
  | (with_reducible refine i_isi_str_int ?_) | (with_reducible refine i_isi_str_bool ?_) | (with_reducible refine i_isi_str_str ?_) | (with_reducible refine i_isi_str_tuple ?_) | (with_reducible refine i_isi_str_list ?_)
  | (with_reducible refine i_isi_non_int ?_) | (with_reducible refine i_isi_non_bool ?_) | (with_reducible refine i_isi_non_str ?_) | (with_reducible refine i_isi_non_tuple ?_) | (with_reducible refine i_isi_non_list ?_))
local macro_rules | `(tactic| walk_at "go") => `(tactic| (repeat' (walk_at "s")))
local macro_rules | `(tactic| walk_at "n") => `(tactic| simp only [wipe, List.map_cons, List.map_nil, List.set_cons_zero, List.set_cons_succ])
theorem range_getD_map {α β : Type} (xs : List α) (d : α) (g : α → β) : (List.range xs.length).map (fun i => g (xs.getD i d)) = xs.map g := by
  refine List.ext_getElem? fun i => ?_
  rw [List.getElem?_map, List.getElem?_map]
  by_cases h : i < xs.length
  · rw [List.getElem?_range h, Option.map_some, List.getD_eq_getElem?_getD, List.getElem?_eq_getElem h]
    rfl
  · rw [List.getElem?_eq_none (by simpa using h), List.getElem?_eq_none (by omega)]
    rfl
def PartsAt (H : Hp) (qs : List Addr) (ps : List (Nat × List Nat)) : Prop := qs.length = ps.length ∧ ∀ (i : Nat) (q : Addr) (p : Nat × List Nat), qs[i]? = some q → ps[i]? = some p → H q = some (Sv p.1 p.2)
theorem PartsAt.mono {H H' : Hp} {qs : List Addr} {ps : List (Nat × List Nat)} (h : PartsAt H qs ps) (s : Same H H') : PartsAt H' qs ps := ⟨h.1, fun i q p a b => s _ _ (h.2 i q p a b)⟩
def PartOk (p : Nat × List Nat) : Prop := 1 ≤ p.1 ∧ p.1 ≤ 1000000 ∧ (p.1 ≤ 24 → p.2.length = p.1)
section
variable {P : Program} {w : World} {K : PySem.W.Frag} {mg : Str → Option Value} {base : Heap} {C_GlimError C_BadRound C_BadBeats C_BadText C_TooLong : Addr}
def p_shown (K : PySem.W.Frag) : P1 := fun x H Q _ => ∃ (a : Addr) (qs : List Addr) (ps : List (Nat × List Nat)), x = .ref a ∧ SqL K H a (qs.map V.ref) ∧ PartsAt H qs ps ∧ ps.length ≤ 100 ∧ (∀ p ∈ ps, PartOk p) ∧
  (∀ i, lcmL (ps.take i) ≤ 1000000) ∧ ∀ p H', Same H H' → H' p = some (Sv (lcmL ps) (showN ps (lcmL ps))) → Q (.ref p) H'
theorem ok_shown_together (T : Txt K mg C_GlimError C_BadRound C_BadBeats C_BadText C_TooLong) : OK P w K mg base CX0 2 "shown_together" ["parts"] (sp1  (p_shown K)) := by
  refine OK.mk (k := 1) T.d_shown_together sc_shown_together len1 fun f cdv A outer s H vs Q E hr h => ?_
  obtain ⟨x, rfl, h⟩ := h
  refine ⟨_, (pss_cons (ps_set (i := 1) sc_shown_together.nd rfl (Or.inr rfl) pe_int) (pss_cons (ps_for PassesOwn.never rfl (piAny K (pv 0)) (pg_name (i := 2) sc_shown_together.nd rfl (Or.inl rfl)) (pss_one (ps_set (i := 1) sc_shown_together.nd rfl (Or.inr rfl) (pe_f (ok_common_beats (K := K) T) (hr.mono (by decide)) pass0 (pa_cons (pv 1) (pa_cons (pe_ix (ixK K) (pv 2) pe_int (fun _ _ => rfl)) pa_nil)))))) (pss_cons (ps_if (pt_cmpR op_gtP (pv 1) (pe_gI 24 T.g_MOST_ROUND) (nomark _)) (pss_one (ps_ret (pe_tup (pa_cons (pv 1) (pa_cons pe_non pa_nil))))) pss_nil) (pss_cons (ps_set (i := 3) sc_shown_together.nd rfl (Or.inr rfl) (pe_lc (own := [("part", 2)]) (g := gName 2) (tt := tYes) (by rfl) sc_shown_together.nd (piAny K (pv 0)) (blkOk_by (own := [("part", 2)]) (N := ["parts", "beats", "part", "rows", "beat", "row"]) (sc := (defScope s_shown_together)) (by decide +kernel)) (fun _ _ _ _ _ => (pg_name (i := 2) sc_shown_together.nd rfl (Or.inl rfl))) (fun _ _ _ _ _ => pts_nil) (fun _ _ _ _ _ => (pe_op op_mulP (pe_ix (ixK K) (pv 2) pe_int (fun _ _ => rfl)) (pe_op op_fdivP (pv 1) (pe_ix (ixK K) (pv 2) pe_int (fun _ _ => rfl))))))) (pss_one (ps_ret (pe_tup (pa_cons (pv 1) (pa_cons (peJoin K (pe_S []) (pe_lc (own := [("beat", 4)]) (g := gName 4) (tt := tYes) (by rfl) sc_shown_together.nd (pi_range1 rfl T.b_range (pa_cons (pv 1) pa_nil)) (blkOk_by (own := [("beat", 4)]) (N := ["parts", "beats", "part", "rows", "beat", "row"]) (sc := (defScope s_shown_together)) (by decide +kernel)) (fun _ _ _ _ _ => (pg_name (i := 4) sc_shown_together.nd rfl (Or.inr rfl))) (fun _ _ _ _ _ => pts_nil) (fun _ _ _ _ _ => (pe_f (ok_first_lit (K := K) T) (hr.mono (by decide)) pass0 (pa_cons (pe_lc (own := [("row", 5)]) (g := gName 5) (tt := tYes) (by rfl) sc_shown_together.nd (piAny K (pv 3)) (Fg.blkOk_in (own := [("row", 5)]) (N := ["parts", "beats", "part", "rows", "beat", "row"]) (sc := (defScope s_shown_together)) (by rfl) (by rfl) (by decide +kernel)) (fun _ _ _ _ _ => (pg_name (i := 5) sc_shown_together.nd rfl (Or.inl rfl))) (fun _ _ _ _ _ => pts_nil) (fun _ _ _ _ _ => (pe_ix (ixK K) (pv 5) (pv 4) (fun _ _ => rfl)))) pa_nil))))) pa_nil))))))))), ?_⟩
  show (_ : TS) { nx := fun _ H' => Q .non H', rt := Q } [some x, none, none, none, none, none] H
  obtain ⟨a, qs, ps, rfl, ha, ⟨hlen, hat⟩, h100, hok, hsm, q⟩ := h
  walk_at "go"
  refine i_forL ha (fun i σ H' => ∃ v, σ = [some (.ref a), some (.int ((lcmL (ps.take i) : Nat) : Int)), v, none, none, none] ∧ H' = H) ⟨_, rfl, rfl⟩ ?_ ?_ ?_
  · rintro i σ H' _ ⟨v, rfl, rfl⟩
    exact ha
  · rintro i x σ H' hi ⟨v, rfl, rfl⟩
    rw [List.getElem?_map] at hi
    obtain ⟨qa, hqa, rfl⟩ := Option.map_eq_some_iff.mp hi
    obtain ⟨hl, e⟩ := List.getElem?_eq_some_iff.mp hqa
    have hp : ps[i]? = some ps[i] := List.getElem?_eq_getElem (by omega)
    have hq := hat i qa _ hqa hp
    have ok := hok _ (List.mem_of_getElem? hp)
    have e2 : ps.take (i + 1) = ps.take i ++ [ps[i]] := by rw [List.take_succ, hp]; rfl
    walk_at "go"
    refine ⟨lcmL (ps.take i), ps[i].1, rfl, rfl, lcmL_pos fun p hp => (hok p (List.mem_of_mem_take hp)).1, hsm i, ok.1, ok.2.1, ?_⟩
    rw [← lcmL_snoc, ← e2]
    walk_at "go"
    exact ⟨_, rfl, rfl⟩
  · rintro σ H' ⟨v, rfl, rfl⟩
    rw [List.length_map, hlen, List.take_length]
    have hL1 : 1 ≤ lcmL ps := lcmL_pos fun p hp => (hok p hp).1
    have hdv : ∀ p ∈ ps, p.1 ∣ lcmL ps := fun p hp => dvd_lcmL hp
    unfold Sv at q
    generalize lcmL ps = L at *
    walk_at "go"
    refine i_dec (fun e => ?_) (fun e => ?_)
    · walk_at "go"
      refine i_new (by show 2 ≤ 100000; omega) fun p np => ?_
      rw [if_neg (by omega)] at q
      exact q p _ (same_upd np) upd_same
    have hL : L ≤ 24 := by omega
    rw [if_pos hL] at q
    walk_at "go"
    refine c_lst (K := K) (a := a) (xs := qs.map V.ref) (fun R k => by walk_at "go"; exact k) ha (by rw [List.length_map]; omega) (fun _ => true) (fun i => S (rpt (L / (ps.getD i (1, [])).1) (ps.getD i (1, [])).2)) (fun _ => rfl) (fun i x H2 hi s2 QB k => k H2 (Same.refl H2)) (fun i x H2 hi s2 _ QV k => ?_) (fun Dr H2 n2 s2 d2 => ?_)
    · rw [List.getElem?_map] at hi
      obtain ⟨qa, hqa, rfl⟩ := Option.map_eq_some_iff.mp hi
      obtain ⟨hl, e'⟩ := List.getElem?_eq_some_iff.mp hqa
      have hp : ps[i]? = some ps[i] := List.getElem?_eq_getElem (by omega)
      have hq := s2 _ _ (hat i qa _ hqa hp)
      have hm := List.mem_of_getElem? hp
      have ok := hok _ hm
      have hn : ps[i].1 ≤ L := Nat.le_of_dvd hL1 (hdv _ hm)
      have hr := ok.2.2 (by omega)
      have ok1 := ok.1
      have e3 : ps.getD i (1, []) = ps[i] := by rw [List.getD_eq_getElem?_getD, hp]; rfl
      rw [e3] at k
      have hdd : L / ps[i].1 * ps[i].1 = L := Nat.div_mul_cancel (hdv _ hm)
      have hdl : L / ps[i].1 ≤ L := Nat.div_le_self _ _
      generalize ps[i] = pp at *
      obtain ⟨n, r⟩ := pp
      dsimp only at *
      show (_ : TE) [some (.ref a), some (.int (L : Int)), some (.ref qa), none, none, none] H2 QV
      walk_at "go"
      rw [if_pos (by omega), ← Int.natCast_ediv]
      refine i_mul_str ⟨by rw [hr, Nat.mul_comm]; omega, by omega⟩ ?_
      exact k H2 (Same.refl H2)
    rw [kept_all, List.length_map, hlen, range_getD_map ps (1, []) (fun (p : Nat × List Nat) => S (rpt (L / p.1) p.2))] at d2
    have e4 : ps.map (fun (p : Nat × List Nat) => S (rpt (L / p.1) p.2)) = (ps.map fun p => rpt (L / p.1) p.2).map S := by rw [List.map_map]; rfl
    rw [e4] at d2
    have hrl : ∀ r ∈ ps.map (fun p => rpt (L / p.1) p.2), r.length = L := fun r hr => by
      obtain ⟨p, hp, rfl⟩ := List.mem_map.mp hr
      have hn : p.1 ≤ L := Nat.le_of_dvd hL1 (hdv _ hp)
      rw [rpt_len, (hok p hp).2.2 (by omega), Nat.div_mul_cancel (hdv p hp)]
    have e5 : showN ps L = (List.range L).map fun b => firstLit ((ps.map fun p => rpt (L / p.1) p.2).map fun r => r.getD b 0) := by
      unfold showN
      refine List.map_congr_left fun b _ => ?_
      rw [List.map_map]
      rfl
    rw [e5] at q
    have hrs : (ps.map fun p => rpt (L / p.1) p.2).length = ps.length := by rw [List.length_map]
    generalize ps.map (fun (p : Nat × List Nat) => rpt (L / p.1) p.2) = rs at *
    walk_at "go"
    refine c_rng1A L (fun R k => by walk_at "go"; exact k) (by omega) (fun b => S [firstLit (rs.map fun r => r.getD b 0)]) (fun _ => rfl) (fun b H3 hb s3 QV k => ?_) (fun Dj H3 n3 s3 d3 => ?_)
    · show (_ : TE) [some (.ref a), some (.int (L : Int)), v, some (.ref Dr), some (.int (b : Int)), none] H3 QV
      walk_at "go"
      refine c_lst (K := K) (a := Dr) (xs := rs.map S) (fun R k => by walk_at "go"; exact k) (.inl (.inl (s3 _ _ d2))) (by rw [List.length_map]; omega) (fun _ => true) (fun i => S [(rs.getD i []).getD b 0]) (fun _ => rfl) (fun i x H4 hi s4 QB k => k H4 (Same.refl H4)) (fun i x H4 hi s4 _ QV k => ?_) (fun Di H4 n4 s4 d4 => ?_)
      · rw [List.getElem?_map] at hi
        obtain ⟨r, hr, rfl⟩ := Option.map_eq_some_iff.mp hi
        have hl := hrl r (List.mem_of_getElem? hr)
        have e6 : rs.getD i [] = r := by rw [List.getD_eq_getElem?_getD, hr]; rfl
        rw [e6] at k
        show (_ : TE) [some (.ref a), some (.int (L : Int)), v, some (.ref Dr), some (.int (b : Int)), some (S r)] H4 QV
        walk_at "go"
        refine i_ix_str (c := r.getD b 0) (by omega) (by omega) ?_ (k H4 (Same.refl H4))
        rw [Int.toNat_natCast, List.getD_eq_getElem?_getD, List.getElem?_eq_getElem (by omega)]
        rfl
      · rw [kept_all, List.length_map, range_getD_map rs [] (fun r => S [r.getD b 0])] at d4
        walk_at "go"
        refine ⟨Di, rs.map fun r => r.getD b 0, rfl, .inl (.inl (by rw [d4, List.map_map]; rfl)), ?_⟩
        exact k H4 s4
    · have e7 : (List.range L).map (fun b => S [firstLit (rs.map fun r => r.getD b 0)]) = ((List.range L).map fun b => firstLit (rs.map fun r => r.getD b 0)).map fun c => S [c] := by rw [List.map_map]; rfl
      rw [e7] at d3
      walk_at "go"
      refine i_join1 (.inl (.inl d3)) (by rw [List.length_map, List.length_range]; omega) ?_
      walk_at "go"
      refine i_new (by show 2 ≤ 100000; omega) fun p np => ?_
      exact q p _ (s2.trans (s3.trans (same_upd np))) upd_same
end
end K08
namespace K08
open PySem PySem.Spec PyProof.Rows L2 Fg
local macro_rules | `(tactic| walk_at "sq") => `(tactic| first
  | assumption
  | exact .inl (.inl (by assumption))
  | exact .inl (.inl upd_same))
local macro_rules | `(tactic| walk_at "st") => `(tactic| first
  | assumption
  | exact .inl (.inl (by assumption))
  | exact .inl (.inl upd_same))
local macro_rules | `(tactic| walk_at "o") => `(tactic| first
  | omega
  | assumption
  | (simp only [List.length_append, List.length_take, List.length_drop, List.length_cons, List.length_nil, List.length_singleton, List.length_map, List.length_range, Int.toNat_natCast] ; omega))
local macro_rules | `(tactic| walk_at "s") => `(tactic| first
  | (with_reducible refine i_seq ?_)
  | (with_reducible refine i_asg ?_)
  | ((with_reducible refine' i_var ?h1 ?_); (case h1 => rfl))
  | (with_reducible refine i_c ?_)
  | ((with_reducible refine' i_gname' ?h1 ?_); (case h1 => (simp only [List.set_cons_zero, List.set_cons_succ]; rfl)))
  | (with_reducible refine i_op ?_)
  | (with_reducible refine i_ifS ?_)
  | (with_reducible refine i_for ?_)
  | (with_reducible refine i_test ?_)
  | (with_reducible refine i_B ?_)
  | (with_reducible refine i_exbl ?_)
  | (with_reducible refine i_exint ?_)
  | (with_reducible refine i_cb ?_)
  | (with_reducible refine i_nil ?_)
  | (with_reducible refine i_cons ?_)
  | (with_reducible refine i_ret ?_)
  | (with_reducible refine i_sl ?_)
  | (with_reducible refine i_nopart ?_)
  | (with_reducible refine i_part ?_)
  | (with_reducible refine i_add_int ?_)
  | (with_reducible refine i_sub ?_)
  | (with_reducible refine i_lt ?_)
  | ((with_reducible refine' i_mod ?h1 ?_); (case h1 => walk_at "o"))
  | ((with_reducible refine' i_fdiv ?h1 ?_); (case h1 => (refine cdiv_small ?_ ?_ <;> walk_at "o")))
  | ((with_reducible refine' i_sl_to ?h1 ?h2 ?_); (case h1 => walk_at "o"); (case h2 => walk_at "o"))
  | ((with_reducible refine' i_sl_from ?h1 ?h2 ?_); (case h1 => walk_at "o"); (case h2 => walk_at "o"))
  | ((with_reducible refine' i_add_str ?h1 ?_); (case h1 => walk_at "o"))
  | ((with_reducible refine' i_mul_int ?h1 ?_); (case h1 => first | (refine mul_small ?_ ?_ <;> walk_at "o") | (refine mul_smallR ?_ ?_ <;> walk_at "o")))
  | (with_reducible refine i_le ?_)
  | (with_reducible refine i_gt ?_)
  | (with_reducible refine i_ge ?_)
  | (with_reducible refine i_eq_int ?_)
  | (with_reducible refine i_eq_str ?_)
  | (with_reducible refine i_ne_int ?_)
  | (with_reducible refine i_ne_str ?_)
  | (with_reducible refine i_eq_bl ?_)
  | (with_reducible refine i_ne_bl ?_)
  | (with_reducible refine i_in_sg ?_)
  | (with_reducible refine i_notIn_sg ?_)
  | (with_reducible refine i_call ?_)
  | (with_reducible refine i_callS ?_)
  | (with_reducible refine i_sp1 ?_)
  | (with_reducible refine i_sp2 ?_)
  | (with_reducible refine i_sp3 ?_)
  | (with_reducible refine i_sp4 ?_)
  | (with_reducible refine i_sp1' ?_)
  | (with_reducible refine i_sp2' ?_)
  | (with_reducible refine i_sp3' ?_)
  | ((with_reducible refine' i_ix_lst ?h1 ?h2 ?_); (case h1 => walk_at "sq"); (case h2 => first | exact atI_nat rfl | rfl))
  | ((with_reducible refine' i_ix_tup ?h1 ?h2 ?_); (case h1 => walk_at "st"); (case h2 => first | exact atI_nat rfl | rfl))
  | (with_reducible refine i_gsub ?_)
  | (with_reducible refine i_par ?_)
  | (with_reducible refine i_lstRg1 ?_)
  | (with_reducible refine i_app ?_)
  | (with_reducible refine i_par2 ?_)
  | ((with_reducible refine' i_aug ?h1 ?_); (case h1 => rfl))
  | (with_reducible refine i_ipI ?_)
  | ((with_reducible refine' i_gtup2 ?h1 ?_); (case h1 => walk_at "st"))
  | (with_reducible refine i_int_bl ?_)
  | (with_reducible refine i_raise ?_)
  | (with_reducible refine i_mkE ?_)
  | (with_reducible refine i_ex1 ?_)
  | (with_reducible refine i_and ?_)
  | (with_reducible refine i_or ?_)
  | (with_reducible refine i_not ?_)
  | (with_reducible refine i_tt ?_)
  | (with_reducible refine i_ff ?_)
  | (with_reducible refine i_nott ?_)
  | (with_reducible refine i_notf ?_)
  | (with_reducible refine i_andV ?_)
  | (with_reducible refine i_orV ?_)
  | (with_reducible refine i_notV ?_)
  | (with_reducible refine i_ifE ?_)
  | (with_reducible refine i_tup ?_)
  | (with_reducible refine i_lst ?_)
  | (with_reducible refine i_un ?_)
  | (with_reducible refine i_neg ?_)
  | (with_reducible refine i_chain ?_)
  | (with_reducible refine i_next ?_)
  | (with_reducible refine i_retN ?_)
  | (with_reducible refine i_drop ?_)
  | (with_reducible refine i_int_int ?_)
  | (with_reducible refine i_abs ?_)
  | (with_reducible refine i_m1c ?_)
  | (with_reducible refine i_is_non ?_)
  | (with_reducible refine i_is_int ?_)
  | (with_reducible refine i_is_bl ?_)
  | (with_reducible refine i_isn_bl ?_)
  | (with_reducible refine i_is_str ?_)
  | (with_reducible refine i_is_ref ?_)
  | (with_reducible refine i_isn_non ?_)
  | (with_reducible refine i_isn_int ?_)
  | (with_reducible refine i_isn_str ?_)
  | (with_reducible refine i_isn_ref ?_)
  | (with_reducible refine i_len_str ?h1 ?_; (case h1 => walk_at "o"))
  | (with_reducible refine i_isi_int_int ?_) | (with_reducible refine i_isi_int_bool ?_) | (with_reducible refine i_isi_int_str ?_) | (with_reducible refine i_isi_int_tuple ?_) | (with_reducible refine i_isi_int_list ?_)
  | (with_reducible refine i_isi_bl_int ?_) | (with_reducible refine i_isi_bl_bool ?_) | (with_reducible refine i_isi_bl_str ?_) | (with_reducible refine i_isi_bl_tuple ?_) | (with_reducible refine i_isi_bl_list ?_)
  | (with_reducible refine i_isi_str_int ?_) | (with_reducible refine i_isi_str_bool ?_) | (with_reducible refine i_isi_str_str ?_) | (with_reducible refine i_isi_str_tuple ?_) | (with_reducible refine i_isi_str_list ?_)
  | (with_reducible refine i_isi_non_int ?_) | (with_reducible refine i_isi_non_bool ?_) | (with_reducible refine i_isi_non_str ?_) | (with_reducible refine i_isi_non_tuple ?_) | (with_reducible refine i_isi_non_list ?_))
local macro_rules | `(tactic| walk_at "go") => `(tactic| (repeat' (walk_at "s")))
local macro_rules | `(tactic| walk_at "n") => `(tactic| simp only [wipe, List.map_cons, List.map_nil, List.set_cons_zero, List.set_cons_succ])
def bd (z : List Nat) (at_ : Nat) : Nat := at_ + ((z.drop at_).takeWhile fun c => decide (c ∈ DG)).length
theorem bd_step {z : List Nat} {m c : Nat} (h : z[m]? = some c) (hc : c ∈ DG) : bd z (m + 1) = bd z m := by
  obtain ⟨hl, rfl⟩ := List.getElem?_eq_some_iff.mp h
  unfold bd
  rw [List.drop_eq_getElem_cons hl, List.takeWhile_cons_of_pos (by simpa using hc), List.length_cons]
  omega
theorem bd_stop {z : List Nat} {m : Nat} (h : ∀ c, z[m]? = some c → c ∉ DG) : bd z m = m := by
  unfold bd
  by_cases hl : m < z.length
  · rw [List.drop_eq_getElem_cons hl, List.takeWhile_cons_of_neg (by simpa using h _ (List.getElem?_eq_getElem hl))]
    rfl
  · rw [List.drop_of_length_le (by omega)]
    rfl
theorem cutN_none (l : List Nat) (k : Int) : cutN l (some k) (some k) = [] := by
  unfold cutN
  have : HT.sIx l.length l.length (some k) = HT.sIx l.length 0 (some k) := rfl
  rw [this, Nat.sub_self, List.take_zero]
section
variable {P : Program} {w : World} {K : PySem.W.Frag} {mg : Str → Option Value} {base : Heap} {C_GlimError C_BadRound C_BadBeats C_BadText C_TooLong : Addr}
def p_behind_digits : P2 := fun x y H Q _ => ∃ (z : List Nat) (a : Nat), x = S z ∧ y = .int (a : Int) ∧ z.length ≤ 100000 ∧ a ≤ z.length ∧ Q (.int ((bd z a : Nat) : Int)) H
theorem ok_behind_digits (T : Txt K mg C_GlimError C_BadRound C_BadBeats C_BadText C_TooLong) : OK P w K mg base CX0 1 "behind_digits" ["text", "at"] (sp2  p_behind_digits) := by
  refine OK.mk (k := 0) T.d_behind_digits sc_behind_digits len2 fun f cdv A outer s H vs Q E hr h => ?_
  obtain ⟨x, y, rfl, h⟩ := h
  refine ⟨_, (pss_cons (ps_while PassesOwn.never (pw_and (pt_cmpR op_ltP (pv 1) (pe_callB (cLen K) (by rfl) T.b_len (by decide +kernel) (pa_cons (pv 0) pa_nil)) (nomark _)) (pw_and1 (pt_cmpR (opIn K) (pe_ix (ixK K) (pv 0) (pv 1) (fun _ _ => rfl)) (pe_gS [48, 49, 50, 51, 52, 53, 54, 55, 56, 57] T.g_DIGITS) (by with_unfolding_all rfl)))).pt (pss_one (ps_aug (i := 1) sc_behind_digits.nd rfl (Or.inl rfl) pe_int ip_add))) (pss_one (ps_ret (pv 1)))), ?_⟩
  show (_ : TS) { nx := fun _ H' => Q .non H', rt := Q } [some x, some y] H
  obtain ⟨z, a, rfl, rfl, hz, ha, q⟩ := h
  walk_at "go"
  refine i_while (fun m σ H' => ∃ n : Nat, σ = [some (S z), some (.int (n : Int))] ∧ H' = H ∧ n + m = z.length ∧ bd z n = bd z a) (z.length - a) ⟨a, rfl, rfl, by omega, rfl⟩ ?_
  rintro m σ H' ⟨n, rfl, rfl, hn, hb⟩
  walk_at "go"
  refine i_dec (fun e => ?_) (fun e => ?_)
  · walk_at "go"
    have hl : n < z.length := by omega
    refine i_ix_str (c := z[n]) hz (by omega) (by rw [Int.toNat_natCast]; exact List.getElem?_eq_getElem hl) ?_
    walk_at "go"
    refine i_dec (fun e => i_turn ?_) (fun e => ?_)
    · walk_at "go"
      exact ⟨m - 1, by omega, n + 1, rfl, rfl, by omega, by rw [bd_step (List.getElem?_eq_getElem hl) e, hb]⟩
    · walk_at "go"
      rw [← hb, bd_stop (fun c hc => by rw [List.getElem?_eq_getElem hl] at hc; cases hc; exact e)] at q
      exact q
  · walk_at "go"
    rw [← hb, bd_stop (fun c hc => by rw [List.getElem?_eq_none (by omega)] at hc; cases hc)] at q
    exact q
theorem sg_dg {c : Nat} (h : c ∈ SG) : c ∉ DG := by
  revert h
  simp only [List.mem_cons, List.not_mem_nil, or_false]
  omega
def p_item : P3 := fun x y u H Q _ => ∃ (z : List Nat) (a c : Nat) (o : Int), x = S z ∧ y = .int (a : Int) ∧ u = .int o ∧ z.length ≤ 100000 ∧ z[a]? = some c ∧ c ∈ SG ∧ ∀ p q H', Same H H' → H' q = some (Sv 1 [c]) → H' p = some (.tup [.ref q, .int (a + 1)]) → Q (.ref p) H'
theorem ok_read_item (T : Txt K mg C_GlimError C_BadRound C_BadBeats C_BadText C_TooLong) : OK P w K mg base (L2.CX P w) 2 "read_item" ["text", "at", "opened"] (sp3  p_item) := by
  refine OK.mkX (k := 1) T.d_read_item sc_read_item len3 fun f cdv A outer s H vs Q E hr h => ?_
  obtain ⟨x, y, z, rfl, h⟩ := h
  refine ⟨_, (pss_cons (ps_set (i := 3) sc_read_item.nd rfl (Or.inl rfl) (pv 1)) (pss_cons (ps_set (i := 1) sc_read_item.nd rfl (Or.inl rfl) (pe_f (ok_behind_digits (K := K) T) (hr.mono (by decide)) pass0 (pa_cons (pv 0) (pa_cons (pv 3) pa_nil)))) (pss_cons (ps_set (i := 4) sc_read_item.nd rfl (Or.inl rfl) (pe_slice (slK K) (pv 0) (po_some (pv 3)) (po_some (pv 1)))) (pss_cons (ps_if (pt_cmpR (opEq K hr.units) (pe_slice (slK K) (pv 4) po_none (po_some pe_int)) (pe_S [48]) (nomark _)) Fg.pss_never pss_nil) (pss_cons (ps_if (pw_or (pt_cmpR (opEq K hr.units) (pv 1) (pe_callB (cLen K) (by rfl) T.b_len (by decide +kernel) (pa_cons (pv 0) pa_nil)) (nomark _)) (pw_or1 (pw_and (pt_cmpR (opNotIn K) (pe_ix (ixK K) (pv 0) (pv 1) (fun _ _ => rfl)) (pe_gS [46, 103, 114, 119] T.g_SIGNS) (by with_unfolding_all rfl)) (pw_and1 (pt_cmpR (opNe K hr.units) (pe_ix (ixK K) (pv 0) (pv 1) (fun _ _ => rfl)) (pe_S [40]) (nomark _)))).pt)).pt Fg.pss_never pss_nil) (pss_cons (ps_if (pw_and (pt_cmpR (opNe K hr.units) (pv 4) (pe_S []) (nomark _)) (pw_and1 (pt_not (pt_val Fg.pe_never)))).pt Fg.pss_never pss_nil) (pss_cons (ps_set (i := 5) sc_read_item.nd rfl (Or.inl rfl) (pe_ifExp (pt_cmpR (opEq K hr.units) (pv 4) (pe_S []) (nomark _)) pe_int Fg.pe_never)) (pss_cons (ps_if (pt_cmpR (opNe K hr.units) (pe_ix (ixK K) (pv 0) (pv 1) (fun _ _ => rfl)) (pe_S [40]) (nomark _)) (pss_one (ps_ret (pe_tup (pa_cons (pe_f (ok_repeated (K := K) T) (hr.mono (by decide)) pass0 (pa_cons (pe_tup (pa_cons pe_int (pa_cons (pe_ix (ixK K) (pv 0) (pv 1) (fun _ _ => rfl)) pa_nil))) (pa_cons (pv 5) pa_nil))) (pa_cons (pe_op (opAdd K) (pv 1) pe_int) pa_nil))))) pss_nil) Fg.pss_never)))))))), ?_⟩
  show (_ : TS) { nx := fun _ H' => Q .non H', rt := Q } [some x, some y, some z, none, none, none, none] H
  obtain ⟨z, a, c, o, rfl, rfl, rfl, hz, hc, hs, q⟩ := h
  have hl := (List.getElem?_eq_some_iff.mp hc).1
  have ixc : ∀ {H : Hp} {Q : VK}, Q (S [c]) H → ixP K (S z) (.int (a : Int)) H Q := fun k => i_ix_str hz (by omega) (by rw [Int.toNat_natCast]; exact hc) k
  walk_at "go"
  refine ⟨z, a, rfl, rfl, hz, by omega, ?_⟩
  rw [bd_stop (fun c' hc' => by rw [hc] at hc'; cases hc'; exact sg_dg hs)]
  walk_at "go"
  refine i_sl_str hz ?_
  rw [cutN_none]
  walk_at "go"
  refine i_dec (fun e => by simp at e) (fun _ => ?_)
  walk_at "go"
  refine i_dec (fun e => by omega) (fun _ => ?_)
  walk_at "go"
  refine ixc ?_
  walk_at "go"
  refine i_decN (fun e => absurd hs e) (fun _ => ?_)
  walk_at "go"
  refine i_decN (fun e => absurd rfl e) (fun _ => ?_)
  walk_at "go"
  refine i_dec (fun _ => ?_) (fun e => absurd rfl e)
  walk_at "go"
  refine ixc ?_
  walk_at "go"
  have h40 : ([c] : List Nat) ≠ [40] := fun z => by rw [List.cons.inj z |>.1] at hs; revert hs; decide
  refine i_decN (fun _ => ?_) (fun e => absurd e h40)
  walk_at "go"
  refine ixc ?_
  walk_at "go"
  refine i_new (by show 2 ≤ 100000; omega) fun p1 n1 => ?_
  walk_at "go"
  refine ⟨p1, 1, [c], 1, rfl, rfl, upd_same, by omega, fun _ => rfl, by omega, by omega, fun p2 n2 => ?_⟩
  walk_at "go"
  refine i_new (by show 2 ≤ 100000; omega) fun p3 n3 => ?_
  have s2 : Same H (upd (upd H p1 (.tup [.int 1, S [c]])) p2 (Sv (1 * 1) (rpt 1 [c]))) := (same_upd n1).trans (same_upd n2)
  refine q p3 p2 _ (s2.trans (same_upd n3)) ?_ upd_same
  rw [upd_ne (fun e => by rw [← e, upd_same] at n3; cases n3), upd_same]
  rfl
def p_part : P3 := fun x y u H Q _ => ∃ (z r : List Nat) (a : Nat) (o : Int), x = S z ∧ y = .int (a : Int) ∧ u = .int o ∧ z.length ≤ 100000 ∧ IsRound r ∧ (∀ i < r.length, z[a + i]? = r[i]?) ∧ (∀ c, z[a + r.length]? = some c → c = 38) ∧
  ∀ p q H', Same H H' → H' q = some (Sv r.length r) → H' p = some (.tup [.ref q, .int ((a + r.length : Nat) : Int)]) → Q (.ref p) H'
theorem ok_read_part (T : Txt K mg C_GlimError C_BadRound C_BadBeats C_BadText C_TooLong) : OK P w K mg base (L2.CX P w) 3 "read_part" ["text", "at", "opened"] (sp3  p_part) := by
  refine OK.mkX (k := 2) T.d_read_part sc_read_part len3 fun f cdv A outer s H vs Q E hr h => ?_
  obtain ⟨x, y, z, rfl, h⟩ := h
  refine ⟨_, (pss_cons (ps_set (i := 3) sc_read_part.nd rfl (Or.inl rfl) (pe_tup (pa_cons pe_int (pa_cons (pe_S []) pa_nil)))) (pss_cons (ps_while (passes_of rfl) (pw_and (pt_cmpR op_ltP (pv 1) (pe_callB (cLen K) (by rfl) T.b_len (by decide +kernel) (pa_cons (pv 0) pa_nil)) (nomark _)) (pw_and1 (pw_or (pt_cmpR (opIn K) (pe_ix (ixK K) (pv 0) (pv 1) (fun _ _ => rfl)) (pe_gS [46, 103, 114, 119] T.g_SIGNS) (by with_unfolding_all rfl)) (pw_or1 (pt_cmpR (opIn K) (pe_ix (ixK K) (pv 0) (pv 1) (fun _ _ => rfl)) (pe_gS [48, 49, 50, 51, 52, 53, 54, 55, 56, 57] T.g_DIGITS) (by with_unfolding_all rfl)))).pt)).pt (pss_cons (ps_asg (pe_f (ok_read_item (K := K) T) (hr.mono (by decide)) (passes_call (takes_of rfl rfl rfl rfl) (fun _ _ _ _ h => h)) (pa_cons (pv 0) (pa_cons (pv 1) (pa_cons (pv 2) pa_nil)))) (pgTup (n := 2) K rfl (pgs_cons (pg_name (i := 4) sc_read_part.nd rfl (Or.inl rfl)) (pgs_cons (pg_name (i := 1) sc_read_part.nd rfl (Or.inl rfl)) pgs_nil)))) (pss_one (ps_set (i := 3) sc_read_part.nd rfl (Or.inl rfl) (pe_f (ok_put_behind (K := K) T) (hr.mono (by decide)) pass0 (pa_cons (pv 3) (pa_cons (pv 4) pa_nil))))))) (pss_cons (ps_if (pt_cmpR (opEq K hr.units) (pe_ix (ixK K) (pv 3) pe_int (fun _ _ => rfl)) pe_int (nomark _)) Fg.pss_never pss_nil) (pss_cons (ps_if (pw_and (pt_cmpR op_ltP (pv 1) (pe_callB (cLen K) (by rfl) T.b_len (by decide +kernel) (pa_cons (pv 0) pa_nil)) (nomark _)) (pw_and1 (pt_cmpR (opEq K hr.units) (pe_ix (ixK K) (pv 0) (pv 1) (fun _ _ => rfl)) (pe_S [64]) (nomark _)))).pt Fg.pss_never pss_nil) (pss_one (ps_ret (pe_tup (pa_cons (pv 3) (pa_cons (pv 1) pa_nil))))))))), ?_⟩
  show (_ : TS) { nx := fun _ H' => Q .non H', rt := Q } [some x, some y, some z, none, none] H
  obtain ⟨z, r, a, o, rfl, rfl, rfl, hz, ⟨r1, r2, r3⟩, hr, hend, q⟩ := h
  walk_at "go"
  refine i_new (by show 2 ≤ 100000; omega) fun p0 n0 => ?_
  walk_at "go"
  have hlz : a + r.length ≤ z.length := by
    have h := hr (r.length - 1) (by omega)
    rw [List.getElem?_eq_getElem (show r.length - 1 < r.length by omega)] at h
    have := (List.getElem?_eq_some_iff.mp h).1
    omega
  refine i_while (fun m σ H' => ∃ (k : Nat) (pq : Addr) (v : Option V), σ = [some (S z), some (.int ((a + k : Nat) : Int)), some (.int o), some (.ref pq), v] ∧ k + m = r.length ∧ Same H H' ∧ H' pq = some (Sv k (r.take k))) r.length ⟨0, p0, _, rfl, by omega, same_upd n0, upd_same⟩ ?_
  rintro m σ H' ⟨k, pq, v, rfl, hk, s1, hp⟩
  walk_at "go"
  by_cases hm : k < r.length
  · have hg : r[k]? = some r[k] := List.getElem?_eq_getElem hm
    have hgz : z[a + k]? = some r[k] := by rw [hr k hm, hg]
    have hsg := r3 _ (List.mem_of_getElem? hg)
    have e2 : r.take (k + 1) = r.take k ++ [r[k]] := by rw [List.take_succ, hg]; rfl
    generalize r[k] = c at *
    refine i_dec (fun _ => ?_) (fun e => absurd (by omega) e)
    walk_at "go"
    refine i_ix_str (c := c) hz (by omega) (by rw [Int.toNat_natCast]; exact hgz) ?_
    walk_at "go"
    refine i_dec (fun _ => ?_) (fun e => absurd hsg e)
    walk_at "go"
    refine i_turn ?_
    walk_at "go"
    refine ⟨z, a + k, c, o, rfl, rfl, rfl, hz, hgz, hsg, fun p q2 H2 s2 h2 h3 => ?_⟩
    walk_at "go"
    refine ⟨pq, q2, k, 1, r.take k, [c], rfl, rfl, s2 _ _ hp, h2, fun _ => by rw [List.length_take]; omega, fun _ => rfl, fun p4 n4 => ?_⟩
    walk_at "go"
    refine ⟨m - 1, by omega, k + 1, p4, _, rfl, by omega, (s1.trans s2).trans (same_upd n4), ?_⟩
    rw [upd_same, e2]
  · have ek : k = r.length := by omega
    subst ek
    have out : ∀ H', Same H H' → H' pq = some (Sv r.length r) → (∀ p4, H' p4 = none → Q (.ref p4) (upd H' p4 (.tup [.ref pq, .int ((a + r.length : Nat) : Int)]))) := fun H2 s2 h2 p4 n4 =>
      q p4 pq _ (s2.trans (same_upd n4)) ((upd_ne (ne_of_none h2 n4)).trans h2) upd_same
    rw [List.take_length] at hp
    have key : ∀ (R : Bool → Hp → Prop), (R false H') → True := fun _ _ => True.intro
    refine i_dec (fun e => ?_) (fun e => ?_)
    · have hl : a + r.length < z.length := by omega
      have h38 := hend _ (List.getElem?_eq_getElem hl)
      walk_at "go"
      refine i_ix_str (c := z[a + r.length]) hz (by omega) (by rw [Int.toNat_natCast]; exact List.getElem?_eq_getElem hl) ?_
      rw [h38]
      walk_at "go"
      refine i_dec (fun e => absurd e (by decide)) (fun _ => ?_)
      walk_at "go"
      refine i_ix_str (c := z[a + r.length]) hz (by omega) (by rw [Int.toNat_natCast]; exact List.getElem?_eq_getElem hl) ?_
      rw [h38]
      walk_at "go"
      refine i_dec (fun e => absurd e (by decide)) (fun _ => ?_)
      walk_at "go"
      refine i_dec (fun e => absurd e (by omega)) (fun _ => ?_)
      walk_at "go"
      refine i_dec (fun _ => ?_) (fun e' => absurd e e')
      walk_at "go"
      refine i_ix_str (c := z[a + r.length]) hz (by omega) (by rw [Int.toNat_natCast]; exact List.getElem?_eq_getElem hl) ?_
      rw [h38]
      walk_at "go"
      refine i_dec (fun e => absurd e (by decide)) (fun _ => ?_)
      walk_at "go"
      refine i_new (by show 2 ≤ 100000; omega) fun p4 n4 => ?_
      exact out _ s1 hp p4 n4
    · walk_at "go"
      refine i_dec (fun e => absurd e (by omega)) (fun _ => ?_)
      walk_at "go"
      refine i_dec (fun e' => absurd e' e) (fun _ => ?_)
      walk_at "go"
      refine i_new (by show 2 ≤ 100000; omega) fun p4 n4 => ?_
      exact out _ s1 hp p4 n4
end
end K08
namespace K08
open PySem PySem.Spec PyProof.Rows L2 Fg
local macro_rules | `(tactic| walk_at "sq") => `(tactic| first
  | assumption
  | exact .inl (.inl (by assumption))
  | exact .inl (.inl upd_same))
local macro_rules | `(tactic| walk_at "st") => `(tactic| first
  | assumption
  | exact .inl (.inl (by assumption))
  | exact .inl (.inl upd_same))
local macro_rules | `(tactic| walk_at "o") => `(tactic| first
  | omega
  | assumption
  | (simp only [List.length_append, List.length_take, List.length_drop, List.length_cons, List.length_nil, List.length_singleton, List.length_map, List.length_range, Int.toNat_natCast] ; omega))
local macro_rules | `(tactic| walk_at "s") => `(tactic| first
  | (with_reducible refine i_seq ?_)
  | (with_reducible refine i_asg ?_)
  | ((with_reducible refine' i_var ?h1 ?_); (case h1 => rfl))
  | (with_reducible refine i_c ?_)
  | ((with_reducible refine' i_gname' ?h1 ?_); (case h1 => (simp only [List.set_cons_zero, List.set_cons_succ]; rfl)))
  | (with_reducible refine i_op ?_)
  | (with_reducible refine i_ifS ?_)
  | (with_reducible refine i_for ?_)
  | (with_reducible refine i_test ?_)
  | (with_reducible refine i_B ?_)
  | (with_reducible refine i_exbl ?_)
  | (with_reducible refine i_exint ?_)
  | (with_reducible refine i_cb ?_)
  | (with_reducible refine i_nil ?_)
  | (with_reducible refine i_cons ?_)
  | (with_reducible refine i_ret ?_)
  | (with_reducible refine i_sl ?_)
  | (with_reducible refine i_nopart ?_)
  | (with_reducible refine i_part ?_)
  | (with_reducible refine i_add_int ?_)
  | (with_reducible refine i_sub ?_)
  | (with_reducible refine i_lt ?_)
  | ((with_reducible refine' i_mod ?h1 ?_); (case h1 => walk_at "o"))
  | ((with_reducible refine' i_fdiv ?h1 ?_); (case h1 => (refine cdiv_small ?_ ?_ <;> walk_at "o")))
  | ((with_reducible refine' i_sl_to ?h1 ?h2 ?_); (case h1 => walk_at "o"); (case h2 => walk_at "o"))
  | ((with_reducible refine' i_sl_from ?h1 ?h2 ?_); (case h1 => walk_at "o"); (case h2 => walk_at "o"))
  | ((with_reducible refine' i_add_str ?h1 ?_); (case h1 => walk_at "o"))
  | ((with_reducible refine' i_mul_int ?h1 ?_); (case h1 => first | (refine mul_small ?_ ?_ <;> walk_at "o") | (refine mul_smallR ?_ ?_ <;> walk_at "o")))
  | (with_reducible refine i_le ?_)
  | (with_reducible refine i_gt ?_)
  | (with_reducible refine i_ge ?_)
  | (with_reducible refine i_eq_int ?_)
  | (with_reducible refine i_eq_str ?_)
  | (with_reducible refine i_ne_int ?_)
  | (with_reducible refine i_ne_str ?_)
  | (with_reducible refine i_eq_bl ?_)
  | (with_reducible refine i_ne_bl ?_)
  | (with_reducible refine i_in_sg ?_)
  | (with_reducible refine i_notIn_sg ?_)
  | (with_reducible refine i_call ?_)
  | (with_reducible refine i_callS ?_)
  | (with_reducible refine i_sp1 ?_)
  | (with_reducible refine i_sp2 ?_)
  | (with_reducible refine i_sp3 ?_)
  | (with_reducible refine i_sp4 ?_)
  | (with_reducible refine i_sp1' ?_)
  | (with_reducible refine i_sp2' ?_)
  | (with_reducible refine i_sp3' ?_)
  | ((with_reducible refine' i_ix_lst ?h1 ?h2 ?_); (case h1 => walk_at "sq"); (case h2 => first | exact atI_nat rfl | rfl))
  | ((with_reducible refine' i_ix_tup ?h1 ?h2 ?_); (case h1 => walk_at "st"); (case h2 => first | exact atI_nat rfl | rfl))
  | (with_reducible refine i_gsub ?_)
  | (with_reducible refine i_par ?_)
  | (with_reducible refine i_lstRg1 ?_)
  | (with_reducible refine i_app ?_)
  | (with_reducible refine i_par2 ?_)
  | ((with_reducible refine' i_aug ?h1 ?_); (case h1 => rfl))
  | (with_reducible refine i_ipI ?_)
  | ((with_reducible refine' i_gtup2 ?h1 ?_); (case h1 => walk_at "st"))
  | (with_reducible refine i_int_bl ?_)
  | (with_reducible refine i_raise ?_)
  | (with_reducible refine i_mkE ?_)
  | (with_reducible refine i_ex1 ?_)
  | (with_reducible refine i_and ?_)
  | (with_reducible refine i_or ?_)
  | (with_reducible refine i_not ?_)
  | (with_reducible refine i_tt ?_)
  | (with_reducible refine i_ff ?_)
  | (with_reducible refine i_nott ?_)
  | (with_reducible refine i_notf ?_)
  | (with_reducible refine i_andV ?_)
  | (with_reducible refine i_orV ?_)
  | (with_reducible refine i_notV ?_)
  | (with_reducible refine i_ifE ?_)
  | (with_reducible refine i_tup ?_)
  | (with_reducible refine i_lst ?_)
  | (with_reducible refine i_un ?_)
  | (with_reducible refine i_neg ?_)
  | (with_reducible refine i_chain ?_)
  | (with_reducible refine i_next ?_)
  | (with_reducible refine i_retN ?_)
  | (with_reducible refine i_drop ?_)
  | (with_reducible refine i_int_int ?_)
  | (with_reducible refine i_abs ?_)
  | (with_reducible refine i_m1c ?_)
  | (with_reducible refine i_is_non ?_)
  | (with_reducible refine i_is_int ?_)
  | (with_reducible refine i_is_bl ?_)
  | (with_reducible refine i_isn_bl ?_)
  | (with_reducible refine i_is_str ?_)
  | (with_reducible refine i_is_ref ?_)
  | (with_reducible refine i_isn_non ?_)
  | (with_reducible refine i_isn_int ?_)
  | (with_reducible refine i_isn_str ?_)
  | (with_reducible refine i_isn_ref ?_)
  | (with_reducible refine i_len_str ?h1 ?_; (case h1 => walk_at "o"))
  | (with_reducible refine i_isi_int_int ?_) | (with_reducible refine i_isi_int_bool ?_) | (with_reducible refine i_isi_int_str ?_) | (with_reducible refine i_isi_int_tuple ?_) | (with_reducible refine i_isi_int_list ?_)
  | (with_reducible refine i_isi_bl_int ?_) | (with_reducible refine i_isi_bl_bool ?_) | (with_reducible refine i_isi_bl_str ?_) | (with_reducible refine i_isi_bl_tuple ?_) | (with_reducible refine i_isi_bl_list ?_)
  | (with_reducible refine i_isi_str_int ?_) | (with_reducible refine i_isi_str_bool ?_) | (with_reducible refine i_isi_str_str ?_) | (with_reducible refine i_isi_str_tuple ?_) | (with_reducible refine i_isi_str_list ?_)
  | (with_reducible refine i_isi_non_int ?_) | (with_reducible refine i_isi_non_bool ?_) | (with_reducible refine i_isi_non_str ?_) | (with_reducible refine i_isi_non_tuple ?_) | (with_reducible refine i_isi_non_list ?_))
local macro_rules | `(tactic| walk_at "go") => `(tactic| (repeat' (walk_at "s")))
local macro_rules | `(tactic| walk_at "n") => `(tactic| simp only [wipe, List.map_cons, List.map_nil, List.set_cons_zero, List.set_cons_succ])
theorem IsRound.part {l : List Nat} (h : IsRound l) : PartOk (l.length, l) := ⟨h.1, by have := h.2.1; show l.length ≤ 1000000; omega, fun _ => rfl⟩
theorem lcm24 {a b : Nat} (ha : 1 ≤ a) (hb : 1 ≤ b) (ha2 : a ≤ 24) (hb2 : b ≤ 24) : 1 ≤ Nat.lcm a b ∧ Nat.lcm a b ≤ 576 := by
  refine ⟨Nat.lcm_pos ha hb, Nat.le_trans (Nat.le_of_dvd (Nat.mul_pos ha hb) (Nat.lcm_dvd_mul a b)) ?_⟩
  exact Nat.mul_le_mul ha2 hb2
def zz (l m : List Nat) : List Nat := l ++ [38] ++ m
theorem zz_len (l m : List Nat) : (zz l m).length = l.length + 1 + m.length := by
  simp [zz]
  omega
theorem zz_l {l m : List Nat} {i : Nat} (h : i < l.length) : (zz l m)[0 + i]? = l[i]? := by
  unfold zz
  rw [Nat.zero_add, List.append_assoc, List.getElem?_append_left h]
theorem zz_m {l m : List Nat} : (zz l m)[l.length]? = some 38 := by
  unfold zz
  rw [List.append_assoc, List.getElem?_append_right (Nat.le_refl _), Nat.sub_self]
  rfl
theorem zz_r {l m : List Nat} {i : Nat} : (zz l m)[l.length + 1 + i]? = m[i]? := by
  unfold zz
  rw [List.getElem?_append_right (by simp)]
  congr 1
  simp
section
variable {P : Program} {w : World} {K : PySem.W.Frag} {mg : Str → Option Value} {base : Heap} {C_GlimError C_BadRound C_BadBeats C_BadText C_TooLong : Addr}
def p_parts : P3 := fun x y u H Q _ => ∃ (l m : List Nat) (o : Int), x = S (zz l m) ∧ y = .int 0 ∧ u = .int o ∧ IsRound l ∧ IsRound m ∧
  ∀ p q H', Same H H' → H' q = some (Sv (Nat.lcm l.length m.length) (over l m)) → H' p = some (.tup [.ref q, .int ((zz l m).length : Nat)]) → Q (.ref p) H'
theorem ok_read_parts (T : Txt K mg C_GlimError C_BadRound C_BadBeats C_BadText C_TooLong) : OK P w K mg base (L2.CX P w) 4 "read_parts" ["text", "at", "opened"] (sp3  p_parts) := by
  refine OK.mkX (k := 3) T.d_read_parts sc_read_parts len3 fun f cdv A outer s H vs Q E hr h => ?_
  obtain ⟨x, y, z, rfl, h⟩ := h
  refine ⟨_, (pss_cons (ps_asg (pe_f (ok_read_part (K := K) T) (hr.mono (by decide)) (passes_call (takes_of rfl rfl rfl rfl) (fun _ _ _ _ h => h)) (pa_cons (pv 0) (pa_cons (pv 1) (pa_cons (pv 2) pa_nil)))) (pgTup (n := 2) K rfl (pgs_cons (pg_name (i := 3) sc_read_parts.nd rfl (Or.inl rfl)) (pgs_cons (pg_name (i := 1) sc_read_parts.nd rfl (Or.inl rfl)) pgs_nil)))) (pss_cons (ps_set (i := 4) sc_read_parts.nd rfl (Or.inl rfl) (pe_lst (pa_cons (pv 3) pa_nil))) (pss_cons (ps_while (passes_of rfl) (pw_and (pt_cmpR op_ltP (pv 1) (pe_callB (cLen K) (by rfl) T.b_len (by decide +kernel) (pa_cons (pv 0) pa_nil)) (nomark _)) (pw_and1 (pt_cmpR (opEq K hr.units) (pe_ix (ixK K) (pv 0) (pv 1) (fun _ _ => rfl)) (pe_S [38]) (nomark _)))).pt (pss_cons (ps_asg (pe_f (ok_read_part (K := K) T) (hr.mono (by decide)) (passes_call (takes_of rfl rfl rfl rfl) (fun _ _ _ _ h => h)) (pa_cons (pv 0) (pa_cons (pe_op (opAdd K) (pv 1) pe_int) (pa_cons (pv 2) pa_nil)))) (pgTup (n := 2) K rfl (pgs_cons (pg_name (i := 3) sc_read_parts.nd rfl (Or.inl rfl)) (pgs_cons (pg_name (i := 1) sc_read_parts.nd rfl (Or.inl rfl)) pgs_nil)))) (pss_one (ps_expr (peApp K (pv 4) (pa_cons (pv 3) pa_nil)))))) (pss_one (ps_ret (pe_tup (pa_cons (pe_f (ok_shown_together (K := K) T) (hr.mono (by decide)) pass0 (pa_cons (pv 4) pa_nil)) (pa_cons (pv 1) pa_nil)))))))), ?_⟩
  show (_ : TS) { nx := fun _ H' => Q .non H', rt := Q } [some x, some y, some z, none, none] H
  obtain ⟨l, m, o, rfl, rfl, rfl, hl, hm, q⟩ := h
  have l1 := hl.1
  have l2 := hl.2.1
  have m1 := hm.1
  have m2 := hm.2.1
  have hzl := zz_len l m
  walk_at "go"
  refine ⟨zz l m, l, 0, o, rfl, rfl, rfl, by omega, hl, fun i hi => zz_l hi, fun c hc => by rw [Nat.zero_add, zz_m] at hc; exact (Option.some.inj hc).symm, fun p q1 H1 s1 h1 h2 => ?_⟩
  walk_at "go"
  refine i_new (by show 1 ≤ 100000; omega) fun Dl nD => ?_
  walk_at "go"
  have nD0 := s1.free nD
  have ne1 : q1 ≠ Dl := ne_of_none h1 nD
  refine i_while (fun k σ H' => ∃ (n : Int) (pa : Addr), σ = [some (S (zz l m)), some (.int n), some (.int o), some (.ref pa), some (.ref Dl)] ∧ Same H H' ∧ H' q1 = some (Sv l.length l) ∧
    ((k = 1 ∧ n = (l.length : Nat) ∧ H' Dl = some (.lst [.ref q1])) ∨ (k = 0 ∧ n = ((zz l m).length : Nat) ∧ ∃ q2, H' q2 = some (Sv m.length m) ∧ H' Dl = some (.lst [.ref q1, .ref q2])))) 1
    ⟨_, q1, rfl, Same.upd s1 nD0, (upd_ne ne1).trans h1, .inl ⟨rfl, by omega, upd_same⟩⟩ ?_
  rintro k σ H2 ⟨n, pa, rfl, s2, e1, ⟨rfl, rfl, eD⟩ | ⟨rfl, rfl, q2, e2, eD⟩⟩
  · walk_at "go"
    refine i_dec (fun _ => ?_) (fun e => absurd (by omega) e)
    walk_at "go"
    refine i_ix_str (c := 38) (by omega) (by omega) (by rw [Int.toNat_natCast]; exact zz_m) ?_
    walk_at "go"
    refine i_dec (fun _ => i_turn ?_) (fun e => absurd rfl e)
    walk_at "go"
    refine ⟨zz l m, m, l.length + 1, o, rfl, by rw [Int.natCast_add]; rfl, rfl, by omega, hm, fun i hi => zz_r, fun c hc => ?_, fun p q2 H3 s3 h3 h4 => ?_⟩
    · rw [List.getElem?_eq_none (by omega)] at hc; cases hc
    walk_at "go"
    have eD3 := s3 _ _ eD
    have ne2 : q2 ≠ Dl := fun e => by rw [e, eD3] at h3; cases h3
    refine i_appAt eD3 ?_
    walk_at "go"
    refine i_appEnd eD3 (by show 1 < 100000; omega) ?_
    walk_at "go"
    refine ⟨0, by omega, _, q2, rfl, Same.upd (s2.trans s3) nD0, (upd_ne ne1).trans (s3 _ _ e1), .inr ⟨rfl, by omega, q2, (upd_ne ne2).trans h3, upd_same⟩⟩
  · walk_at "go"
    refine i_dec (fun e => absurd e (by omega)) (fun _ => ?_)
    walk_at "go"
    have h24 := lcm24 l1 m1 l2 m2
    refine ⟨Dl, [q1, q2], [(l.length, l), (m.length, m)], rfl, .inl (.inl eD), ⟨rfl, ?_⟩, by show 2 ≤ 100; omega, ?_, ?_, fun p H3 s3 h3 => ?_⟩
    · intro i qa pp h1 h2
      match i, h1, h2 with
      | 0, h1, h2 => cases h1; cases h2; exact e1
      | 1, h1, h2 => cases h1; cases h2; exact e2
    · intro pp hp
      rcases List.mem_cons.mp hp with rfl | hp
      · exact hl.part
      · rw [List.mem_singleton.mp hp]; exact hm.part
    · intro i
      match i with
      | 0 => show 1 ≤ _; decide
      | 1 => show Nat.lcm 1 l.length ≤ _; rw [show Nat.lcm 1 l.length = l.length by simp [Nat.lcm]]; omega
      | i + 2 => 
        rw [List.take_of_length_le (by show 2 ≤ i + 2; omega), lcmL_two]; omega
    · rw [lcmL_two, show_two l1 m1] at h3
      walk_at "go"
      refine i_new (by show 2 ≤ 100000; omega) fun p4 n4 => ?_
      exact q p4 p _ ((s2.trans s3).trans (same_upd n4)) ((upd_ne (ne_of_none h3 n4)).trans h3) upd_same
/-- the reader at two rounds -/
def p_read (C : Addr) : P1 := fun x H Q E => ∃ (l m : List Nat), x = S (zz l m) ∧ IsRound l ∧ IsRound m ∧ (Nat.lcm l.length m.length ≤ 24 → ∀ H', Same H H' → Q (S (over l m)) H') ∧
  (24 < Nat.lcm l.length m.length → Rz E H C "number" (.int ((Nat.lcm l.length m.length : Nat) : Int)))
theorem ok_read_round (T : Txt K mg C_GlimError C_BadRound C_BadBeats C_BadText C_TooLong) : OK P w K mg base (L2.CX P w) 5 "read_round" ["text"] (sp1  (p_read C_TooLong)) := by
  refine OK.mkX (k := 4) T.d_read_round sc_read_round len1 fun f cdv A outer s H vs Q E hr h => ?_
  obtain ⟨x, rfl, h⟩ := h
  refine ⟨_, (pss_cons (ps_if (pt_not (pt_val (pe_callB (cIsi K) (by rfl) T.b_isinstance (by decide +kernel) (pa_cons (pv 0) (pa_cons (pe_bltn (v := .ty "str") (by rfl) T.b_str (by decide +kernel) rfl) pa_nil))))) Fg.pss_never pss_nil) (pss_cons (ps_asg (pe_f (ok_read_parts (K := K) T) (hr.mono (by decide)) (passes_call (takes_of rfl rfl rfl rfl) (fun _ _ _ _ h => h)) (pa_cons (pv 0) (pa_cons pe_int (pa_cons pe_int pa_nil)))) (pgTup (n := 2) K rfl (pgs_cons (pg_name (i := 1) sc_read_round.nd rfl (Or.inl rfl)) (pgs_cons (pg_name (i := 2) sc_read_round.nd rfl (Or.inl rfl)) pgs_nil)))) (pss_cons (ps_if (pt_cmpR op_ltP (pv 2) (pe_callB (cLen K) (by rfl) T.b_len (by decide +kernel) (pa_cons (pv 0) pa_nil)) (nomark _)) Fg.pss_never pss_nil) (pss_cons (ps_if (pt_cmpR op_gtP (pe_ix (ixK K) (pv 1) pe_int (fun _ _ => rfl)) (pe_gI 24 T.g_MOST_ROUND) (nomark _)) (pss_one (ps_raiseP rfl (takes_of rfl rfl rfl rfl) (pmk_E (k := 0) (okx_TooLong T) (hr.mono (by decide)) (pa_cons (pe_ix (ixK K) (pv 1) pe_int (fun _ _ => rfl)) pa_nil)))) pss_nil) (pss_one (ps_ret (pe_ix (ixK K) (pv 1) pe_int (fun _ _ => rfl)))))))), ?_⟩
  show (_ : TS) { nx := fun _ H' => Q .non H', rt := Q } [some x, none, none] H
  obtain ⟨l, m, rfl, hl, hm, q, z⟩ := h
  walk_at "go"
  refine ⟨l, m, 0, rfl, rfl, rfl, hl, hm, fun p q1 H1 s1 h1 h2 => ?_⟩
  have l2 := hl.2.1
  have m2 := hm.2.1
  have hzl := zz_len l m
  unfold Sv at h1
  generalize Nat.lcm l.length m.length = n at *
  walk_at "go"
  refine i_dec (fun e => absurd e (by omega)) (fun _ => ?_)
  walk_at "go"
  refine i_dec (fun e => ?_) (fun e => ?_)
  · walk_at "go"
    intro d nd
    exact ((z (by omega)).mono s1).at nd
  · walk_at "go"
    rw [if_pos (by omega)]
    exact q (by omega) H1 s1
def p_two (C : Addr) (R : List Nat → List Nat → Hp → VK → XK → Prop) : P2 := fun x y H Q E => (∃ l1, x = S l1 ∧ IsRound l1 ∧ ((∃ l2, y = S l2 ∧ IsRound l2 ∧ R l1 l2 H Q E) ∨ BadX C H y E)) ∨ BadX C H x E
def r_alike : List Nat → List Nat → Hp → VK → XK → Prop := fun l1 l2 H Q _ => ∀ r1 r2 H', IsShort l1 r1 → IsShort l2 r2 → Same H H' → Q (.bl (decide (r1 = r2))) H'
theorem ok_alike (T : Txt K mg C_GlimError C_BadRound C_BadBeats C_BadText C_TooLong) : OK P w K mg base (L2.CX P w) 4 "alike" ["first", "second"] (sp2  (p_two C_BadRound r_alike)) := by
  refine OK.mkX (k := 3) T.d_alike sc_alike len2 fun f cdv A outer s H vs Q E hr h => ?_
  obtain ⟨x, y, rfl, h⟩ := h
  refine ⟨_, (pss_cons (ps_expr (pe_f (ok_check_round (K := K) T) (hr.mono (by decide)) (passes_call (takes_of rfl rfl rfl rfl) (fun _ _ _ _ h => h)) (pa_cons (pv 0) pa_nil))) (pss_cons (ps_expr (pe_f (ok_check_round (K := K) T) (hr.mono (by decide)) (passes_call (takes_of rfl rfl rfl rfl) (fun _ _ _ _ h => h)) (pa_cons (pv 1) pa_nil))) (pss_one (ps_ret (pe_cmpR (opEq K hr.units) (pe_f (ok_shortest (K := K) T) (hr.mono (by decide)) pass0 (pa_cons (pv 0) pa_nil)) (pe_f (ok_shortest (K := K) T) (hr.mono (by decide)) pass0 (pa_cons (pv 1) pa_nil)) (nomark _)))))), ?_⟩
  show (_ : TS) { nx := fun _ H' => Q .non H', rt := Q } [some x, some y] H
  rcases h with ⟨l1, rfl, hl1, ⟨l2, rfl, hl2, q⟩ | h⟩ | h
  · walk_at "go"
    refine .inl ⟨l1, rfl, hl1, fun H1 s1 => ?_⟩
    walk_at "go"
    refine .inl ⟨l2, rfl, hl2, fun H2 s2 => ?_⟩
    walk_at "go"
    refine ⟨l1, rfl, hl1.1, by have := hl1.2.1; omega, fun r1 hr1 => ?_⟩
    walk_at "go"
    refine ⟨l2, rfl, hl2.1, by have := hl2.2.1; omega, fun r2 hr2 => ?_⟩
    walk_at "go"
    exact q r1 r2 H2 hr1 hr2 (s1.trans s2)
  · walk_at "go"
    refine .inl ⟨l1, rfl, hl1, fun H1 s1 => ?_⟩
    walk_at "go"
    exact .inr (h.mono s1)
  · walk_at "go"
    exact .inr h
def r_over (C : Addr) : List Nat → List Nat → Hp → VK → XK → Prop := fun l m H Q E => (Nat.lcm l.length m.length ≤ 24 → ∀ H', Same H H' → Q (S (over l m)) H') ∧
  (24 < Nat.lcm l.length m.length → Rz E H C "number" (.int ((Nat.lcm l.length m.length : Nat) : Int)))
theorem ok_laid_over (T : Txt K mg C_GlimError C_BadRound C_BadBeats C_BadText C_TooLong) : OK P w K mg base (L2.CX P w) 6 "laid_over" ["first", "second"] (sp2  (p_two C_BadRound (r_over C_TooLong))) := by
  refine OK.mkX (k := 5) T.d_laid_over sc_laid_over len2 fun f cdv A outer s H vs Q E hr h => ?_
  obtain ⟨x, y, rfl, h⟩ := h
  refine ⟨_, (pss_cons (ps_expr (pe_f (ok_check_round (K := K) T) (hr.mono (by decide)) (passes_call (takes_of rfl rfl rfl rfl) (fun _ _ _ _ h => h)) (pa_cons (pv 0) pa_nil))) (pss_cons (ps_expr (pe_f (ok_check_round (K := K) T) (hr.mono (by decide)) (passes_call (takes_of rfl rfl rfl rfl) (fun _ _ _ _ h => h)) (pa_cons (pv 1) pa_nil))) (pss_one (ps_ret (pe_f (ok_read_round (K := K) T) (hr.mono (by decide)) (passes_call (takes_of rfl rfl rfl rfl) (fun _ _ _ _ h => h)) (pa_cons (pe_op (opAdd K) (pe_op (opAdd K) (pv 0) (pe_S [38])) (pv 1)) pa_nil)))))), ?_⟩
  show (_ : TS) { nx := fun _ H' => Q .non H', rt := Q } [some x, some y] H
  rcases h with ⟨l1, rfl, hl1, ⟨l2, rfl, hl2, q, z⟩ | h⟩ | h
  · have a2 := hl1.2.1
    have b2 := hl2.2.1
    walk_at "go"
    refine .inl ⟨l1, rfl, hl1, fun H1 s1 => ?_⟩
    walk_at "go"
    refine .inl ⟨l2, rfl, hl2, fun H2 s2 => ?_⟩
    walk_at "go"
    exact ⟨l1, l2, rfl, hl1, hl2, fun e H3 s3 => q e H3 ((s1.trans s2).trans s3), fun e => (z e).mono (s1.trans s2)⟩
  · walk_at "go"
    refine .inl ⟨l1, rfl, hl1, fun H1 s1 => ?_⟩
    walk_at "go"
    exact .inr (h.mono s1)
  · walk_at "go"
    exact .inr h
def r_part : List Nat → List Nat → Hp → VK → XK → Prop := fun l1 l2 H Q _ => ∀ o H', IsPart l1 l2 o → Same H H' → Q (oV o) H'
theorem ok_parting (T : Txt K mg C_GlimError C_BadRound C_BadBeats C_BadText C_TooLong) : OK P w K mg base (L2.CX P w) 4 "parting" ["first", "second"] (sp2  (p_two C_BadRound r_part)) := by
  refine OK.mkX (k := 3) T.d_parting sc_parting len2 fun f cdv A outer s H vs Q E hr h => ?_
  obtain ⟨x, y, rfl, h⟩ := h
  refine ⟨_, (pss_cons (ps_expr (pe_f (ok_check_round (K := K) T) (hr.mono (by decide)) (passes_call (takes_of rfl rfl rfl rfl) (fun _ _ _ _ h => h)) (pa_cons (pv 0) pa_nil))) (pss_cons (ps_expr (pe_f (ok_check_round (K := K) T) (hr.mono (by decide)) (passes_call (takes_of rfl rfl rfl rfl) (fun _ _ _ _ h => h)) (pa_cons (pv 1) pa_nil))) (pss_cons (ps_for (passes_of rfl) rfl (pi_range1 rfl T.b_range (pa_cons (pe_op op_mulP (pe_callB (cLen K) (by rfl) T.b_len (by decide +kernel) (pa_cons (pv 0) pa_nil)) (pe_callB (cLen K) (by rfl) T.b_len (by decide +kernel) (pa_cons (pv 1) pa_nil))) pa_nil)) (pg_name (i := 2) sc_parting.nd rfl (Or.inl rfl)) (pss_one (ps_if (pt_cmpR (opNe K hr.units) (pe_ix (ixK K) (pv 0) (pe_op op_modP (pv 2) (pe_callB (cLen K) (by rfl) T.b_len (by decide +kernel) (pa_cons (pv 0) pa_nil))) (fun _ _ => rfl)) (pe_ix (ixK K) (pv 1) (pe_op op_modP (pv 2) (pe_callB (cLen K) (by rfl) T.b_len (by decide +kernel) (pa_cons (pv 1) pa_nil))) (fun _ _ => rfl)) (nomark _)) (pss_one (ps_ret (pv 2))) pss_nil))) (pss_one (ps_ret pe_non))))), ?_⟩
  show (_ : TS) { nx := fun _ H' => Q .non H', rt := Q } [some x, some y, none] H
  rcases h with ⟨l1, rfl, hl1, ⟨l2, rfl, hl2, q⟩ | h⟩ | h
  · have a1 := hl1.1
    have a2 := hl1.2.1
    have b1 := hl2.1
    have b2 := hl2.2.1
    walk_at "go"
    refine .inl ⟨l1, rfl, hl1, fun H1 s1 => ?_⟩
    walk_at "go"
    refine .inl ⟨l2, rfl, hl2, fun H2 s2 => ?_⟩
    walk_at "go"
    have hmul : l1.length * l2.length ≤ 576 := Nat.mul_le_mul a2 b2
    refine f_rng1 (l1.length * l2.length) (fun R k => by walk_at "go"; rw [Int.natCast_mul] at k; exact k) (by omega) (fun i σ H' => ∃ v, σ = [some (S l1), some (S l2), v] ∧ H' = H2 ∧ ∀ k < i, sq l1 k = sq l2 k) ⟨_, rfl, rfl, by omega⟩ ?_ ?_
    · rintro i σ H' hi ⟨v, rfl, rfl, hk⟩
      walk_at "go"
      have h1 : i % l1.length < l1.length := Nat.mod_lt _ (by omega)
      have h2 : i % l2.length < l2.length := Nat.mod_lt _ (by omega)
      rw [← Int.natCast_emod]
      refine i_ix_str (c := l1[i % l1.length]) (by omega) (by omega) (by rw [Int.toNat_natCast]; exact List.getElem?_eq_getElem h1) ?_
      walk_at "go"
      rw [← Int.natCast_emod]
      refine i_ix_str (c := l2[i % l2.length]) (by omega) (by omega) (by rw [Int.toNat_natCast]; exact List.getElem?_eq_getElem h2) ?_
      walk_at "go"
      have e1 : sq l1 i = some l1[i % l1.length] := List.getElem?_eq_getElem h1
      have e2 : sq l2 i = some l2[i % l2.length] := List.getElem?_eq_getElem h2
      refine i_decN (fun e => ?_) (fun e => ?_)
      · walk_at "go"
        exact q (some i) _ ⟨hi, fun z => e (by rw [e1, e2] at z; rw [Option.some.inj z]), hk⟩ (s1.trans s2)
      · walk_at "go"
        refine ⟨_, rfl, rfl, fun k hk' => ?_⟩
        by_cases e' : k < i
        · exact hk k e'
        · have : k = i := by omega
          subst this
          rw [e1, e2]
          simpa using e
    · rintro σ H' ⟨v, rfl, rfl, hk⟩
      walk_at "go"
      exact q none _ hk (s1.trans s2)
  · walk_at "go"
    refine .inl ⟨l1, rfl, hl1, fun H1 s1 => ?_⟩
    walk_at "go"
    exact .inr (h.mono s1)
  · walk_at "go"
    exact .inr h
end
end K08
namespace K08
open PySem PySem.Spec PyProof.Rows L2 Fg
local macro_rules | `(tactic| walk_at "sq") => `(tactic| first
  | assumption
  | exact .inl (.inl (by assumption))
  | exact .inl (.inl upd_same))
local macro_rules | `(tactic| walk_at "st") => `(tactic| first
  | assumption
  | exact .inl (.inl (by assumption))
  | exact .inl (.inl upd_same))
local macro_rules | `(tactic| walk_at "o") => `(tactic| first
  | omega
  | assumption
  | (simp only [List.length_append, List.length_take, List.length_drop, List.length_cons, List.length_nil, List.length_singleton, List.length_map, List.length_range, Int.toNat_natCast] ; omega))
local macro_rules | `(tactic| walk_at "s") => `(tactic| first
  | (with_reducible refine i_seq ?_)
  | (with_reducible refine i_asg ?_)
  | ((with_reducible refine' i_var ?h1 ?_); (case h1 => rfl))
  | (with_reducible refine i_c ?_)
  | ((with_reducible refine' i_gname' ?h1 ?_); (case h1 => (simp only [List.set_cons_zero, List.set_cons_succ]; rfl)))
  | (with_reducible refine i_op ?_)
  | (with_reducible refine i_ifS ?_)
  | (with_reducible refine i_for ?_)
  | (with_reducible refine i_test ?_)
  | (with_reducible refine i_B ?_)
  | (with_reducible refine i_exbl ?_)
  | (with_reducible refine i_exint ?_)
  | (with_reducible refine i_cb ?_)
  | (with_reducible refine i_nil ?_)
  | (with_reducible refine i_cons ?_)
  | (with_reducible refine i_ret ?_)
  | (with_reducible refine i_sl ?_)
  | (with_reducible refine i_nopart ?_)
  | (with_reducible refine i_part ?_)
  | (with_reducible refine i_add_int ?_)
  | (with_reducible refine i_sub ?_)
  | (with_reducible refine i_lt ?_)
  | ((with_reducible refine' i_mod ?h1 ?_); (case h1 => walk_at "o"))
  | ((with_reducible refine' i_fdiv ?h1 ?_); (case h1 => (refine cdiv_small ?_ ?_ <;> walk_at "o")))
  | ((with_reducible refine' i_sl_to ?h1 ?h2 ?_); (case h1 => walk_at "o"); (case h2 => walk_at "o"))
  | ((with_reducible refine' i_sl_from ?h1 ?h2 ?_); (case h1 => walk_at "o"); (case h2 => walk_at "o"))
  | ((with_reducible refine' i_add_str ?h1 ?_); (case h1 => walk_at "o"))
  | ((with_reducible refine' i_mul_int ?h1 ?_); (case h1 => first | (refine mul_small ?_ ?_ <;> walk_at "o") | (refine mul_smallR ?_ ?_ <;> walk_at "o")))
  | (with_reducible refine i_le ?_)
  | (with_reducible refine i_gt ?_)
  | (with_reducible refine i_ge ?_)
  | (with_reducible refine i_eq_int ?_)
  | (with_reducible refine i_eq_str ?_)
  | (with_reducible refine i_ne_int ?_)
  | (with_reducible refine i_ne_str ?_)
  | (with_reducible refine i_eq_bl ?_)
  | (with_reducible refine i_ne_bl ?_)
  | (with_reducible refine i_in_sg ?_)
  | (with_reducible refine i_notIn_sg ?_)
  | (with_reducible refine i_call ?_)
  | (with_reducible refine i_callS ?_)
  | (with_reducible refine i_sp1 ?_)
  | (with_reducible refine i_sp2 ?_)
  | (with_reducible refine i_sp3 ?_)
  | (with_reducible refine i_sp4 ?_)
  | (with_reducible refine i_sp1' ?_)
  | (with_reducible refine i_sp2' ?_)
  | (with_reducible refine i_sp3' ?_)
  | ((with_reducible refine' i_ix_lst ?h1 ?h2 ?_); (case h1 => walk_at "sq"); (case h2 => first | exact atI_nat rfl | rfl))
  | ((with_reducible refine' i_ix_tup ?h1 ?h2 ?_); (case h1 => walk_at "st"); (case h2 => first | exact atI_nat rfl | rfl))
  | (with_reducible refine i_gsub ?_)
  | (with_reducible refine i_par ?_)
  | (with_reducible refine i_lstRg1 ?_)
  | (with_reducible refine i_app ?_)
  | (with_reducible refine i_par2 ?_)
  | ((with_reducible refine' i_aug ?h1 ?_); (case h1 => rfl))
  | (with_reducible refine i_ipI ?_)
  | ((with_reducible refine' i_gtup2 ?h1 ?_); (case h1 => walk_at "st"))
  | (with_reducible refine i_int_bl ?_)
  | (with_reducible refine i_raise ?_)
  | (with_reducible refine i_mkE ?_)
  | (with_reducible refine i_ex1 ?_)
  | (with_reducible refine i_and ?_)
  | (with_reducible refine i_or ?_)
  | (with_reducible refine i_not ?_)
  | (with_reducible refine i_tt ?_)
  | (with_reducible refine i_ff ?_)
  | (with_reducible refine i_nott ?_)
  | (with_reducible refine i_notf ?_)
  | (with_reducible refine i_andV ?_)
  | (with_reducible refine i_orV ?_)
  | (with_reducible refine i_notV ?_)
  | (with_reducible refine i_ifE ?_)
  | (with_reducible refine i_tup ?_)
  | (with_reducible refine i_lst ?_)
  | (with_reducible refine i_un ?_)
  | (with_reducible refine i_neg ?_)
  | (with_reducible refine i_chain ?_)
  | (with_reducible refine i_next ?_)
  | (with_reducible refine i_retN ?_)
  | (with_reducible refine i_drop ?_)
  | (with_reducible refine i_int_int ?_)
  | (with_reducible refine i_abs ?_)
  | (with_reducible refine i_m1c ?_)
  | (with_reducible refine i_is_non ?_)
  | (with_reducible refine i_is_int ?_)
  | (with_reducible refine i_is_bl ?_)
  | (with_reducible refine i_isn_bl ?_)
  | (with_reducible refine i_is_str ?_)
  | (with_reducible refine i_is_ref ?_)
  | (with_reducible refine i_isn_non ?_)
  | (with_reducible refine i_isn_int ?_)
  | (with_reducible refine i_isn_str ?_)
  | (with_reducible refine i_isn_ref ?_)
  | (with_reducible refine i_len_str ?h1 ?_; (case h1 => walk_at "o"))
  | (with_reducible refine i_isi_int_int ?_) | (with_reducible refine i_isi_int_bool ?_) | (with_reducible refine i_isi_int_str ?_) | (with_reducible refine i_isi_int_tuple ?_) | (with_reducible refine i_isi_int_list ?_)
  | (with_reducible refine i_isi_bl_int ?_) | (with_reducible refine i_isi_bl_bool ?_) | (with_reducible refine i_isi_bl_str ?_) | (with_reducible refine i_isi_bl_tuple ?_) | (with_reducible refine i_isi_bl_list ?_)
  | (with_reducible refine i_isi_str_int ?_) | (with_reducible refine i_isi_str_bool ?_) | (with_reducible refine i_isi_str_str ?_) | (with_reducible refine i_isi_str_tuple ?_) | (with_reducible refine i_isi_str_list ?_)
  | (with_reducible refine i_isi_non_int ?_) | (with_reducible refine i_isi_non_bool ?_) | (with_reducible refine i_isi_non_str ?_) | (with_reducible refine i_isi_non_tuple ?_) | (with_reducible refine i_isi_non_list ?_))
local macro_rules | `(tactic| walk_at "go") => `(tactic| (repeat' (walk_at "s")))
local macro_rules | `(tactic| walk_at "n") => `(tactic| simp only [wipe, List.map_cons, List.map_nil, List.set_cons_zero, List.set_cons_succ])
theorem Row.take {l : List Nat} (h : Row l) (n : Nat) : Row (l.take n) := fun c hc => h c (List.mem_of_mem_take hc)
theorem Row.drop {l : List Nat} (h : Row l) (n : Nat) : Row (l.drop n) := fun c hc => h c (List.mem_of_mem_drop hc)
theorem Row.app {l m : List Nat} (h : Row l) (h2 : Row m) : Row (l ++ m) := fun c hc => (List.mem_append.mp hc).elim (h c) (h2 c)
theorem Row.one {c : Nat} (h : c ∈ SG) : Row [c] := fun x hx => by rw [List.mem_singleton.mp hx]; exact h
theorem Row.rep {l : List Nat} (h : Row l) (n : Nat) : Row (List.replicate n l).flatten := fun c hc => by
  obtain ⟨m, hm, hc⟩ := List.mem_flatten.mp hc
  rw [(List.mem_replicate.mp hm).2] at hc
  exact h c hc
theorem rep_len (n : Nat) (l : List Nat) : (List.replicate n l).flatten.length = n * l.length := by
  simp [List.length_flatten]
section
variable {K : PySem.W.Frag} {σ : L2.St} {H H0 : Hp} {Q : VK} {te tl : TE} {j : Nat} {vs : List Nat} {d : Dd} {a : Addr} {xs : List V}
/-- a comprehension over a list that is known, whose elements draw -/
theorem c_lstD (dr : Dr K d H0 H) (hx : H0 a = some (.lst xs)) (ha : ∀ R : VK, R (.ref a) H → tl σ H R) (hn : xs.length ≤ 100000)
    (Pc : Nat → List V → Prop) (h0 : Pc 0 []) (hl : ∀ i acc, Pc i acc → acc.length ≤ 100000) (hw : ∀ x, wipe ((wipe σ vs).set j (some x)) vs = wipe σ vs)
    (he : ∀ (i : Nat) x acc Hk H2, xs[i]? = some x → Pc i acc → Dr K d Hk H2 → ∀ QV : VK, (∀ y H3, Dr K d Hk H3 → Pc (i + 1) (acc ++ [y]) → QV y H3) → te ((wipe σ vs).set j (some x)) H2 QV)
    (q : ∀ Dl H3 acc, H0 Dl = none → Pc xs.length acc → Dr K d (upd H0 Dl (.lst acc)) H3 → Q (.ref Dl) H3) : tLc (iAny K tl) (gName j) tYes te vs σ H Q := by
  refine ha _ (.inl ⟨a, xs, rfl, .inl (.inl (dr.old hx)), fun Dl nD => ?_⟩)
  have n0 : H0 Dl = none := dr.free nD
  have ne : a ≠ Dl := ne_of_none hx n0
  refine lc_list (xs := xs) (fun i H' => ∃ acc, Pc i acc ∧ Dr K d (upd H0 Dl (.lst acc)) H') ⟨[], h0, dr.new nD⟩ (fun i H' _ p => ?_) (fun i x H' hi p => ?_) (fun H' p => ?_)
  · obtain ⟨acc, _, dr'⟩ := p
    exact .inl (.inl (dr'.old ((upd_ne ne).trans hx)))
  · obtain ⟨acc, pc, dr'⟩ := p
    refine ⟨hw _, ?_⟩
    refine i_yes (i_tt ?_)
    refine he i x acc _ H' hi pc dr' _ fun y H3 dr3 pc' => ⟨acc, dr3.old upd_same, Nat.lt_of_le_of_lt (hl i acc pc) (by decide), _, pc', dr3.put dr.cells n0⟩
  · obtain ⟨acc, pc, dr'⟩ := p
    exact q Dl H' acc n0 pc dr'
end
section
variable {K : PySem.W.Frag} {d : Dd} {H0 H : Hp} {q : Addr} {o : HO}
theorem Dr.self (h : Dr K d H0 H) : ∃ o, H d.a = some o := by
  obtain ⟨s0, n0, hc, hl, p, b, u, x, sd, ha, hp⟩ := h
  exact ⟨_, ha⟩
theorem Dr.ne (h : Dr K d H0 H) (n : H q = none) : q ≠ d.a := fun z => by
  obtain ⟨o, e⟩ := h.self
  rw [← z, n] at e
  cases e
/-- what stands is known -/
theorem Dr.learn (h : Dr K d H0 H) (e : H q = some o) (ne : q ≠ d.a) : Dr K d (upd H0 q o) H := by
  obtain ⟨s0, n0, hc, hl, p, b, u, x, sd, ha, hp⟩ := h
  have s1 : Same H0 (upd H0 q o) := fun b' o' e' => by
    by_cases hb : b' = q
    · subst hb
      rw [upd_same]
      have := s0 _ _ e'
      rw [e] at this
      exact this
    · rw [upd_ne hb]; exact e'
  refine ⟨fun b' o' e' => ?_, by rw [upd_ne (Ne.symm ne)]; exact n0, s1.seq hc, hl, p, b, u, x, sd, ha, hp⟩
  by_cases hb : b' = q
  · subst hb
    rw [upd_same] at e'
    rw [e]; exact e'
  · rw [upd_ne hb] at e'
    exact s0 _ _ e'
end
section
variable {P : Program} {w : World} {K : PySem.W.Frag} {mg : Str → Option Value} {base : Heap} {C_GlimError C_BadRound C_BadBeats C_BadText C_TooLong : Addr}
def p_L_bent (K : PySem.W.Frag) : P2 := fun x y H Q _ => ∃ (H0 : Hp) (d : Dd) (l : List Nat), x = .ref d.a ∧ y = S l ∧ Dr K d H0 H ∧ Row l ∧ 1 ≤ l.length ∧ l.length ≤ 1000 ∧ ∀ l' H', Dr K d H0 H' → Row l' → 1 ≤ l'.length → l'.length ≤ l.length + 1 → Q (S l') H'
theorem ok_L_bent (T : Txt K mg C_GlimError C_BadRound C_BadBeats C_BadText C_TooLong) : OK P w K mg base CX0 4 "_law_bent" ["_law_draw_here", "_law_row"] (sp2  (p_L_bent K)) := by
  refine OK.mk (k := 3) T.d_L_bent sc_L_bent len2 fun f cdv A outer s H vs Q E hr h => ?_
  obtain ⟨x, y, rfl, h⟩ := h
  refine ⟨_, (pss_cons (ps_set (i := 2) sc_L_bent.nd rfl (Or.inl rfl) (pe_f (ok_L_pick (K := K) T) (hr.mono (by decide)) pass0 (pa_cons (pv 0) (pa_cons (pe_callB (cLen K) (by rfl) T.b_len (by decide +kernel) (pa_cons (pv 1) pa_nil)) pa_nil)))) (pss_cons (ps_set (i := 3) sc_L_bent.nd rfl (Or.inl rfl) (pe_f (ok_L_pick (K := K) T) (hr.mono (by decide)) pass0 (pa_cons (pv 0) (pa_cons pe_int pa_nil)))) (pss_cons (ps_if (pw_and (pt_cmpR (opEq K hr.units) (pv 3) pe_int (nomark _)) (pw_and1 (pt_cmpR op_gtP (pe_callB (cLen K) (by rfl) T.b_len (by decide +kernel) (pa_cons (pv 1) pa_nil)) pe_int (nomark _)))).pt (pss_one (ps_ret (pe_op (opAdd K) (pe_slice (slK K) (pv 1) po_none (po_some (pv 2))) (pe_slice (slK K) (pv 1) (po_some (pe_op (opAdd K) (pv 2) pe_int)) po_none)))) pss_nil) (pss_cons (ps_if (pt_cmpR (opEq K hr.units) (pv 3) pe_int (nomark _)) (pss_one (ps_ret (pe_op (opAdd K) (pe_op (opAdd K) (pe_slice (slK K) (pv 1) po_none (po_some (pv 2))) (pe_f (ok_L_sign (K := K) T) (hr.mono (by decide)) pass0 (pa_cons (pv 0) pa_nil))) (pe_slice (slK K) (pv 1) (po_some (pv 2)) po_none)))) pss_nil) (pss_one (ps_ret (pe_op (opAdd K) (pe_op (opAdd K) (pe_slice (slK K) (pv 1) po_none (po_some (pv 2))) (pe_f (ok_L_sign (K := K) T) (hr.mono (by decide)) pass0 (pa_cons (pv 0) pa_nil))) (pe_slice (slK K) (pv 1) (po_some (pe_op (opAdd K) (pv 2) pe_int)) po_none)))))))), ?_⟩
  show (_ : TS) { nx := fun _ H' => Q .non H', rt := Q } [some x, some y, none, none] H
  obtain ⟨H0, d, l, rfl, rfl, dr, hr, h1, h2, q⟩ := h
  walk_at "go"
  refine ⟨H0, d, l.length, rfl, rfl, dr, by omega, fun n H1 dr1 b => ?_⟩
  have b0 := b.1
  have b1 : n.toNat < l.length := by have := b.2.1; have := b.2.2; omega
  have e1 : (n + 1).toNat = n.toNat + 1 := by omega
  walk_at "go"
  refine ⟨H0, d, 3, rfl, rfl, dr1, by decide, fun k H2 dr2 _ => ?_⟩
  walk_at "go"
  have last : ∀ c H3, Dr K d H0 H3 → c ∈ SG → Q (S (l.take n.toNat ++ [c] ++ l.drop (n + 1).toNat)) H3 := fun c H3 dr3 hc =>
    q _ H3 dr3 (((hr.take _).app (.one hc)).app (hr.drop _)) (by simp; omega) (by rw [e1]; simp; omega)
  refine i_dec (fun c0 => ?_) (fun c0 => ?_)
  · walk_at "go"
    refine i_dec (fun c1 => ?_) (fun c1 => ?_)
    · walk_at "go"
      exact q _ H2 dr2 ((hr.take _).app (hr.drop _)) (by rw [e1]; simp; omega) (by rw [e1]; simp; omega)
    · walk_at "go"
      refine i_dec (fun c2 => absurd c2 (by omega)) (fun c2 => ?_)
      walk_at "go"
      refine ⟨H0, d, rfl, dr2, fun c H3 dr3 hc => ?_⟩
      walk_at "go"
      exact last c H3 dr3 hc
  · walk_at "go"
    refine i_dec (fun c2 => ?_) (fun c2 => ?_)
    · walk_at "go"
      refine ⟨H0, d, rfl, dr2, fun c H3 dr3 hc => ?_⟩
      walk_at "go"
      exact q _ H3 dr3 (((hr.take _).app (.one hc)).app (hr.drop _)) (by simp; omega) (by simp; omega)
    · walk_at "go"
      refine ⟨H0, d, rfl, dr2, fun c H3 dr3 hc => ?_⟩
      walk_at "go"
      exact last c H3 dr3 hc
def p_L_agree (K : PySem.W.Frag) : P4 := fun x y z u H Q _ => ∃ (H0 : Hp) (d : Dd) (a b m : Nat), x = .ref d.a ∧ y = .int (a : Int) ∧ z = .int (b : Int) ∧ u = .int (m : Int) ∧ Dr K d H0 H ∧ 1 ≤ a ∧ a ≤ 24 ∧ 1 ≤ b ∧ b ≤ 24 ∧ m ≤ 1000 ∧
  ∀ l1 l2 Dl H', H0 Dl = none → IsRound l1 → IsRound l2 → Dr K d (upd H0 Dl (.lst [S l1, S l2])) H' → Q (.ref Dl) H'
/-- labels -/
def Lab (n : Nat) (ls : List Nat) : Prop := ls.length = n ∧ ∀ c ∈ ls, c < n
theorem ok_L_agreeing (T : Txt K mg C_GlimError C_BadRound C_BadBeats C_BadText C_TooLong) : OK P w K mg base CX0 4 "_law_agreeing" ["_law_draw_here", "_law_one", "_law_two", "_law_many"] (sp4  (p_L_agree K)) := by
  refine OK.mk (k := 3) T.d_L_agreeing sc_L_agreeing len4 fun f cdv A outer s H vs Q E hr h => ?_
  obtain ⟨x, y, z, u, rfl, h⟩ := h
  refine ⟨_, (pss_cons (ps_set (i := 4) sc_L_agreeing.nd rfl (Or.inl rfl) (pe_listRg (by rfl) (by rfl) T.b_list (prg_1 (by rfl) T.b_range (pe_op (opAdd K) (pv 1) (pv 2))))) (pss_cons (ps_for PassesOwn.never rfl (pi_range1 rfl T.b_range (pa_cons (pv 3) pa_nil)) (pg_name (i := 5) sc_L_agreeing.nd rfl (Or.inl rfl)) (pss_cons (ps_set (i := 6) sc_L_agreeing.nd rfl (Or.inr rfl) (pe_ix (ixK K) (pv 4) (pe_op op_modP (pe_callTy call_intP (by rfl) T.b_int (by decide +kernel) (pa_cons (pv 5) pa_nil)) (pv 1)) (fun _ _ => rfl))) (pss_cons (ps_set (i := 7) sc_L_agreeing.nd rfl (Or.inr rfl) (pe_ix (ixK K) (pv 4) (pe_op (opAdd K) (pv 1) (pe_op op_modP (pe_callTy call_intP (by rfl) T.b_int (by decide +kernel) (pa_cons (pv 5) pa_nil)) (pv 2))) (fun _ _ => rfl))) (pss_one (ps_setLc (i := 4) (own := [("_law_label", 10)]) (g := gName 10) (tt := tYes) (by rfl) sc_L_agreeing.nd rfl rfl (sw_true rfl rfl rfl (by decide +kernel)) (piAny K (pv 4)) (blkOk_by (own := [("_law_label", 10)]) (N := ["_law_draw_here", "_law_one", "_law_two", "_law_many", "_law_lot", "_law_spot", "_law_first", "_law_second", "_law_signs", "_law_row", "_law_label"]) (sc := (defScope s_L_agreeing)) (by decide +kernel)) (fun _ _ _ _ _ => (pg_name (i := 10) sc_L_agreeing.nd rfl (Or.inl rfl))) (fun _ _ _ _ _ => pts_nil) (fun _ _ _ _ _ => (pe_ix (ixK K) (pe_lst (pa_cons (pv 10) (pa_cons (pv 6) pa_nil))) (pe_callTy call_intP (by rfl) T.b_int (by decide +kernel) (pa_cons (pe_cmpR (opEq K hr.units) (pv 10) (pv 7) (nomark _)) pa_nil)) (fun _ _ => rfl)))))))) (pss_cons (ps_set (i := 8) sc_L_agreeing.nd rfl (Or.inr rfl) (pe_lc (own := [("_law_label", 10)]) (g := gName 10) (tt := tYes) (by rfl) sc_L_agreeing.nd (piAny K (pv 4)) (blkOk_by (own := [("_law_label", 10)]) (N := ["_law_draw_here", "_law_one", "_law_two", "_law_many", "_law_lot", "_law_spot", "_law_first", "_law_second", "_law_signs", "_law_row", "_law_label"]) (sc := (defScope s_L_agreeing)) (by decide +kernel)) (fun _ _ _ _ _ => (pg_name (i := 10) sc_L_agreeing.nd rfl (Or.inl rfl))) (fun _ _ _ _ _ => pts_nil) (fun _ _ _ _ _ => (pe_f (ok_L_sign (K := K) T) (hr.mono (by decide)) pass0 (pa_cons (pv 0) pa_nil))))) (pss_cons (ps_set (i := 9) sc_L_agreeing.nd rfl (Or.inl rfl) (peJoin K (pe_S []) (pe_lc (own := [("_law_label", 10)]) (g := gName 10) (tt := tYes) (by rfl) sc_L_agreeing.nd (piAny K (pv 4)) (blkOk_by (own := [("_law_label", 10)]) (N := ["_law_draw_here", "_law_one", "_law_two", "_law_many", "_law_lot", "_law_spot", "_law_first", "_law_second", "_law_signs", "_law_row", "_law_label"]) (sc := (defScope s_L_agreeing)) (by decide +kernel)) (fun _ _ _ _ _ => (pg_name (i := 10) sc_L_agreeing.nd rfl (Or.inl rfl))) (fun _ _ _ _ _ => pts_nil) (fun _ _ _ _ _ => (pe_ix (ixK K) (pv 8) (pv 10) (fun _ _ => rfl)))))) (pss_one (ps_ret (pe_lst (pa_cons (pe_slice (slK K) (pv 9) po_none (po_some (pv 1))) (pa_cons (pe_slice (slK K) (pv 9) (po_some (pv 1)) po_none) pa_nil))))))))), ?_⟩
  show (_ : TS) { nx := fun _ H' => Q .non H', rt := Q } [some x, some y, some z, some u, none, none, none, none, none, none, none] H
  obtain ⟨H0, d, a, b, m, rfl, rfl, rfl, rfl, dr, a1, a2, b1, b2, m2, q⟩ := h
  walk_at "go"
  rw [← Int.natCast_add]
  refine i_rg (n := a + b) (by omega) fun D0 n0 => ?_
  rw [rgV_nat]
  walk_at "go"
  have key : ∃ ls, Lab (a + b) ls ∧ (List.range (a + b)).map (fun (i : Nat) => V.int (i : Int)) = ls.map fun (c : Nat) => V.int (c : Int) := ⟨List.range (a + b), ⟨List.length_range, fun c hc => List.mem_range.mp hc⟩, rfl⟩
  obtain ⟨ls0, lab0, e0⟩ := key
  rw [e0]
  refine f_rng1 m (fun R k => by walk_at "go"; exact k) (by omega) (fun i σ H' => ∃ (Dl : Addr) (ls : List Nat) (v5 v6 v7 : Option V), σ = [some (.ref d.a), some (.int (a : Int)), some (.int (b : Int)), some (.int (m : Int)), some (.ref Dl), v5, v6, v7, none, none, none] ∧ Dr K d H0 H' ∧ H' Dl = some (.lst (ls.map fun (c : Nat) => V.int (c : Int))) ∧ Lab (a + b) ls ∧ Dl ≠ d.a ∧ H0 Dl = none)
    ⟨D0, ls0, _, _, _, rfl, dr.same (same_upd n0), upd_same, lab0, dr.ne n0, dr.free n0⟩ ?_ ?_
  · rintro i σ H' hi ⟨Dl, ls, v5, v6, v7, rfl, dr1, eD, lab, neD, zD⟩
    walk_at "go"
    have i1 : i % a < ls.length := by rw [lab.1]; have := Nat.mod_lt i (show a > 0 by omega); omega
    have i2 : a + i % b < ls.length := by rw [lab.1]; have := Nat.mod_lt i (show b > 0 by omega); omega
    rw [← Int.natCast_emod]
    refine i_ix_lst (v := .int (ls[i % a] : Nat)) (.inl (.inl eD)) (atI_nat (by rw [List.getElem?_map, List.getElem?_eq_getElem i1]; rfl)) ?_
    walk_at "go"
    rw [← Int.natCast_emod, ← Int.natCast_add]
    refine i_ix_lst (v := .int (ls[a + i % b] : Nat)) (.inl (.inl eD)) (atI_nat (by rw [List.getElem?_map, List.getElem?_eq_getElem i2]; rfl)) ?_
    walk_at "go"
    have c1 := lab.2 _ (List.getElem_mem i1)
    generalize ls[i % a] = c at *
    generalize ls[a + i % b] = e at *
    refine c_lst (K := K) (a := Dl) (xs := ls.map fun (c : Nat) => V.int (c : Int)) (fun R k => by walk_at "go"; exact k) (.inl (.inl eD)) (by rw [List.length_map, lab.1]; omega) (fun _ => true) (fun i => .int ((if ls.getD i 0 = e then c else ls.getD i 0 : Nat) : Int)) (fun _ => rfl) (fun i x H2 hi s2 QB k => k H2 (Same.refl H2)) (fun i x H2 hi s2 _ QV k => ?_) (fun De H2 n2 s2 d2 => ?_)
    · rw [List.getElem?_map] at hi
      obtain ⟨y, hy, rfl⟩ := Option.map_eq_some_iff.mp hi
      have ey : ls.getD i 0 = y := by rw [List.getD_eq_getElem?_getD, hy]; rfl
      rw [ey] at k
      walk_at "n"
      walk_at "go"
      refine i_new (by show 2 ≤ 100000; omega) fun p np => ?_
      walk_at "go"
      by_cases h : (y : Int) = (e : Int)
      · rw [decide_eq_true h]
        refine i_ix_lst (v := .int (c : Int)) (.inl (.inl upd_same)) rfl ?_
        have := k _ (same_upd (o := .lst [.int (y : Int), .int (c : Int)]) np)
        rw [if_pos (by omega)] at this
        exact this
      · rw [decide_eq_false h]
        refine i_ix_lst (v := .int (y : Int)) (.inl (.inl upd_same)) rfl ?_
        have := k _ (same_upd (o := .lst [.int (y : Int), .int (c : Int)]) np)
        rw [if_neg (by omega)] at this
        exact this
    · rw [kept_all, List.length_map, range_getD_map ls 0 (fun y => V.int ((if y = e then c else y : Nat) : Int))] at d2
      have e2 : ls.map (fun y => V.int ((if y = e then c else y : Nat) : Int)) = (ls.map fun y => if y = e then c else y).map fun (c : Nat) => V.int (c : Int) := by rw [List.map_map]; rfl
      rw [e2] at d2
      walk_at "go"
      refine ⟨De, _, _, _, _, rfl, dr1.same s2, d2, ⟨by rw [List.length_map, lab.1], fun x hx => ?_⟩, dr1.ne n2, dr1.free n2⟩
      obtain ⟨y, hy, rfl⟩ := List.mem_map.mp hx
      split
      · exact c1
      · exact lab.2 y hy
  · rintro σ H' ⟨Dl, ls, v5, v6, v7, rfl, dr1, eD, lab, neD, zD⟩
    have dr2 := dr1.learn eD neD
    have hl1 := lab.1
    walk_at "go"
    refine c_lstD (K := K) (d := d) dr2 upd_same (fun R k => by walk_at "go"; exact k) (by rw [List.length_map]; omega) (fun i acc => ∃ cs : List Nat, cs.length = i ∧ i ≤ a + b ∧ Row cs ∧ acc = cs.map fun c => S [c]) ⟨[], rfl, by omega, by simp [Row], rfl⟩ ?_ (fun _ => rfl) ?_ ?_
    · rintro i acc ⟨cs, h1, h2, h3, rfl⟩
      rw [List.length_map]; omega
    · rintro i x acc Hk H2 hi ⟨cs, h1, h2, h3, rfl⟩ dr3 QV k
      have hi2 := (List.getElem?_eq_some_iff.mp hi).1
      rw [List.length_map] at hi2
      walk_at "n"
      walk_at "go"
      refine ⟨Hk, d, rfl, dr3, fun c H3 dr4 hc => k _ _ dr4 ⟨cs ++ [c], by rw [List.length_append, h1]; rfl, by omega, h3.app (.one hc), by rw [List.map_append]; rfl⟩⟩
    · rintro Dg H3 acc nG ⟨cs, h1, h2, h3, rfl⟩ dr3
      rw [List.length_map] at h1
      walk_at "go"
      have neG : Dl ≠ Dg := fun z => by rw [z, upd_same] at nG; cases nG
      have eG : H3 Dg = some (.lst (cs.map fun c => S [c])) := dr3.old upd_same
      have eD3 : H3 Dl = some (.lst (ls.map fun (c : Nat) => V.int (c : Int))) := dr3.old ((upd_ne neG).trans upd_same)
      refine c_lst (K := K) (a := Dl) (xs := ls.map fun (c : Nat) => V.int (c : Int)) (fun R k => by walk_at "go"; exact k) (.inl (.inl eD3)) (by rw [List.length_map]; omega) (fun _ => true) (fun i => S [cs.getD (ls.getD i 0) 0]) (fun _ => rfl) (fun i x H4 hi s4 QB k => k H4 (Same.refl H4)) (fun i x H4 hi s4 _ QV k => ?_) (fun De H4 n4 s4 d4 => ?_)
      · rw [List.getElem?_map] at hi
        obtain ⟨y, hy, rfl⟩ := Option.map_eq_some_iff.mp hi
        have ey : ls.getD i 0 = y := by rw [List.getD_eq_getElem?_getD, hy]; rfl
        have hyl := lab.2 _ (List.mem_of_getElem? hy)
        rw [ey] at k
        walk_at "n"
        walk_at "go"
        refine i_ix_lst (v := S [cs.getD y 0]) (.inl (.inl (s4 _ _ eG))) (atI_nat ?_) (k H4 (Same.refl H4))
        rw [List.getElem?_map, List.getElem?_eq_getElem (show y < cs.length by omega), List.getD_eq_getElem?_getD, List.getElem?_eq_getElem (show y < cs.length by omega)]
        rfl
      · rw [kept_all, List.length_map, range_getD_map ls 0 (fun y => S [cs.getD y 0])] at d4
        have e5 : ls.map (fun y => S [cs.getD y 0]) = (ls.map fun y => cs.getD y 0).map fun c => S [c] := by rw [List.map_map]; rfl
        rw [e5] at d4
        have rowR : Row (ls.map fun y => cs.getD y 0) := fun c hc => by
          obtain ⟨y, hy, rfl⟩ := List.mem_map.mp hc
          have := lab.2 y hy
          rw [List.getD_eq_getElem?_getD, List.getElem?_eq_getElem (show y < cs.length by omega)]
          exact h3 _ (List.getElem_mem _)
        have lenR : (ls.map fun y => cs.getD y 0).length = a + b := by rw [List.length_map, hl1]
        walk_at "go"
        refine i_join1 (.inl (.inl d4)) (by omega) ?_
        generalize (ls.map fun y => cs.getD y 0) = w at *
        walk_at "go"
        refine i_new (by show 2 ≤ 100000; omega) fun p np => ?_
        rw [Int.toNat_natCast]
        have dr4 : Dr K d H0 H3 := (dr3.less dr2.cells nG).less dr.cells zD
        have dr5 := dr4.same s4
        exact q (w.take a) (w.drop a) p _ (dr5.free np) ⟨by rw [List.length_take]; omega, by rw [List.length_take]; omega, rowR.take a⟩ ⟨by rw [List.length_drop]; omega, by rw [List.length_drop]; omega, rowR.drop a⟩ (dr5.new np)
def p_L_two (K : PySem.W.Frag) : P1 := fun x H Q _ => ∃ (H0 : Hp) (d : Dd), x = .ref d.a ∧ Dr K d H0 H ∧ ∀ l1 l2 Dl H', H0 Dl = none → IsRound l1 → IsRound l2 → Dr K d (upd H0 Dl (.lst [S l1, S l2])) H' → Q (.ref Dl) H'
theorem ok_L_two_rounds (T : Txt K mg C_GlimError C_BadRound C_BadBeats C_BadText C_TooLong) : OK P w K mg base CX0 5 "_law_two_rounds" ["_law_draw_here"] (sp1  (p_L_two K)) := by
  refine OK.mk (k := 4) T.d_L_two_rounds sc_L_two_rounds len1 fun f cdv A outer s H vs Q E hr h => ?_
  obtain ⟨x, rfl, h⟩ := h
  refine ⟨_, (pss_cons (ps_set (i := 1) sc_L_two_rounds.nd rfl (Or.inl rfl) (pe_f (ok_L_pick (K := K) T) (hr.mono (by decide)) pass0 (pa_cons (pv 0) (pa_cons pe_int pa_nil)))) (pss_cons (ps_if (pt_cmpR (opEq K hr.units) (pv 1) pe_int (nomark _)) (pss_one (ps_ret (pe_lst (pa_cons (pe_f (ok_L_round (K := K) T) (hr.mono (by decide)) pass0 (pa_cons (pv 0) (pa_cons pe_int pa_nil))) (pa_cons (pe_f (ok_L_round (K := K) T) (hr.mono (by decide)) pass0 (pa_cons (pv 0) (pa_cons pe_int pa_nil))) pa_nil))))) pss_nil) (pss_cons (ps_if (pt_cmpR (opEq K hr.units) (pv 1) pe_int (nomark _)) (pss_cons (ps_set (i := 2) sc_L_two_rounds.nd rfl (Or.inl rfl) (pe_f (ok_L_round (K := K) T) (hr.mono (by decide)) pass0 (pa_cons (pv 0) (pa_cons pe_int pa_nil)))) (pss_one (ps_ret (pe_lst (pa_cons (pv 2) (pa_cons (pe_slice (slK K) (pe_f (ok_L_bent (K := K) T) (hr.mono (by decide)) pass0 (pa_cons (pv 0) (pa_cons (pe_op op_mulP (pv 2) (pe_op (opAdd K) pe_int (pe_f (ok_L_pick (K := K) T) (hr.mono (by decide)) pass0 (pa_cons (pv 0) (pa_cons pe_int pa_nil))))) pa_nil))) po_none (po_some pe_int)) pa_nil)))))) pss_nil) (pss_cons (ps_set (i := 3) sc_L_two_rounds.nd rfl (Or.inl rfl) (pe_ix (ixK K) (pe_lst (pa_cons pe_int (pa_cons pe_int (pa_cons pe_int (pa_cons pe_int pa_nil))))) (pe_f (ok_L_pick (K := K) T) (hr.mono (by decide)) pass0 (pa_cons (pv 0) (pa_cons pe_int pa_nil))) (fun _ _ => rfl))) (pss_cons (ps_set (i := 4) sc_L_two_rounds.nd rfl (Or.inl rfl) (pe_op (opAdd K) pe_int (pe_f (ok_L_pick (K := K) T) (hr.mono (by decide)) pass0 (pa_cons (pv 0) (pa_cons (pv 3) pa_nil))))) (pss_cons (ps_set (i := 5) sc_L_two_rounds.nd rfl (Or.inl rfl) (pe_op (opAdd K) pe_int (pe_f (ok_L_pick (K := K) T) (hr.mono (by decide)) pass0 (pa_cons (pv 0) (pa_cons (pv 3) pa_nil))))) (pss_one (ps_ret (pe_f (ok_L_agreeing (K := K) T) (hr.mono (by decide)) pass0 (pa_cons (pv 0) (pa_cons (pv 4) (pa_cons (pv 5) (pa_cons (pe_f (ok_L_pick (K := K) T) (hr.mono (by decide)) pass0 (pa_cons (pv 0) (pa_cons (pe_op (opAdd K) (pe_op (opAdd K) (pv 4) (pv 5)) pe_int) pa_nil))) pa_nil))))))))))))), ?_⟩
  show (_ : TS) { nx := fun _ H' => Q .non H', rt := Q } [some x, none, none, none, none, none] H
  obtain ⟨H0, d, rfl, dr, q⟩ := h
  walk_at "go"
  refine ⟨H0, d, 6, rfl, rfl, dr, by decide, fun kd H1 dr1 b1 => ?_⟩
  walk_at "go"
  refine i_dec (fun e => ?_) (fun e => ?_)
  · walk_at "go"
    refine ⟨H0, d, 24, rfl, rfl, dr1, by decide, by decide, fun l1 H2 dr2 r1 a1 a2 => ?_⟩
    walk_at "go"
    refine ⟨H0, d, 24, rfl, rfl, dr2, by decide, by decide, fun l2 H3 dr3 r2 b1 b2 => ?_⟩
    walk_at "go"
    refine i_new (by show 2 ≤ 100000; omega) fun p np => ?_
    exact q l1 l2 p _ (dr3.free np) ⟨a1, by omega, r1⟩ ⟨b1, by omega, r2⟩ (dr3.new np)
  walk_at "go"
  refine i_dec (fun e => ?_) (fun e => ?_)
  · walk_at "go"
    refine ⟨H0, d, 12, rfl, rfl, dr1, by decide, by decide, fun l H2 dr2 r1 a1 a2 => ?_⟩
    walk_at "go"
    refine ⟨H0, d, 2, rfl, rfl, dr2, by decide, fun n H3 dr3 b3 => ?_⟩
    have n0 := b3.1
    have n1 := b3.2.1 (by decide)
    walk_at "go"
    have le : l.length * (1 + n).toNat ≤ 12 * 2 := Nat.mul_le_mul (by omega) (by omega)
    refine i_mul_strI (by omega) ⟨by omega, by omega⟩ ?_
    have hm : (List.replicate (1 + n).toNat l).flatten.length = (1 + n).toNat * l.length := rep_len _ _
    have hmr : Row (List.replicate (1 + n).toNat l).flatten := r1.rep _
    have ge : 1 ≤ (1 + n).toNat * l.length := Nat.mul_pos (by omega) a1
    rw [Nat.mul_comm] at le
    generalize (List.replicate (1 + n).toNat l).flatten = w at *
    walk_at "go"
    refine ⟨H0, d, w, rfl, rfl, dr3, hmr, by omega, by omega, fun w' H4 dr4 r4 c1 c2 => ?_⟩
    walk_at "go"
    refine i_new (by show 2 ≤ 100000; omega) fun p np => ?_
    exact q l _ p _ (dr4.free np) ⟨a1, by omega, r1⟩ ⟨by rw [List.length_take]; show 1 ≤ min 24 _; omega, by rw [List.length_take]; exact Nat.min_le_left _ _, r4.take _⟩ (dr4.new np)
  walk_at "go"
  refine i_new (by show 4 ≤ 100000; omega) fun p np => ?_
  walk_at "go"
  refine ⟨_, d, 4, rfl, rfl, dr1.new np, by decide, fun n H2 dr2 b2 => ?_⟩
  have n0 := b2.1
  have n1 := b2.2.1 (by decide)
  have key : ∃ mo : Nat, [V.int 4, V.int 8, V.int 12, V.int 24][n.toNat]? = some (.int (mo : Int)) ∧ 1 ≤ mo ∧ mo ≤ 24 := by
    have hn : n.toNat = 0 ∨ n.toNat = 1 ∨ n.toNat = 2 ∨ n.toNat = 3 := by omega
    rcases hn with h | h | h | h <;> rw [h]
    · exact ⟨4, rfl, by decide, by decide⟩
    · exact ⟨8, rfl, by decide, by decide⟩
    · exact ⟨12, rfl, by decide, by decide⟩
    · exact ⟨24, rfl, by decide, by decide⟩
  obtain ⟨mo, hw, o1, o2⟩ := key
  refine i_ix_lst (v := .int (mo : Int)) (.inl (.inl (dr2.old upd_same))) (atI_int n0 hw) ?_
  have dr3 := dr2.less dr1.cells (dr1.free np)
  walk_at "go"
  refine ⟨H0, d, _, rfl, rfl, dr3, by omega, fun x H4 dr4 b4 => ?_⟩
  have x0 := b4.1
  have x1 := b4.2.1
  have x2 := b4.2.2
  walk_at "go"
  refine ⟨H0, d, _, rfl, rfl, dr4, by omega, fun y H5 dr5 b5 => ?_⟩
  have y0 := b5.1
  have y1 := b5.2.1
  have y2 := b5.2.2
  walk_at "go"
  refine ⟨H0, d, _, rfl, rfl, dr5, by omega, fun w H6 dr6 b6 => ?_⟩
  have w0 := b6.1
  have w1 := b6.2.1
  walk_at "go"
  refine ⟨H0, d, (1 + x).toNat, (1 + y).toNat, w.toNat, rfl, by rw [Int.toNat_of_nonneg (by omega)], by rw [Int.toNat_of_nonneg (by omega)], by rw [Int.toNat_of_nonneg (by omega)], dr6, by omega, by omega, by omega, by omega, by omega, q⟩
end
end K08
namespace K08
open PySem PySem.Spec PyProof.Rows L2 Fg
local macro_rules | `(tactic| walk_at "sq") => `(tactic| first
  | assumption
  | exact .inl (.inl (by assumption))
  | exact .inl (.inl upd_same))
local macro_rules | `(tactic| walk_at "st") => `(tactic| first
  | assumption
  | exact .inl (.inl (by assumption))
  | exact .inl (.inl upd_same))
local macro_rules | `(tactic| walk_at "o") => `(tactic| first
  | omega
  | assumption
  | (simp only [List.length_append, List.length_take, List.length_drop, List.length_cons, List.length_nil, List.length_singleton, List.length_map, List.length_range, Int.toNat_natCast] ; omega))
local macro_rules | `(tactic| walk_at "s") => `(tactic| first
  | (with_reducible refine i_seq ?_)
  | (with_reducible refine i_asg ?_)
  | ((with_reducible refine' i_var ?h1 ?_); (case h1 => rfl))
  | (with_reducible refine i_c ?_)
  | ((with_reducible refine' i_gname' ?h1 ?_); (case h1 => (simp only [List.set_cons_zero, List.set_cons_succ]; rfl)))
  | (with_reducible refine i_op ?_)
  | (with_reducible refine i_ifS ?_)
  | (with_reducible refine i_for ?_)
  | (with_reducible refine i_test ?_)
  | (with_reducible refine i_B ?_)
  | (with_reducible refine i_exbl ?_)
  | (with_reducible refine i_exint ?_)
  | (with_reducible refine i_cb ?_)
  | (with_reducible refine i_nil ?_)
  | (with_reducible refine i_cons ?_)
  | (with_reducible refine i_ret ?_)
  | (with_reducible refine i_sl ?_)
  | (with_reducible refine i_nopart ?_)
  | (with_reducible refine i_part ?_)
  | (with_reducible refine i_add_int ?_)
  | (with_reducible refine i_sub ?_)
  | (with_reducible refine i_lt ?_)
  | ((with_reducible refine' i_mod ?h1 ?_); (case h1 => walk_at "o"))
  | ((with_reducible refine' i_fdiv ?h1 ?_); (case h1 => (refine cdiv_small ?_ ?_ <;> walk_at "o")))
  | ((with_reducible refine' i_sl_to ?h1 ?h2 ?_); (case h1 => walk_at "o"); (case h2 => walk_at "o"))
  | ((with_reducible refine' i_sl_from ?h1 ?h2 ?_); (case h1 => walk_at "o"); (case h2 => walk_at "o"))
  | ((with_reducible refine' i_add_str ?h1 ?_); (case h1 => walk_at "o"))
  | ((with_reducible refine' i_mul_int ?h1 ?_); (case h1 => first | (refine mul_small ?_ ?_ <;> walk_at "o") | (refine mul_smallR ?_ ?_ <;> walk_at "o")))
  | (with_reducible refine i_le ?_)
  | (with_reducible refine i_gt ?_)
  | (with_reducible refine i_ge ?_)
  | (with_reducible refine i_eq_int ?_)
  | (with_reducible refine i_eq_str ?_)
  | (with_reducible refine i_ne_int ?_)
  | (with_reducible refine i_ne_str ?_)
  | (with_reducible refine i_eq_bl ?_)
  | (with_reducible refine i_ne_bl ?_)
  | (with_reducible refine i_in_sg ?_)
  | (with_reducible refine i_notIn_sg ?_)
  | (with_reducible refine i_call ?_)
  | (with_reducible refine i_callS ?_)
  | (with_reducible refine i_sp1 ?_)
  | (with_reducible refine i_sp2 ?_)
  | (with_reducible refine i_sp3 ?_)
  | (with_reducible refine i_sp4 ?_)
  | (with_reducible refine i_sp1' ?_)
  | (with_reducible refine i_sp2' ?_)
  | (with_reducible refine i_sp3' ?_)
  | ((with_reducible refine' i_ix_lst ?h1 ?h2 ?_); (case h1 => walk_at "sq"); (case h2 => first | exact atI_nat rfl | rfl))
  | ((with_reducible refine' i_ix_tup ?h1 ?h2 ?_); (case h1 => walk_at "st"); (case h2 => first | exact atI_nat rfl | rfl))
  | (with_reducible refine i_gsub ?_)
  | (with_reducible refine i_par ?_)
  | (with_reducible refine i_lstRg1 ?_)
  | (with_reducible refine i_app ?_)
  | (with_reducible refine i_par2 ?_)
  | ((with_reducible refine' i_aug ?h1 ?_); (case h1 => rfl))
  | (with_reducible refine i_ipI ?_)
  | ((with_reducible refine' i_gtup2 ?h1 ?_); (case h1 => walk_at "st"))
  | (with_reducible refine i_int_bl ?_)
  | (with_reducible refine i_raise ?_)
  | (with_reducible refine i_mkE ?_)
  | (with_reducible refine i_ex1 ?_)
  | (with_reducible refine i_and ?_)
  | (with_reducible refine i_or ?_)
  | (with_reducible refine i_not ?_)
  | (with_reducible refine i_tt ?_)
  | (with_reducible refine i_ff ?_)
  | (with_reducible refine i_nott ?_)
  | (with_reducible refine i_notf ?_)
  | (with_reducible refine i_andV ?_)
  | (with_reducible refine i_orV ?_)
  | (with_reducible refine i_notV ?_)
  | (with_reducible refine i_ifE ?_)
  | (with_reducible refine i_tup ?_)
  | (with_reducible refine i_lst ?_)
  | (with_reducible refine i_un ?_)
  | (with_reducible refine i_neg ?_)
  | (with_reducible refine i_chain ?_)
  | (with_reducible refine i_next ?_)
  | (with_reducible refine i_retN ?_)
  | (with_reducible refine i_drop ?_)
  | (with_reducible refine i_int_int ?_)
  | (with_reducible refine i_abs ?_)
  | (with_reducible refine i_m1c ?_)
  | (with_reducible refine i_is_non ?_)
  | (with_reducible refine i_is_int ?_)
  | (with_reducible refine i_is_bl ?_)
  | (with_reducible refine i_isn_bl ?_)
  | (with_reducible refine i_is_str ?_)
  | (with_reducible refine i_is_ref ?_)
  | (with_reducible refine i_isn_non ?_)
  | (with_reducible refine i_isn_int ?_)
  | (with_reducible refine i_isn_str ?_)
  | (with_reducible refine i_isn_ref ?_)
  | (with_reducible refine i_len_str ?h1 ?_; (case h1 => walk_at "o"))
  | (with_reducible refine i_isi_int_int ?_) | (with_reducible refine i_isi_int_bool ?_) | (with_reducible refine i_isi_int_str ?_) | (with_reducible refine i_isi_int_tuple ?_) | (with_reducible refine i_isi_int_list ?_)
  | (with_reducible refine i_isi_bl_int ?_) | (with_reducible refine i_isi_bl_bool ?_) | (with_reducible refine i_isi_bl_str ?_) | (with_reducible refine i_isi_bl_tuple ?_) | (with_reducible refine i_isi_bl_list ?_)
  | (with_reducible refine i_isi_str_int ?_) | (with_reducible refine i_isi_str_bool ?_) | (with_reducible refine i_isi_str_str ?_) | (with_reducible refine i_isi_str_tuple ?_) | (with_reducible refine i_isi_str_list ?_)
  | (with_reducible refine i_isi_non_int ?_) | (with_reducible refine i_isi_non_bool ?_) | (with_reducible refine i_isi_non_str ?_) | (with_reducible refine i_isi_non_tuple ?_) | (with_reducible refine i_isi_non_list ?_))
local macro_rules | `(tactic| walk_at "go") => `(tactic| (repeat' (walk_at "s")))
local macro_rules | `(tactic| walk_at "n") => `(tactic| simp only [wipe, List.map_cons, List.map_nil, List.set_cons_zero, List.set_cons_succ])
section
variable {C CT : Addr} {x y z : V} {H : Hp} {Q Q' : VK} {E E' : XK}
theorem Rz.imp {f : Str} {v : V} (h : Rz E H C f v) (e : ∀ c d H, E c d H → E' c d H) : Rz E' H C f v := fun d H' n s k => e _ _ _ (h d H' n s k)
theorem BadX.imp (h : BadX C H x E) (e : ∀ c d H, E c d H → E' c d H) : BadX C H x E' := by
  obtain ⟨k, h1, h2⟩ := h
  exact ⟨k, h1, Rz.imp h2 e⟩
theorem p_two.imp {R : List Nat → List Nat → Hp → VK → XK → Prop} (hR : ∀ l1 l2, R l1 l2 H Q E → R l1 l2 H Q' E') (h : p_two C R x y H Q E) (e : ∀ c d H, E c d H → E' c d H) : p_two C R x y H Q' E' := by
  rcases h with ⟨l, a, b, ⟨n, c1, c2, k⟩ | c1⟩ | h
  · exact .inl ⟨l, a, b, .inl ⟨n, c1, c2, hR _ _ k⟩⟩
  · exact .inl ⟨l, a, b, .inr (c1.imp e)⟩
  · exact .inr (h.imp e)
theorem r_over.imp {l m : List Nat} (h : r_over CT l m H Q E) (q : ∀ v H, Q v H → Q' v H) (e : ∀ c d H, E c d H → E' c d H) : r_over CT l m H Q' E' := ⟨fun a H' s => q _ _ (h.1 a H' s), fun a => Rz.imp (h.2 a) e⟩
end
def p_L_call (C CT : Addr) : P3 := fun x y z H Q E => ∃ k : Int, x = .int k ∧ (k = 0 → p_two C r_part y z H Q E) ∧ (k = 1 → p_two C (r_over CT) y z H Q E) ∧ (k = 2 → p_two C r_alike y z H Q E) ∧
  (k ≠ 0 → k ≠ 1 → k ≠ 2 → ∃ l m, y = S l ∧ z = S m ∧ IsRound l ∧ IsRound m ∧ r_over CT l m H Q E)
theorem p_L_call.imp {C CT : Addr} {x y z : V} {H : Hp} {Q Q' : VK} {E E' : XK} (h : p_L_call C CT x y z H Q E) (q : ∀ v H, Q v H → Q' v H) (e : ∀ c d H, E c d H → E' c d H) : p_L_call C CT x y z H Q' E' := by
  obtain ⟨k, rfl, h0, h1, h2, h3⟩ := h
  refine ⟨k, rfl, fun a => (h0 a).imp (fun l1 l2 k o H' a b => q _ _ (k o H' a b)) e, fun a => (h1 a).imp (fun l1 l2 k => r_over.imp k q e) e, fun a => (h2 a).imp (fun l1 l2 k r1 r2 H' a b c => q _ _ (k r1 r2 H' a b c)) e, fun a b c => ?_⟩
  obtain ⟨l, m, a1, a2, a3, a4, a5⟩ := h3 a b c
  exact ⟨l, m, a1, a2, a3, a4, a5.imp q e⟩
abbrev TOLD : List Nat := [116, 111, 108, 100]
abbrev ROUND : List Nat := [114, 111, 117, 110, 100]
abbrev LONG : List Nat := [108, 111, 110, 103]
def toldQ (Q : VK) : VK := fun v H1 => ∀ p, H1 p = none → Q (.ref p) (upd H1 p (.tup [S TOLD, v]))
def toldE (C CT : Addr) (Q : VK) : XK := fun cls d H1 => (cls = .ref C ∧ ∃ dd v, d = some dd ∧ H1 dd = some (.xd [("number", v)]) ∧ ∀ H2 p, Same H1 H2 → H2 p = none → Q (.ref p) (upd H2 p (.tup [S ROUND, v]))) ∨
  (cls = .ref CT ∧ ∃ dd v, d = some dd ∧ H1 dd = some (.xd [("number", v)]) ∧ ∀ H2 p, Same H1 H2 → H2 p = none → Q (.ref p) (upd H2 p (.tup [S LONG, v])))
def p_L_told (C CT : Addr) : P3 := fun x y z H Q _ => p_L_call C CT x y z H (toldQ Q) (toldE C CT Q)
theorem i_is_oV {o : Option Nat} {H : Hp} {Q : VK} (q : Q (.bl o.isNone) H) : isP (oV o) .non H Q := by
  cases o with
  | none => exact i_is_non q
  | some n => exact i_is_int q
section
variable {P : Program} {w : World} {K : PySem.W.Frag} {mg : Str → Option Value} {base : Heap} {C_GlimError C_BadRound C_BadBeats C_BadText C_TooLong : Addr}
theorem ok_L_call (T : Txt K mg C_GlimError C_BadRound C_BadBeats C_BadText C_TooLong) : OK P w K mg base (L2.CX P w) 7 "_law_call" ["_law_kind", "_law_first", "_law_second"] (sp3  (p_L_call C_BadRound C_TooLong)) := by
  refine OK.mkX (k := 6) T.d_L_call sc_L_call len3 fun f cdv A outer s H vs Q E hr h => ?_
  obtain ⟨x, y, z, rfl, h⟩ := h
  refine ⟨_, (pss_cons (ps_if (pt_cmpR (opEq K hr.units) (pv 0) pe_int (nomark _)) (pss_one (ps_ret (pe_f (ok_parting (K := K) T) (hr.mono (by decide)) (passes_call (takes_of rfl rfl rfl rfl) (fun _ _ _ _ h => h)) (pa_cons (pv 1) (pa_cons (pv 2) pa_nil))))) pss_nil) (pss_cons (ps_if (pt_cmpR (opEq K hr.units) (pv 0) pe_int (nomark _)) (pss_one (ps_ret (pe_f (ok_laid_over (K := K) T) (hr.mono (by decide)) (passes_call (takes_of rfl rfl rfl rfl) (fun _ _ _ _ h => h)) (pa_cons (pv 1) (pa_cons (pv 2) pa_nil))))) pss_nil) (pss_cons (ps_if (pt_cmpR (opEq K hr.units) (pv 0) pe_int (nomark _)) (pss_one (ps_ret (pe_f (ok_alike (K := K) T) (hr.mono (by decide)) (passes_call (takes_of rfl rfl rfl rfl) (fun _ _ _ _ h => h)) (pa_cons (pv 1) (pa_cons (pv 2) pa_nil))))) pss_nil) (pss_one (ps_ret (pe_f (ok_read_round (K := K) T) (hr.mono (by decide)) (passes_call (takes_of rfl rfl rfl rfl) (fun _ _ _ _ h => h)) (pa_cons (pe_op (opAdd K) (pe_op (opAdd K) (pv 1) (pe_S [38])) (pv 2)) pa_nil))))))), ?_⟩
  show (_ : TS) { nx := fun _ H' => Q .non H', rt := Q } [some x, some y, some z] H
  obtain ⟨k, rfl, h0, h1, h2, h3⟩ := h
  walk_at "go"
  refine i_dec (fun e => ?_) (fun e0 => ?_)
  · walk_at "go"
    exact h0 e
  walk_at "go"
  refine i_dec (fun e => ?_) (fun e1 => ?_)
  · walk_at "go"
    exact h1 e
  walk_at "go"
  refine i_dec (fun e => ?_) (fun e2 => ?_)
  · walk_at "go"
    exact h2 e
  obtain ⟨l, m, rfl, rfl, hl, hm, q, z⟩ := h3 e0 e1 e2
  have l2 := hl.2.1
  have m2 := hm.2.1
  walk_at "go"
  exact ⟨l, m, rfl, hl, hm, q, z⟩
theorem ok_L_told (T : Txt K mg C_GlimError C_BadRound C_BadBeats C_BadText C_TooLong) : OK P w K mg base CX0 8 "_law_told" ["_law_kind", "_law_first", "_law_second"] (sp3  (p_L_told C_BadRound C_TooLong)) := by
  refine OK.mk (k := 7) T.d_L_told sc_L_told len3 fun f cdv A outer s H vs Q E hr h => ?_
  obtain ⟨x, y, z, rfl, h⟩ := h
  refine ⟨_, (pss_cons (ps_try_as (i := 3) rfl rfl sc_L_told.nd rfl rfl ⟨rfl, by decide, Or.inl T.c_GlimError⟩ takes0 (fun W pn xe tk _ => (pss_one (ps_ret (pe_tup (pa_cons (pe_S [116, 111, 108, 100]) (pa_cons (pe_fS (ok_L_call (K := K) T) (hr.mono (by decide)) (fun σ => passAt tk σ) (pa_cons (pv 0) (pa_cons (pv 1) (pa_cons (pv 2) pa_nil)))) pa_nil)))))) (fun a oe cls d pn hz hf => (pss_cons (ps_set (i := 4) sc_L_told.nd rfl (Or.inl rfl) (pe_lst (pa_cons (pe_callB (cIsX K hz hf) (by rfl) T.b_isinstance (by decide +kernel) (pa_cons (pv 3) (pa_cons (pe_gR _ T.c_BadRound) pa_nil))) (pa_cons (pe_callB (cIsX K hz hf) (by rfl) T.b_isinstance (by decide +kernel) (pa_cons (pv 3) (pa_cons (pe_gR _ T.c_TooLong) pa_nil))) (pa_cons (pe_callB (cIsX K hz hf) (by rfl) T.b_isinstance (by decide +kernel) (pa_cons (pv 3) (pa_cons (pe_bltn (v := .ty "ValueError") (by rfl) T.b_ValueError (by decide +kernel) rfl) pa_nil))) pa_nil))))) (pss_cons (ps_if (pt_cmpR (opEq K hr.units) (pv 4) (pe_lst (pa_cons pe_bl (pa_cons pe_bl (pa_cons pe_bl pa_nil)))) (nomark _)) (pss_one (ps_ret (pe_tup (pa_cons (pe_S [114, 111, 117, 110, 100]) (pa_cons (pe_xf T.e_BadRound.xf T.nf_BadRound hz hf (pv 3)) pa_nil))))) pss_nil) (pss_one (ps_if (pt_cmpR (opEq K hr.units) (pv 4) (pe_lst (pa_cons pe_bl (pa_cons pe_bl (pa_cons pe_bl pa_nil)))) (nomark _)) (pss_one (ps_ret (pe_tup (pa_cons (pe_S [108, 111, 110, 103]) (pa_cons (pe_xf T.e_TooLong.xf T.nf_TooLong hz hf (pv 3)) pa_nil))))) pss_nil)))))) (pss_one (ps_ret (pe_tup (pa_cons (pe_S [110, 111, 110, 101]) (pa_cons pe_non pa_nil)))))), ?_⟩
  show (_ : TS) { nx := fun _ H' => Q .non H', rt := Q } [some x, some y, some z, none, none] H
  walk_at "go"
  refine p_L_call.imp h (fun v H1 k => ?_) (fun c dd H1 k => ?_)
  · walk_at "go"
    refine i_new (by show 2 ≤ 100000; omega) fun p np => ?_
    walk_at "go"
    exact k p np
  · rcases k with ⟨rfl, d, v, rfl, hd, k⟩ | ⟨rfl, d, v, rfl, hd, k⟩
    · refine i_caught T.m_BadRound_GlimError fun a na => ?_
      show (_ : TS) _ [some x, some y, some z, some (.ref a), none] H1
      walk_at "go"
      refine i_isX hd T.e_BadRound (.own _) T.k_BadRound_BadRound ?_
      walk_at "go"
      refine i_isX hd T.e_BadRound (.own _) T.k_BadRound_TooLong ?_
      walk_at "go"
      refine i_isX hd T.e_BadRound (.ty _) T.k_BadRound_ValueError ?_
      walk_at "go"
      refine i_new (by show 3 ≤ 100000; omega) fun p np => ?_
      walk_at "go"
      refine i_new (by show 3 ≤ 100000; omega) fun p2 np2 => ?_
      have npp : p ≠ p2 := fun e => by rw [e, upd_same] at np2; cases np2
      refine i_eq_data (.lst (.inl (.inl ((upd_ne npp).trans upd_same))) (dp_bls [true, false, true])) (.lst (.inl (.inl upd_same)) (dp_bls [true, false, true])) (by decide) (by decide) (r := true) (by decide) ?_
      walk_at "go"
      have np3 : H1 p2 = none := by rw [upd_ne (Ne.symm npp)] at np2; exact np2
      have s2 : Same H1 (upd (upd H1 p (.lst ([true, false, true].map V.bl))) p2 (.lst ([true, false, true].map V.bl))) := Same.upd (same_upd np) np3
      refine i_xf rfl (s2 _ _ hd) ?_
      walk_at "go"
      refine i_new (by show 2 ≤ 100000; omega) fun p3 np4 => ?_
      exact k _ p3 s2 np4
    · refine i_caught T.m_TooLong_GlimError fun a na => ?_
      show (_ : TS) _ [some x, some y, some z, some (.ref a), none] H1
      walk_at "go"
      refine i_isX hd T.e_TooLong (.own _) T.k_TooLong_BadRound ?_
      walk_at "go"
      refine i_isX hd T.e_TooLong (.own _) T.k_TooLong_TooLong ?_
      walk_at "go"
      refine i_isX hd T.e_TooLong (.ty _) T.k_TooLong_ValueError ?_
      walk_at "go"
      refine i_new (by show 3 ≤ 100000; omega) fun p np => ?_
      walk_at "go"
      refine i_new (by show 3 ≤ 100000; omega) fun p2 np2 => ?_
      have npp : p ≠ p2 := fun e => by rw [e, upd_same] at np2; cases np2
      refine i_eq_data (.lst (.inl (.inl ((upd_ne npp).trans upd_same))) (dp_bls [false, true, true])) (.lst (.inl (.inl upd_same)) (dp_bls [true, false, true])) (by decide) (by decide) (r := false) (by decide) ?_
      walk_at "go"
      have np3 : H1 p2 = none := by rw [upd_ne (Ne.symm npp)] at np2; exact np2
      have s2 : Same H1 (upd (upd H1 p (.lst ([false, true, true].map V.bl))) p2 (.lst ([true, false, true].map V.bl))) := Same.upd (same_upd np) np3
      refine i_new (by show 3 ≤ 100000; omega) fun p3 np4 => ?_
      have ne3 : p ≠ p3 := fun e => by rw [← e, upd_ne npp, upd_same] at np4; cases np4
      have np5 : H1 p3 = none := s2.free np4
      refine i_eq_data (.lst (.inl (.inl ((upd_ne ne3).trans ((upd_ne npp).trans upd_same)))) (dp_bls [false, true, true])) (.lst (.inl (.inl upd_same)) (dp_bls [false, true, true])) (by decide) (by decide) (r := true) (by decide) ?_
      walk_at "go"
      have s3 := s2.trans (same_upd (o := .lst ([false, true, true].map V.bl)) np4)
      refine i_xf rfl (s3 _ _ hd) ?_
      walk_at "go"
      refine i_new (by show 2 ≤ 100000; omega) fun p4 np6 => ?_
      exact k _ p4 s3 np6
def p_L_parting : P2 := fun x y H Q _ => ∃ l1 l2, x = S l1 ∧ y = S l2 ∧ IsRound l1 ∧ IsRound l2 ∧ ∀ o, IsPart l1 l2 o → Q (oV o) H
theorem ok_L_parting (T : Txt K mg C_GlimError C_BadRound C_BadBeats C_BadText C_TooLong) : OK P w K mg base CX0 1 "_law_parting" ["_law_first", "_law_second"] (sp2  p_L_parting) := by
  refine OK.mk (k := 0) T.d_L_parting sc_L_parting len2 fun f cdv A outer s H vs Q E hr h => ?_
  obtain ⟨x, y, rfl, h⟩ := h
  refine ⟨_, (pss_cons (ps_for PassesOwn.never rfl (pi_range1 rfl T.b_range (pa_cons (pe_op op_mulP (pe_callB (cLen K) (by rfl) T.b_len (by decide +kernel) (pa_cons (pv 0) pa_nil)) (pe_callB (cLen K) (by rfl) T.b_len (by decide +kernel) (pa_cons (pv 1) pa_nil))) pa_nil)) (pg_name (i := 2) sc_L_parting.nd rfl (Or.inl rfl)) (pss_one (ps_if (pt_cmpR (opNe K hr.units) (pe_ix (ixK K) (pv 0) (pe_op op_modP (pe_callTy call_intP (by rfl) T.b_int (by decide +kernel) (pa_cons (pv 2) pa_nil)) (pe_callB (cLen K) (by rfl) T.b_len (by decide +kernel) (pa_cons (pv 0) pa_nil))) (fun _ _ => rfl)) (pe_ix (ixK K) (pv 1) (pe_op op_modP (pe_callTy call_intP (by rfl) T.b_int (by decide +kernel) (pa_cons (pv 2) pa_nil)) (pe_callB (cLen K) (by rfl) T.b_len (by decide +kernel) (pa_cons (pv 1) pa_nil))) (fun _ _ => rfl)) (nomark _)) (pss_one (ps_ret (pv 2))) pss_nil))) (pss_one (ps_ret pe_non))), ?_⟩
  show (_ : TS) { nx := fun _ H' => Q .non H', rt := Q } [some x, some y, none] H
  obtain ⟨l1, l2, rfl, rfl, hl1, hl2, q⟩ := h
  have a1 := hl1.1
  have a2 := hl1.2.1
  have b1 := hl2.1
  have b2 := hl2.2.1
  have hmul : l1.length * l2.length ≤ 576 := Nat.mul_le_mul a2 b2
  walk_at "go"
  refine f_rng1 (l1.length * l2.length) (fun R k => by walk_at "go"; rw [Int.natCast_mul] at k; exact k) (by omega) (fun i σ H' => ∃ v, σ = [some (S l1), some (S l2), v] ∧ H' = H ∧ ∀ k < i, sq l1 k = sq l2 k) ⟨_, rfl, rfl, by omega⟩ ?_ ?_
  · rintro i σ H' hi ⟨v, rfl, rfl, hk⟩
    walk_at "go"
    have h1 : i % l1.length < l1.length := Nat.mod_lt _ (by omega)
    have h2 : i % l2.length < l2.length := Nat.mod_lt _ (by omega)
    rw [← Int.natCast_emod]
    refine i_ix_str (c := l1[i % l1.length]) (by omega) (by omega) (by rw [Int.toNat_natCast]; exact List.getElem?_eq_getElem h1) ?_
    walk_at "go"
    rw [← Int.natCast_emod]
    refine i_ix_str (c := l2[i % l2.length]) (by omega) (by omega) (by rw [Int.toNat_natCast]; exact List.getElem?_eq_getElem h2) ?_
    walk_at "go"
    have e1 : sq l1 i = some l1[i % l1.length] := List.getElem?_eq_getElem h1
    have e2 : sq l2 i = some l2[i % l2.length] := List.getElem?_eq_getElem h2
    refine i_decN (fun e => ?_) (fun e => ?_)
    · walk_at "go"
      exact q (some i) ⟨hi, fun z => e (by rw [e1, e2] at z; rw [Option.some.inj z]), hk⟩
    · walk_at "go"
      refine ⟨_, rfl, rfl, fun k hk' => ?_⟩
      by_cases e' : k < i
      · exact hk k e'
      · have : k = i := by omega
        subst this
        rw [e1, e2]
        simpa using e
  · rintro σ H' ⟨v, rfl, rfl, hk⟩
    walk_at "go"
    exact q none hk
def dueOver (l m : List Nat) : HO := if Nat.lcm l.length m.length ≤ 24 then .tup [S TOLD, S (over l m)] else .tup [S LONG, .int ((Nat.lcm l.length m.length : Nat) : Int)]
def p_L_over : P2 := fun x y H Q _ => ∃ l1 l2, x = S l1 ∧ y = S l2 ∧ IsRound l1 ∧ IsRound l2 ∧ ∀ p, H p = none → Q (.ref p) (upd H p (dueOver l1 l2))
theorem dvd_int {a b : Nat} : (((a : Int) % (b : Int)) = 0) ↔ b ∣ a := by
  rw [← Int.natCast_emod, Nat.dvd_iff_mod_eq_zero]
  omega
theorem ok_L_over (T : Txt K mg C_GlimError C_BadRound C_BadBeats C_BadText C_TooLong) : OK P w K mg base CX0 1 "_law_over" ["_law_first", "_law_second"] (sp2  p_L_over) := by
  refine OK.mk (k := 0) T.d_L_over sc_L_over len2 fun f cdv A outer s H vs Q E hr h => ?_
  obtain ⟨x, y, rfl, h⟩ := h
  refine ⟨_, (pss_cons (ps_set (i := 2) sc_L_over.nd rfl (Or.inl rfl) (pe_callB (call_max2 rfl) (by rfl) T.b_max (by decide +kernel) (pa_cons (pe_callB (cLen K) (by rfl) T.b_len (by decide +kernel) (pa_cons (pv 0) pa_nil)) (pa_cons (pe_callB (cLen K) (by rfl) T.b_len (by decide +kernel) (pa_cons (pv 1) pa_nil)) pa_nil)))) (pss_cons (ps_while PassesOwn.never (pw_or (pt_cmpR (opNe K hr.units) (pe_op op_modP (pe_callTy call_intP (by rfl) T.b_int (by decide +kernel) (pa_cons (pv 2) pa_nil)) (pe_callB (cLen K) (by rfl) T.b_len (by decide +kernel) (pa_cons (pv 0) pa_nil))) pe_int (nomark _)) (pw_or1 (pt_cmpR (opNe K hr.units) (pe_op op_modP (pe_callTy call_intP (by rfl) T.b_int (by decide +kernel) (pa_cons (pv 2) pa_nil)) (pe_callB (cLen K) (by rfl) T.b_len (by decide +kernel) (pa_cons (pv 1) pa_nil))) pe_int (nomark _)))).pt (pss_one (ps_set (i := 2) sc_L_over.nd rfl (Or.inl rfl) (pe_op (opAdd K) (pv 2) pe_int)))) (pss_cons (ps_if (pt_cmpR op_gtP (pv 2) pe_int (nomark _)) (pss_one (ps_ret (pe_tup (pa_cons (pe_S [108, 111, 110, 103]) (pa_cons (pv 2) pa_nil))))) pss_nil) (pss_cons (ps_set (i := 3) sc_L_over.nd rfl (Or.inl rfl) (pe_S [])) (pss_cons (ps_for PassesOwn.never rfl (pi_range1 rfl T.b_range (pa_cons (pv 2) pa_nil)) (pg_name (i := 4) sc_L_over.nd rfl (Or.inl rfl)) (pss_cons (ps_set (i := 5) sc_L_over.nd rfl (Or.inl rfl) (pe_ix (ixK K) (pv 0) (pe_op op_modP (pe_callTy call_intP (by rfl) T.b_int (by decide +kernel) (pa_cons (pv 4) pa_nil)) (pe_callB (cLen K) (by rfl) T.b_len (by decide +kernel) (pa_cons (pv 0) pa_nil))) (fun _ _ => rfl))) (Evl.pss_cut (ps_if (pt_cmpR (opEq K hr.units) (pv 5) (pe_S [46]) (nomark _)) (pss_one (ps_set (i := 5) sc_L_over.nd rfl (Or.inl rfl) (pe_ix (ixK K) (pv 1) (pe_op op_modP (pe_callTy call_intP (by rfl) T.b_int (by decide +kernel) (pa_cons (pv 4) pa_nil)) (pe_callB (cLen K) (by rfl) T.b_len (by decide +kernel) (pa_cons (pv 1) pa_nil))) (fun _ _ => rfl)))) pss_nil) (pss_one (ps_set (i := 3) sc_L_over.nd rfl (Or.inl rfl) (pe_op (opAdd K) (pv 3) (pv 5))))))) (pss_one (ps_ret (pe_tup (pa_cons (pe_S [116, 111, 108, 100]) (pa_cons (pv 3) pa_nil)))))))))), ?_⟩
  show (_ : TS) { nx := fun _ H' => Q .non H', rt := Q } [some x, some y, none, none, none, none] H
  obtain ⟨l, m, rfl, rfl, hl, hm, q⟩ := h
  have a1 := hl.1
  have a2 := hl.2.1
  have b1 := hm.1
  have b2 := hm.2.1
  have lc := lcm24 a1 b1 a2 b2
  have d1 := Nat.dvd_lcm_left l.length m.length
  have d2 := Nat.dvd_lcm_right l.length m.length
  have le1 := Nat.le_of_dvd lc.1 d1
  have le2 := Nat.le_of_dvd lc.1 d2
  walk_at "go"
  refine ⟨(l.length : Int), (m.length : Int), rfl, ?_⟩
  have key : ∃ n : Nat, (if (m.length : Int) > (l.length : Int) then (m.length : Int) else (l.length : Int)) = (n : Int) ∧ 1 ≤ n ∧ n ≤ Nat.lcm l.length m.length := by
    by_cases h : (m.length : Int) > (l.length : Int)
    · exact ⟨m.length, if_pos h, b1, le2⟩
    · exact ⟨l.length, if_neg h, a1, le1⟩
  obtain ⟨n0, e0, p0, q0⟩ := key
  rw [e0]
  walk_at "go"
  unfold dueOver at q
  generalize hL : Nat.lcm l.length m.length = L at *
  refine i_while (fun k σ H' => ∃ n : Nat, σ = [some (S l), some (S m), some (.int (n : Int)), none, none, none] ∧ H' = H ∧ n + k = L ∧ 1 ≤ n) (L - n0) ⟨n0, rfl, rfl, by omega, p0⟩ ?_
  rintro k σ H' ⟨n, rfl, rfl, hk, n1⟩
  have more : ¬ (l.length ∣ n ∧ m.length ∣ n) → 1 ≤ k := fun h => by
    by_cases e : k = 0
    · have : n = L := by omega
      subst this
      exact absurd ⟨d1, d2⟩ h
    · omega
  have last : l.length ∣ n → m.length ∣ n → n = L := fun h1 h2 => by
    have := Nat.le_of_dvd (by omega) (Nat.lcm_dvd h1 h2)
    omega
  walk_at "go"
  refine i_decN (fun e => ?_) (fun e => ?_)
  · walk_at "go"
    refine i_turn ?_
    walk_at "go"
    have := more fun h => e (dvd_int.mpr h.1)
    exact ⟨k - 1, by omega, n + 1, rfl, rfl, by omega, by omega⟩
  walk_at "go"
  refine i_decN (fun e' => i_turn ?_) (fun e' => ?_)
  · walk_at "go"
    have := more fun h => e' (dvd_int.mpr h.2)
    exact ⟨k - 1, by omega, n + 1, rfl, rfl, by omega, by omega⟩
  have := last (dvd_int.mp e) (dvd_int.mp e')
  subst this
  walk_at "go"
  refine i_dec (fun e => ?_) (fun e => ?_)
  · walk_at "go"
    refine i_new (by show 2 ≤ 100000; omega) fun p np => ?_
    rw [if_neg (by omega)] at q
    exact q p np
  rw [if_pos (by omega)] at q
  walk_at "go"
  refine f_rng1 n (fun R k => by walk_at "go"; exact k) (by omega) (fun i σ H2 => ∃ v4 v5, σ = [some (S l), some (S m), some (.int (n : Int)), some (S (overN l m i)), v4, v5] ∧ H2 = H') ⟨_, _, rfl, rfl⟩ ?_ ?_
  · rintro i σ H2 hi ⟨v4, v5, rfl, rfl⟩
    have h1 : i % l.length < l.length := Nat.mod_lt _ (by omega)
    have h2 : i % m.length < m.length := Nat.mod_lt _ (by omega)
    have hol := overN_len l m i
    walk_at "go"
    rw [← Int.natCast_emod]
    refine i_ix_str (c := l.getD (i % l.length) 0) (by omega) (by omega) (by rw [Int.toNat_natCast, List.getD_eq_getElem?_getD, List.getElem?_eq_getElem h1]; rfl) ?_
    walk_at "go"
    refine i_cut (fun σ H3 => ∃ v4, σ = [some (S l), some (S m), some (.int (n : Int)), some (S (overN l m i)), v4, some (S [lit (l.getD (i % l.length) 0) (m.getD (i % m.length) 0)])] ∧ H3 = H2) ?_ ?_
    · walk_at "go"
      refine i_dec (fun e => ?_) (fun e => ?_)
      · walk_at "go"
        rw [← Int.natCast_emod]
        refine i_ix_str (c := m.getD (i % m.length) 0) (by omega) (by omega) (by rw [Int.toNat_natCast, List.getD_eq_getElem?_getD, List.getElem?_eq_getElem h2]; rfl) ?_
        walk_at "go"
        refine ⟨some (.int (i : Int)), ?_, rfl⟩
        rw [lit, if_pos (List.cons.inj e).1]
      · refine ⟨some (.int (i : Int)), ?_, rfl⟩
        rw [lit, if_neg (fun z => e (by rw [z]))]
    · rintro σ H3 ⟨v4, rfl, rfl⟩
      walk_at "go"
      rw [← overN_succ]
      exact ⟨_, _, rfl, rfl⟩
  · rintro σ H2 ⟨v4, v5, rfl, rfl⟩
    walk_at "go"
    refine i_new (by show 2 ≤ 100000; omega) fun p np => ?_
    have : over l m = overN l m n := by unfold over; rw [hL]
    rw [this] at q
    exact q p np
end
end K08
namespace K08
open PySem PySem.Spec PyProof.Rows L2 Fg
local macro_rules | `(tactic| walk_at "sq") => `(tactic| first
  | assumption
  | exact .inl (.inl (by assumption))
  | exact .inl (.inl upd_same))
local macro_rules | `(tactic| walk_at "st") => `(tactic| first
  | assumption
  | exact .inl (.inl (by assumption))
  | exact .inl (.inl upd_same))
local macro_rules | `(tactic| walk_at "o") => `(tactic| first
  | omega
  | assumption
  | (simp only [List.length_append, List.length_take, List.length_drop, List.length_cons, List.length_nil, List.length_singleton, List.length_map, List.length_range, Int.toNat_natCast] ; omega))
local macro_rules | `(tactic| walk_at "s") => `(tactic| first
  | (with_reducible refine i_seq ?_)
  | (with_reducible refine i_asg ?_)
  | ((with_reducible refine' i_var ?h1 ?_); (case h1 => rfl))
  | (with_reducible refine i_c ?_)
  | ((with_reducible refine' i_gname' ?h1 ?_); (case h1 => (simp only [List.set_cons_zero, List.set_cons_succ]; rfl)))
  | (with_reducible refine i_op ?_)
  | (with_reducible refine i_ifS ?_)
  | (with_reducible refine i_for ?_)
  | (with_reducible refine i_test ?_)
  | (with_reducible refine i_B ?_)
  | (with_reducible refine i_exbl ?_)
  | (with_reducible refine i_exint ?_)
  | (with_reducible refine i_cb ?_)
  | (with_reducible refine i_nil ?_)
  | (with_reducible refine i_cons ?_)
  | (with_reducible refine i_ret ?_)
  | (with_reducible refine i_sl ?_)
  | (with_reducible refine i_nopart ?_)
  | (with_reducible refine i_part ?_)
  | (with_reducible refine i_add_int ?_)
  | (with_reducible refine i_sub ?_)
  | (with_reducible refine i_lt ?_)
  | ((with_reducible refine' i_mod ?h1 ?_); (case h1 => walk_at "o"))
  | ((with_reducible refine' i_fdiv ?h1 ?_); (case h1 => (refine cdiv_small ?_ ?_ <;> walk_at "o")))
  | ((with_reducible refine' i_sl_to ?h1 ?h2 ?_); (case h1 => walk_at "o"); (case h2 => walk_at "o"))
  | ((with_reducible refine' i_sl_from ?h1 ?h2 ?_); (case h1 => walk_at "o"); (case h2 => walk_at "o"))
  | ((with_reducible refine' i_add_str ?h1 ?_); (case h1 => walk_at "o"))
  | ((with_reducible refine' i_mul_int ?h1 ?_); (case h1 => first | (refine mul_small ?_ ?_ <;> walk_at "o") | (refine mul_smallR ?_ ?_ <;> walk_at "o")))
  | (with_reducible refine i_le ?_)
  | (with_reducible refine i_gt ?_)
  | (with_reducible refine i_ge ?_)
  | (with_reducible refine i_eq_int ?_)
  | (with_reducible refine i_eq_str ?_)
  | (with_reducible refine i_ne_int ?_)
  | (with_reducible refine i_ne_str ?_)
  | (with_reducible refine i_eq_bl ?_)
  | (with_reducible refine i_ne_bl ?_)
  | (with_reducible refine i_in_sg ?_)
  | (with_reducible refine i_notIn_sg ?_)
  | (with_reducible refine i_call ?_)
  | (with_reducible refine i_callS ?_)
  | (with_reducible refine i_sp1 ?_)
  | (with_reducible refine i_sp2 ?_)
  | (with_reducible refine i_sp3 ?_)
  | (with_reducible refine i_sp4 ?_)
  | (with_reducible refine i_sp1' ?_)
  | (with_reducible refine i_sp2' ?_)
  | (with_reducible refine i_sp3' ?_)
  | ((with_reducible refine' i_ix_lst ?h1 ?h2 ?_); (case h1 => walk_at "sq"); (case h2 => first | exact atI_nat rfl | rfl))
  | ((with_reducible refine' i_ix_tup ?h1 ?h2 ?_); (case h1 => walk_at "st"); (case h2 => first | exact atI_nat rfl | rfl))
  | (with_reducible refine i_gsub ?_)
  | (with_reducible refine i_par ?_)
  | (with_reducible refine i_lstRg1 ?_)
  | (with_reducible refine i_app ?_)
  | (with_reducible refine i_par2 ?_)
  | ((with_reducible refine' i_aug ?h1 ?_); (case h1 => rfl))
  | (with_reducible refine i_ipI ?_)
  | ((with_reducible refine' i_gtup2 ?h1 ?_); (case h1 => walk_at "st"))
  | (with_reducible refine i_int_bl ?_)
  | (with_reducible refine i_raise ?_)
  | (with_reducible refine i_mkE ?_)
  | (with_reducible refine i_ex1 ?_)
  | (with_reducible refine i_and ?_)
  | (with_reducible refine i_or ?_)
  | (with_reducible refine i_not ?_)
  | (with_reducible refine i_tt ?_)
  | (with_reducible refine i_ff ?_)
  | (with_reducible refine i_nott ?_)
  | (with_reducible refine i_notf ?_)
  | (with_reducible refine i_andV ?_)
  | (with_reducible refine i_orV ?_)
  | (with_reducible refine i_notV ?_)
  | (with_reducible refine i_ifE ?_)
  | (with_reducible refine i_tup ?_)
  | (with_reducible refine i_lst ?_)
  | (with_reducible refine i_un ?_)
  | (with_reducible refine i_neg ?_)
  | (with_reducible refine i_chain ?_)
  | (with_reducible refine i_next ?_)
  | (with_reducible refine i_retN ?_)
  | (with_reducible refine i_drop ?_)
  | (with_reducible refine i_int_int ?_)
  | (with_reducible refine i_abs ?_)
  | (with_reducible refine i_m1c ?_)
  | (with_reducible refine i_is_non ?_)
  | (with_reducible refine i_is_int ?_)
  | (with_reducible refine i_is_bl ?_)
  | (with_reducible refine i_isn_bl ?_)
  | (with_reducible refine i_is_str ?_)
  | (with_reducible refine i_is_ref ?_)
  | (with_reducible refine i_isn_non ?_)
  | (with_reducible refine i_isn_int ?_)
  | (with_reducible refine i_isn_str ?_)
  | (with_reducible refine i_isn_ref ?_)
  | (with_reducible refine i_len_str ?h1 ?_; (case h1 => walk_at "o"))
  | (with_reducible refine i_isi_int_int ?_) | (with_reducible refine i_isi_int_bool ?_) | (with_reducible refine i_isi_int_str ?_) | (with_reducible refine i_isi_int_tuple ?_) | (with_reducible refine i_isi_int_list ?_)
  | (with_reducible refine i_isi_bl_int ?_) | (with_reducible refine i_isi_bl_bool ?_) | (with_reducible refine i_isi_bl_str ?_) | (with_reducible refine i_isi_bl_tuple ?_) | (with_reducible refine i_isi_bl_list ?_)
  | (with_reducible refine i_isi_str_int ?_) | (with_reducible refine i_isi_str_bool ?_) | (with_reducible refine i_isi_str_str ?_) | (with_reducible refine i_isi_str_tuple ?_) | (with_reducible refine i_isi_str_list ?_)
  | (with_reducible refine i_isi_non_int ?_) | (with_reducible refine i_isi_non_bool ?_) | (with_reducible refine i_isi_non_str ?_) | (with_reducible refine i_isi_non_tuple ?_) | (with_reducible refine i_isi_non_list ?_))
local macro_rules | `(tactic| walk_at "go") => `(tactic| (repeat' (walk_at "s")))
local macro_rules | `(tactic| walk_at "n") => `(tactic| simp only [wipe, List.map_cons, List.map_nil, List.set_cons_zero, List.set_cons_succ])
/-- a new object, known or not -/
theorem Dr.skip {K : PySem.W.Frag} {d : Dd} {H0 H : Hp} {q : Addr} {o : HO} (h : Dr K d H0 H) (n : H q = none) : Dr K d H0 (upd H q o) := h.same (same_upd n)
theorem firstBad_at {l : List Nat} {p : Nat} {c : Nat} (h : l[p]? = some c) (hc : c ∉ SG) (hb : ∀ j < p, ∀ x, l[j]? = some x → x ∈ SG) : firstBad l = some p := by
  unfold firstBad
  obtain ⟨hp, rfl⟩ := List.getElem?_eq_some_iff.mp h
  rw [List.findIdx?_eq_some_iff_getElem]
  refine ⟨hp, by simp [hc], fun j hj => ?_⟩
  have := hb j hj l[j] (List.getElem?_eq_getElem (by omega))
  simp [this]
theorem Dr.step {K : PySem.W.Frag} {d : Dd} {Hk H : Hp} {p : Addr} (o : HO) (h : Dr K d Hk H) (n : H p = none) : ∃ Hk', Same Hk Hk' ∧ Hk' p = some o ∧ Dr K d Hk' (upd H p o) := ⟨upd Hk p o, same_upd (h.free n), upd_same, h.new n⟩
theorem Dr.back {K : PySem.W.Frag} {d : Dd} {H0 H1 H H' : Hp} (h : Dr K d H1 H) (dr : Dr K d H0 H') (s : Same H0 H1) : Dr K d H0 H := by
  obtain ⟨s1, n1, hc1, hl, p, b, u, x, sd, ha, hp⟩ := h
  obtain ⟨s0, n0, hc, _⟩ := dr
  exact ⟨s.trans s1, n0, hc, hl, p, b, u, x, sd, ha, hp⟩
section
variable {C CT : Addr} {y : V} {H : Hp} {Q : VK} {E : XK} {l m : List Nat}
theorem told0 (hl : IsRound l) (hm : IsRound m) (q : ∀ o H1 p, IsPart l m o → Same H H1 → H1 p = none → Q (.ref p) (upd H1 p (.tup [S TOLD, oV o]))) : p_L_told C CT (.int 0) (S l) (S m) H Q E :=
  ⟨0, rfl, fun _ => .inl ⟨l, rfl, hl, .inl ⟨m, rfl, hm, fun o H' ho s p np => q o H' p ho s np⟩⟩, fun e => absurd e (by decide), fun e => absurd e (by decide), fun e => absurd rfl e⟩
theorem told2 (hl : IsRound l) (hm : IsRound m) (q : ∀ r1 r2 H1 p, IsShort l r1 → IsShort m r2 → Same H H1 → H1 p = none → Q (.ref p) (upd H1 p (.tup [S TOLD, .bl (decide (r1 = r2))]))) : p_L_told C CT (.int 2) (S l) (S m) H Q E :=
  ⟨2, rfl, fun e => absurd e (by decide), fun e => absurd e (by decide), fun _ => .inl ⟨l, rfl, hl, .inl ⟨m, rfl, hm, fun r1 r2 H' a b s p np => q r1 r2 H' p a b s np⟩⟩, fun _ _ e => absurd rfl e⟩
theorem over_told (q : ∀ H1 p, Same H H1 → H1 p = none → Q (.ref p) (upd H1 p (dueOver l m))) : r_over CT l m H (toldQ Q) (toldE C CT Q) := by
  unfold dueOver at q
  refine ⟨fun a H1 s1 p np => ?_, fun a dd H1 n s1 e => .inr ⟨rfl, dd, _, rfl, e, fun H2 p s2 np => ?_⟩⟩
  · rw [if_pos a] at q
    exact q H1 p s1 np
  · rw [if_neg (by omega)] at q
    exact q H2 p (s1.trans s2) np
theorem told13 {z : Int} (hz : z = 1 ∨ z = 3) (hl : IsRound l) (hm : IsRound m) (q : ∀ H1 p, Same H H1 → H1 p = none → Q (.ref p) (upd H1 p (dueOver l m))) : p_L_told C CT (.int z) (S l) (S m) H Q E :=
  ⟨z, rfl, fun e => absurd e (by omega), fun _ => .inl ⟨l, rfl, hl, .inl ⟨m, rfl, hm, over_told q⟩⟩, fun e => absurd e (by omega), fun _ _ _ => ⟨l, m, rfl, rfl, hl, hm, over_told q⟩⟩
theorem rz_told {v : V} (q : ∀ H' p, Same H H' → H' p = none → Q (.ref p) (upd H' p (.tup [S ROUND, v]))) : Rz (toldE C CT Q) H C "number" v :=
  fun dd H' n s e => .inl ⟨rfl, dd, v, rfl, e, fun H2 p s2 np => q H2 p (s.trans s2) np⟩
theorem told_bad {x : V} {k : Int} (z : Int) (h0 : 0 ≤ z) (h3 : z < 3) (b : BadR H x k) (q : ∀ H' p, Same H H' → H' p = none → Q (.ref p) (upd H' p (.tup [S ROUND, .int k]))) : p_L_told C CT (.int z) x y H Q E :=
  have zz : BadX C H x (toldE C CT Q) := ⟨k, b, rz_told q⟩
  ⟨z, rfl, fun _ => .inr zz, fun _ => .inr zz, fun _ => .inr zz, fun a b c => absurd h3 (by omega)⟩
theorem told_bad2 {k : Int} (z : Int) (h0 : 0 ≤ z) (h3 : z < 3) (hl : IsRound l) (b : BadR H y k) (q : ∀ H' p, Same H H' → H' p = none → Q (.ref p) (upd H' p (.tup [S ROUND, .int k]))) : p_L_told C CT (.int z) (S l) y H Q E :=
  have zz : BadX C H y (toldE C CT Q) := ⟨k, b, rz_told q⟩
  ⟨z, rfl, fun _ => .inl ⟨l, rfl, hl, .inr zz⟩, fun _ => .inl ⟨l, rfl, hl, .inr zz⟩, fun _ => .inl ⟨l, rfl, hl, .inr zz⟩, fun a b c => absurd h3 (by omega)⟩
end
theorem turn_headI {l : List Nat} (hl : 1 ≤ l.length) {n : Int} (h : 0 ≤ n) : ∃ c, sq l n.toNat = some c ∧ (turn l (n % (l.length : Int)).toNat).take (Int.toNat 1) = [c] := by
  obtain ⟨m, rfl⟩ : ∃ m : Nat, n = (m : Int) := ⟨n.toNat, by omega⟩
  rw [← Int.natCast_emod, Int.toNat_natCast, Int.toNat_natCast]
  exact turn_head hl m
theorem sq_back {l : List Nat} {i q : Nat} : sq l (i + l.length * q) = sq l i := (sq_per l).mul q i
def Ev (v : V) : Prop := v = .non ∨ (∃ b, v = .bl b) ∨ (∃ i, v = .int i) ∨ ∃ l, v = S l
section
variable {P : Program} {w : World} {K : PySem.W.Frag} {mg : Str → Option Value} {base : Heap} {C_GlimError C_BadRound C_BadBeats C_BadText C_TooLong : Addr}
def p_L_equal : P2 := fun x y H Q _ => ∃ p p' w v, x = .ref p ∧ y = .ref p' ∧ H p = some (.tup [S w, v]) ∧ H p' = some (.tup [S w, v]) ∧ Ev v ∧ Q (.bl true) H
theorem ok_L_equal (T : Txt K mg C_GlimError C_BadRound C_BadBeats C_BadText C_TooLong) : OK P w K mg base CX0 2 "_law_equal" ["_law_told_here", "_law_due"] (sp2  p_L_equal) := by
  refine OK.mk (k := 1) T.d_L_equal sc_L_equal len2 fun f cdv A outer s H vs Q E hr h => ?_
  obtain ⟨x, y, rfl, h⟩ := h
  refine ⟨_, (pss_cons (ps_if (pt_cmpR (opNe K hr.units) (pe_ix (ixK K) (pv 0) pe_int (fun _ _ => rfl)) (pe_ix (ixK K) (pv 1) pe_int (fun _ _ => rfl)) (nomark _)) (pss_one (ps_ret pe_bl)) pss_nil) (pss_cons (ps_if (pt_cmpR op_isP (pe_ix (ixK K) (pv 1) pe_int (fun _ _ => rfl)) pe_non (nomark _)) (pss_one (ps_ret (pe_cmpR op_isP (pe_ix (ixK K) (pv 0) pe_int (fun _ _ => rfl)) pe_non (nomark _)))) pss_nil) (pss_cons (ps_if (pt_val (pe_callB (cIsi K) (by rfl) T.b_isinstance (by decide +kernel) (pa_cons (pe_ix (ixK K) (pv 1) pe_int (fun _ _ => rfl)) (pa_cons (pe_bltn (v := .ty "bool") (by rfl) T.b_bool (by decide +kernel) rfl) pa_nil)))) (pss_one (ps_ret (pe_and (pe_callB (cIsi K) (by rfl) T.b_isinstance (by decide +kernel) (pa_cons (pe_ix (ixK K) (pv 0) pe_int (fun _ _ => rfl)) (pa_cons (pe_bltn (v := .ty "bool") (by rfl) T.b_bool (by decide +kernel) rfl) pa_nil))) (pe_one (pe_cmpR (opEq K hr.units) (pe_ix (ixK K) (pv 0) pe_int (fun _ _ => rfl)) (pe_ix (ixK K) (pv 1) pe_int (fun _ _ => rfl)) (nomark _)))))) pss_nil) (pss_cons (ps_if (pt_val (pe_callB (cIsi K) (by rfl) T.b_isinstance (by decide +kernel) (pa_cons (pe_ix (ixK K) (pv 1) pe_int (fun _ _ => rfl)) (pa_cons (pe_bltn (v := .ty "int") (by rfl) T.b_int (by decide +kernel) rfl) pa_nil)))) (pss_one (ps_ret (pe_and (pe_f (ok_L_is_int (K := K) T) (hr.mono (by decide)) pass0 (pa_cons (pe_ix (ixK K) (pv 0) pe_int (fun _ _ => rfl)) pa_nil)) (pe_one (pe_cmpR (opEq K hr.units) (pe_ix (ixK K) (pv 0) pe_int (fun _ _ => rfl)) (pe_ix (ixK K) (pv 1) pe_int (fun _ _ => rfl)) (nomark _)))))) pss_nil) (pss_one (ps_ret (pe_and (pe_callB (cIsi K) (by rfl) T.b_isinstance (by decide +kernel) (pa_cons (pe_ix (ixK K) (pv 0) pe_int (fun _ _ => rfl)) (pa_cons (pe_bltn (v := .ty "str") (by rfl) T.b_str (by decide +kernel) rfl) pa_nil))) (pe_one (pe_cmpR (opEq K hr.units) (pe_ix (ixK K) (pv 0) pe_int (fun _ _ => rfl)) (pe_ix (ixK K) (pv 1) pe_int (fun _ _ => rfl)) (nomark _)))))))))), ?_⟩
  show (_ : TS) { nx := fun _ H' => Q .non H', rt := Q } [some x, some y] H
  obtain ⟨p, p', w', v, rfl, rfl, hp, hp', ev, q⟩ := h
  walk_at "go"
  refine i_decN (fun e => absurd rfl e) (fun _ => ?_)
  rcases ev with rfl | ⟨b, rfl⟩ | ⟨i, rfl⟩ | ⟨l, rfl⟩
  · walk_at "go"
    exact q
  · walk_at "go"
    rw [decide_eq_true rfl]
    exact q
  · walk_at "go"
    refine ⟨.inr (.inr (.inr (.inl ⟨_, rfl⟩))), ?_⟩
    rw [show isI (.int i) = true from rfl]
    walk_at "go"
    rw [decide_eq_true rfl]
    exact q
  · walk_at "go"
    rw [decide_eq_true rfl]
    exact q
def p_L_pair (K : PySem.W.Frag) : P3 := fun x y z H Q _ => ∃ (H0 : Hp) (d : Dd) (l m : List Nat), x = .ref d.a ∧ y = S l ∧ z = S m ∧ Dr K d H0 H ∧ IsRound l ∧ IsRound m ∧ ∀ H', Dr K d H0 H' → Q (.bl true) H'
theorem ok_L_pair_right (T : Txt K mg C_GlimError C_BadRound C_BadBeats C_BadText C_TooLong) : OK P w K mg base CX0 9 "_law_pair_right" ["_law_draw_here", "_law_first", "_law_second"] (sp3  (p_L_pair K)) := by
  refine OK.mk (k := 8) T.d_L_pair_right sc_L_pair_right len3 fun f cdv A outer s H vs Q E hr h => ?_
  obtain ⟨x, y, z, rfl, h⟩ := h
  refine ⟨_, (pss_cons (ps_set (i := 3) sc_L_pair_right.nd rfl (Or.inl rfl) (pe_f (ok_L_parting (K := K) T) (hr.mono (by decide)) pass0 (pa_cons (pv 1) (pa_cons (pv 2) pa_nil)))) (pss_cons (ps_if (pt_not (pt_val (pe_f (ok_L_equal (K := K) T) (hr.mono (by decide)) pass0 (pa_cons (pe_f (ok_L_told (K := K) T) (hr.mono (by decide)) pass0 (pa_cons pe_int (pa_cons (pv 1) (pa_cons (pv 2) pa_nil)))) (pa_cons (pe_tup (pa_cons (pe_S [116, 111, 108, 100]) (pa_cons (pv 3) pa_nil))) pa_nil))))) (pss_one (ps_ret pe_bl)) pss_nil) (pss_cons (ps_if (pt_not (pt_val (pe_f (ok_L_equal (K := K) T) (hr.mono (by decide)) pass0 (pa_cons (pe_f (ok_L_told (K := K) T) (hr.mono (by decide)) pass0 (pa_cons pe_int (pa_cons (pv 2) (pa_cons (pv 1) pa_nil)))) (pa_cons (pe_tup (pa_cons (pe_S [116, 111, 108, 100]) (pa_cons (pv 3) pa_nil))) pa_nil))))) (pss_one (ps_ret pe_bl)) pss_nil) (pss_cons (ps_if (pt_not (pt_val (pe_f (ok_L_equal (K := K) T) (hr.mono (by decide)) pass0 (pa_cons (pe_f (ok_L_told (K := K) T) (hr.mono (by decide)) pass0 (pa_cons pe_int (pa_cons (pv 1) (pa_cons (pv 2) pa_nil)))) (pa_cons (pe_tup (pa_cons (pe_S [116, 111, 108, 100]) (pa_cons (pe_cmpR op_isP (pv 3) pe_non (nomark _)) pa_nil))) pa_nil))))) (pss_one (ps_ret pe_bl)) pss_nil) (pss_cons (ps_for PassesOwn.never rfl (piAny K (pe_lst (pa_cons pe_int (pa_cons pe_int pa_nil)))) (pg_name (i := 4) sc_L_pair_right.nd rfl (Or.inl rfl)) (pss_one (ps_if (pt_not (pt_val (pe_f (ok_L_equal (K := K) T) (hr.mono (by decide)) pass0 (pa_cons (pe_f (ok_L_told (K := K) T) (hr.mono (by decide)) pass0 (pa_cons (pv 4) (pa_cons (pv 1) (pa_cons (pv 2) pa_nil)))) (pa_cons (pe_f (ok_L_over (K := K) T) (hr.mono (by decide)) pass0 (pa_cons (pv 1) (pa_cons (pv 2) pa_nil))) pa_nil))))) (pss_one (ps_ret pe_bl)) pss_nil))) (pss_cons (ps_set (i := 5) sc_L_pair_right.nd rfl (Or.inl rfl) (pe_f (ok_L_pick (K := K) T) (hr.mono (by decide)) pass0 (pa_cons (pv 0) (pa_cons (pe_op op_powP pe_int pe_int) pa_nil)))) (pss_cons (ps_if (pt_cmpR op_isP (pv 3) pe_non (nomark _)) (pss_one (ps_ret (pe_cmpR (opEq K hr.units) (pe_slice (slK K) (pe_f (ok_turned (K := K) T) (hr.mono (by decide)) Fg.passN (pa_cons (pv 1) (pa_cons (pv 5) pa_nil))) po_none (po_some pe_int)) (pe_slice (slK K) (pe_f (ok_turned (K := K) T) (hr.mono (by decide)) Fg.passN (pa_cons (pv 2) (pa_cons (pv 5) pa_nil))) po_none (po_some pe_int)) (nomark _)))) pss_nil) (pss_cons (ps_set (i := 5) sc_L_pair_right.nd rfl (Or.inl rfl) (pe_op (opAdd K) (pe_op op_mulP (pe_op op_mulP (pv 5) (pe_callB (cLen K) (by rfl) T.b_len (by decide +kernel) (pa_cons (pv 1) pa_nil))) (pe_callB (cLen K) (by rfl) T.b_len (by decide +kernel) (pa_cons (pv 2) pa_nil))) (pv 3))) (pss_one (ps_ret (pe_and (pe_cmpR (opNe K hr.units) (pe_slice (slK K) (pe_f (ok_turned (K := K) T) (hr.mono (by decide)) Fg.passN (pa_cons (pv 1) (pa_cons (pv 3) pa_nil))) po_none (po_some pe_int)) (pe_slice (slK K) (pe_f (ok_turned (K := K) T) (hr.mono (by decide)) Fg.passN (pa_cons (pv 2) (pa_cons (pv 3) pa_nil))) po_none (po_some pe_int)) (nomark _)) (pe_one (pe_cmpR (opEq K hr.units) (pe_slice (slK K) (pe_f (ok_turned (K := K) T) (hr.mono (by decide)) Fg.passN (pa_cons (pv 1) (pa_cons (pv 5) pa_nil))) po_none (po_some pe_int)) (pe_slice (slK K) (pe_f (ok_turned (K := K) T) (hr.mono (by decide)) Fg.passN (pa_cons (pv 1) (pa_cons (pv 3) pa_nil))) po_none (po_some pe_int)) (nomark _)))))))))))))), ?_⟩
  show (_ : TS) { nx := fun _ H' => Q .non H', rt := Q } [some x, some y, some z, none, none, none] H
  obtain ⟨H0, d, l, m, rfl, rfl, rfl, dr, hl, hm, q⟩ := h
  have a1 := hl.1
  have a2 := hl.2.1
  have b1 := hm.1
  have b2 := hm.2.1
  have evo : ∀ o, Ev (oV o) := fun o => by
    cases o with
    | none => exact .inl rfl
    | some n => exact .inr (.inr (.inl ⟨_, rfl⟩))
  walk_at "go"
  refine ⟨l, m, rfl, rfl, hl, hm, fun o ho => ?_⟩
  walk_at "go"
  refine told0 hl hm fun o1 H1 p1 ho1 s1 n1 => ?_
  have e := ho1.one ho
  subst e
  walk_at "go"
  refine i_new (by show 2 ≤ 100000; omega) fun p2 n2 => ?_
  walk_at "go"
  refine ⟨p1, p2, TOLD, oV o1, rfl, rfl, (upd_ne (fun e => by rw [← e, upd_same] at n2; cases n2)).trans upd_same, upd_same, evo _, ?_⟩
  have dr1 := (((dr.same s1).skip (o := .tup [S TOLD, oV o1]) n1).skip (o := .tup [S TOLD, oV o1]) n2)
  walk_at "go"
  refine told0 hm hl fun o2 H2 p3 ho2 s2 n3 => ?_
  have e := ho2.one ho.symm
  subst e
  walk_at "go"
  refine i_new (by show 2 ≤ 100000; omega) fun p4 n4 => ?_
  walk_at "go"
  refine ⟨p3, p4, TOLD, oV o2, rfl, rfl, (upd_ne (fun e => by rw [← e, upd_same] at n4; cases n4)).trans upd_same, upd_same, evo _, ?_⟩
  have dr2 := (((dr1.same s2).skip (o := .tup [S TOLD, oV o2]) n3).skip (o := .tup [S TOLD, oV o2]) n4)
  walk_at "go"
  refine told2 hl hm fun r1 r2 H3 p5 hr1 hr2 s3 n5 => ?_
  rw [alike_eq a1 b1 hr1 hr2 ho]
  walk_at "go"
  refine i_is_oV ?_
  walk_at "go"
  refine i_new (by show 2 ≤ 100000; omega) fun p6 n6 => ?_
  walk_at "go"
  refine ⟨p5, p6, TOLD, _, rfl, rfl, (upd_ne (fun e => by rw [← e, upd_same] at n6; cases n6)).trans upd_same, upd_same, .inr (.inl ⟨_, rfl⟩), ?_⟩
  have dr3 := (((dr2.same s3).skip (o := .tup [S TOLD, .bl o2.isNone]) n5).skip (o := .tup [S TOLD, .bl o2.isNone]) n6)
  walk_at "go"
  refine i_new (by show 2 ≤ 100000; omega) fun pl nl => ?_
  obtain ⟨HG, sG, eG, drG⟩ := dr3.step (.lst [.int 1, .int 3]) nl
  refine i_forL (.inl (.inl upd_same)) (fun i σ' H' => ∃ v, σ' = [some (.ref d.a), some (S l), some (S m), some (oV o2), v, none] ∧ Dr K d HG H') ⟨_, rfl, drG⟩ ?_ ?_ ?_
  · rintro i σ' H' _ ⟨v, rfl, dr4⟩
    exact .inl (.inl (dr4.old eG))
  · rintro i x σ' H4 hi ⟨v, rfl, dr4⟩
    have hx : ∃ z : Int, x = .int z ∧ (z = 1 ∨ z = 3) := by
      match i, hi with
      | 0, h => exact ⟨1, (Option.some.inj h).symm, .inl rfl⟩
      | 1, h => exact ⟨3, (Option.some.inj h).symm, .inr rfl⟩
    obtain ⟨z, rfl, hz⟩ := hx
    walk_at "go"
    refine told13 hz hl hm fun H5 p7 s5 n7 => ?_
    walk_at "go"
    refine ⟨l, m, rfl, rfl, hl, hm, fun p8 n8 => ?_⟩
    walk_at "go"
    have key : ∃ w v, dueOver l m = .tup [S w, v] ∧ Ev v := by
      unfold dueOver
      split
      · exact ⟨_, _, rfl, .inr (.inr (.inr ⟨_, rfl⟩))⟩
      · exact ⟨_, _, rfl, .inr (.inr (.inl ⟨_, rfl⟩))⟩
    obtain ⟨w, v', ew, ev⟩ := key
    refine ⟨p7, p8, w, v', rfl, rfl, ?_, ?_, ev, ?_⟩
    · rw [upd_ne (fun e => by rw [← e, upd_same] at n8; cases n8), upd_same, ew]
    · rw [upd_same, ew]
    · walk_at "go"
      exact ⟨_, rfl, ((dr4.same s5).skip n7).skip n8⟩
  · rintro σ' H4 ⟨v, rfl, dr4⟩
    walk_at "go"
    refine i_pow (by decide +kernel) ?_
    walk_at "go"
    refine ⟨HG, d, _, rfl, rfl, dr4, by decide +kernel, fun n H5 dr5 b5 => ?_⟩
    have n0 := b5.1
    have fin : ∀ H', Dr K d HG H' → Q (.bl true) H' := fun H' dr' => q H' (dr'.back dr3 sG)
    have tu : ∀ {r : List Nat} (hr : IsRound r) {n : Int}, 0 ≤ n → (turn r (n % (r.length : Int)).toNat).length ≤ 100000 := fun {r} hr {n} h => by
      have h1 := hr.1
      have h2 := hr.2.1
      have := Int.emod_lt_of_pos n (show (0 : Int) < r.length by omega)
      rw [turn_len _ _ (by omega)]; omega
    walk_at "go"
    cases o2 with
    | none =>
      have al := IsPart.all a1 b1 ho
      refine i_is_oV ?_
      walk_at "go"
      rw [show (none : Option Nat).isNone = true from rfl]
      walk_at "go"
      refine .inl ⟨l, rfl, hl, .inl ⟨n, rfl, n0, fun H6 s6 => ?_⟩⟩
      walk_at "go"
      refine i_sl_to (tu hl n0) (by decide) ?_
      walk_at "go"
      refine .inl ⟨m, rfl, hm, .inl ⟨n, rfl, n0, fun H7 s7 => ?_⟩⟩
      walk_at "go"
      refine i_sl_to (tu hm n0) (by decide) ?_
      walk_at "go"
      obtain ⟨c1, h1, h2⟩ := turn_headI a1 n0
      obtain ⟨c2, h3, h4⟩ := turn_headI b1 n0
      rw [al, h3] at h1
      rw [h2, h4, Option.some.inj h1, decide_eq_true rfl]
      exact fin H7 ((dr5.same s6).same s7)
    | some k =>
      refine i_is_oV ?_
      walk_at "go"
      rw [show (some k).isNone = false from rfl, show oV (some k) = .int (k : Int) from rfl]
      walk_at "go"
      have k0 : (0 : Int) ≤ (k : Int) := by omega
      have big : (0 : Int) ≤ n * (l.length : Int) * (m.length : Int) + (k : Int) := by
        have : 0 ≤ n * (l.length : Int) * (m.length : Int) := Int.mul_nonneg (Int.mul_nonneg n0 (by omega)) (by omega)
        omega
      refine .inl ⟨l, rfl, hl, .inl ⟨(k : Int), rfl, k0, fun H6 s6 => ?_⟩⟩
      walk_at "go"
      refine i_sl_to (tu hl k0) (by decide) ?_
      walk_at "go"
      refine .inl ⟨m, rfl, hm, .inl ⟨(k : Int), rfl, k0, fun H7 s7 => ?_⟩⟩
      walk_at "go"
      refine i_sl_to (tu hm k0) (by decide) ?_
      walk_at "go"
      obtain ⟨c1, h1, h2⟩ := turn_headI a1 k0
      obtain ⟨c2, h3, h4⟩ := turn_headI b1 k0
      obtain ⟨c3, h5, h6⟩ := turn_headI a1 big
      rw [Int.toNat_natCast] at h1 h3
      have ne : c1 ≠ c2 := fun e => ho.2.1.symm (by rw [h1, h3, e])
      rw [h2, h4, decide_eq_false (fun e => ne (List.cons.inj e).1)]
      walk_at "go"
      refine .inl ⟨l, rfl, hl, .inl ⟨_, rfl, big, fun H8 s8 => ?_⟩⟩
      walk_at "go"
      refine i_sl_to (tu hl big) (by decide) ?_
      walk_at "go"
      refine .inl ⟨l, rfl, hl, .inl ⟨(k : Int), rfl, k0, fun H9 s9 => ?_⟩⟩
      walk_at "go"
      refine i_sl_to (tu hl k0) (by decide) ?_
      walk_at "go"
      have eb : (n * (l.length : Int) * (m.length : Int) + (k : Int)).toNat = k + l.length * (n.toNat * m.length) := by
        obtain ⟨j, rfl⟩ : ∃ j : Nat, n = (j : Int) := ⟨n.toNat, by omega⟩
        rw [Int.toNat_natCast]
        have : (j : Int) * (l.length : Int) * (m.length : Int) + (k : Int) = ((k + l.length * (j * m.length) : Nat) : Int) := by
          simp only [Int.natCast_add, Int.natCast_mul]
          rw [Int.mul_comm (j : Int) (l.length : Int), Int.mul_assoc]
          omega
        rw [this, Int.toNat_natCast]
      rw [eb, sq_back, h1] at h5
      rw [h6, h2, Option.some.inj h5, decide_eq_true rfl]
      exact fin H9 ((((dr5.same s6).same s7).same s8).same s9)
def p_L_bad_round (K : PySem.W.Frag) : P2 := fun x y H Q _ => ∃ (H0 : Hp) (d : Dd) (l : List Nat), x = .ref d.a ∧ y = S l ∧ Dr K d H0 H ∧ IsRound l ∧
  ∀ v k p Hk H', Same H0 Hk → Hk p = some (.tup [v, .int k]) → Dr K d Hk H' → BadR Hk v k → Q (.ref p) H'
theorem ok_L_bad_round (T : Txt K mg C_GlimError C_BadRound C_BadBeats C_BadText C_TooLong) : OK P w K mg base CX0 3 "_law_bad_round" ["_law_draw_here", "_law_row"] (sp2  (p_L_bad_round K)) := by
  refine OK.mk (k := 2) T.d_L_bad_round sc_L_bad_round len2 fun f cdv A outer s H vs Q E hr h => ?_
  obtain ⟨x, y, rfl, h⟩ := h
  refine ⟨_, (pss_cons (ps_if (pt_cmpR (opEq K hr.units) (pe_f (ok_L_pick (K := K) T) (hr.mono (by decide)) pass0 (pa_cons (pv 0) (pa_cons pe_int pa_nil))) pe_int (nomark _)) (pss_cons (ps_set (i := 2) sc_L_bad_round.nd rfl (Or.inl rfl) (pe_lst (pa_cons (pe_S []) (pa_cons (pe_slice (slK K) (pe_op op_mulP (pv 1) pe_int) po_none (po_some pe_int)) (pa_cons (pe_op op_mulP (pe_S [120]) pe_int) (pa_cons pe_non (pa_cons pe_int (pa_cons pe_bl (pa_cons (pe_tup (pa_cons (pe_S [119]) pa_nil)) (pa_cons (pe_lst (pa_cons (pe_S [119]) pa_nil)) pa_nil)))))))))) (pss_one (ps_ret (pe_tup (pa_cons (pe_ix (ixK K) (pv 2) (pe_f (ok_L_pick (K := K) T) (hr.mono (by decide)) pass0 (pa_cons (pv 0) (pa_cons pe_int pa_nil))) (fun _ _ => rfl)) (pa_cons (pe_un un_neg pe_int) pa_nil)))))) pss_nil) (pss_cons (ps_set (i := 3) sc_L_bad_round.nd rfl (Or.inl rfl) (pe_f (ok_L_pick (K := K) T) (hr.mono (by decide)) pass0 (pa_cons (pv 0) (pa_cons (pe_callB (cLen K) (by rfl) T.b_len (by decide +kernel) (pa_cons (pv 1) pa_nil)) pa_nil)))) (pss_cons (ps_set (i := 4) sc_L_bad_round.nd rfl (Or.inl rfl) (pe_op (opAdd K) (pv 3) (pe_f (ok_L_pick (K := K) T) (hr.mono (by decide)) pass0 (pa_cons (pv 0) (pa_cons (pe_op op_subP (pe_callB (cLen K) (by rfl) T.b_len (by decide +kernel) (pa_cons (pv 1) pa_nil)) (pv 3)) pa_nil))))) (pss_cons (ps_set (i := 5) sc_L_bad_round.nd rfl (Or.inl rfl) (pe_op (opAdd K) (pe_op (opAdd K) (pe_slice (slK K) (pv 1) po_none (po_some (pv 4))) (pe_ix (ixK K) (pe_S [120, 87, 71, 48, 45, 44, 32, 38]) (pe_f (ok_L_pick (K := K) T) (hr.mono (by decide)) pass0 (pa_cons (pv 0) (pa_cons pe_int pa_nil))) (fun _ _ => rfl))) (pe_slice (slK K) (pv 1) (po_some (pe_op (opAdd K) (pv 4) pe_int)) po_none))) (pss_one (ps_ret (pe_tup (pa_cons (pe_op (opAdd K) (pe_op (opAdd K) (pe_slice (slK K) (pv 5) po_none (po_some (pv 3))) (pe_ix (ixK K) (pe_S [120, 87, 71, 48, 45, 44, 32, 38]) (pe_f (ok_L_pick (K := K) T) (hr.mono (by decide)) pass0 (pa_cons (pv 0) (pa_cons pe_int pa_nil))) (fun _ _ => rfl))) (pe_slice (slK K) (pv 5) (po_some (pe_op (opAdd K) (pv 3) pe_int)) po_none)) (pa_cons (pv 3) pa_nil))))))))), ?_⟩
  show (_ : TS) { nx := fun _ H' => Q .non H', rt := Q } [some x, some y, none, none, none, none] H
  obtain ⟨H0, d, l, rfl, rfl, dr, hl, q⟩ := h
  have l1 := hl.1
  have l2 := hl.2.1
  walk_at "go"
  refine ⟨H0, d, 3, rfl, rfl, dr, by decide, fun n H1 dr1 b => ?_⟩
  walk_at "go"
  refine i_dec (fun e => ?_) (fun e => ?_)
  · walk_at "go"
    refine i_mul_strI (by decide) ⟨by show l.length * 25 ≤ _; omega, by decide⟩ ?_
    have hm : (List.replicate (Int.toNat 25) l).flatten.length = 25 * l.length := rep_len _ _
    generalize (List.replicate (Int.toNat 25) l).flatten = m at *
    walk_at "go"
    refine i_mul_strI (by decide) ⟨by decide, by decide⟩ ?_
    walk_at "go"
    refine i_new (by show 1 ≤ 100000; omega) fun p1 n1 => ?_
    walk_at "go"
    refine i_new (by show 1 ≤ 100000; omega) fun p2 n2 => ?_
    walk_at "go"
    refine i_new (by show 8 ≤ 100000; omega) fun p3 n3 => ?_
    walk_at "go"
    have ne12 : p1 ≠ p2 := fun z => by rw [z, upd_same] at n2; cases n2
    have ne13 : p1 ≠ p3 := fun z => by rw [z, upd_ne (z ▸ ne12), ← z, upd_same] at n3; cases n3
    have ne23 : p2 ≠ p3 := fun z => by rw [z, upd_same] at n3; cases n3
    have dr2 := dr1.new (o := .tup [S [119]]) n1
    have dr3 := dr2.new (o := .lst [S [119]]) n2
    have m1 := dr1.free n1
    have m2 := dr2.free n2
    have m3 := dr3.free n3
    refine ⟨_, d, 8, rfl, rfl, dr3.new n3, by decide, fun n' H2 dr4 b' => ?_⟩
    have b0 := b'.1
    have b1 := b'.2.1 (by decide)
    have s0 : Same H0 _ := ((same_upd (o := .tup [S [119]]) m1).trans (same_upd (o := .lst [S [119]]) m2)).trans (same_upd (o := .lst [S [], S (List.take (Int.toNat 25) m), S (List.replicate (Int.toNat 25) [120]).flatten, V.non, V.int 7, V.bl true, V.ref p1, V.ref p2]) m3)
    have key : ∃ v, [S [], S (List.take (Int.toNat 25) m), S (List.replicate (Int.toNat 25) [120]).flatten, V.non, V.int 7, V.bl true, V.ref p1, V.ref p2][n'.toNat]? = some v ∧ BadR (upd (upd (upd H0 p1 (.tup [S [119]])) p2 (.lst [S [119]])) p3 (.lst [S [], S (List.take (Int.toNat 25) m), S (List.replicate (Int.toNat 25) [120]).flatten, V.non, V.int 7, V.bl true, V.ref p1, V.ref p2])) v (-1) := by
      have hn : n'.toNat = 0 ∨ n'.toNat = 1 ∨ n'.toNat = 2 ∨ n'.toNat = 3 ∨ n'.toNat = 4 ∨ n'.toNat = 5 ∨ n'.toNat = 6 ∨ n'.toNat = 7 := by omega
      rcases hn with h | h | h | h | h | h | h | h <;> rw [h]
      · exact ⟨_, rfl, .inr ⟨_, rfl, by decide, .inl ⟨by decide, rfl⟩⟩⟩
      · refine ⟨_, rfl, .inr ⟨_, rfl, ?_, .inl ⟨?_, rfl⟩⟩⟩
        · rw [List.length_take, hm]; show min 25 _ ≤ _; omega
        · rw [List.length_take, hm]; show ¬ (1 ≤ min 25 _ ∧ min 25 _ ≤ 24); omega
      · exact ⟨_, rfl, .inr ⟨_, rfl, by decide, .inl ⟨by decide, rfl⟩⟩⟩
      · exact ⟨_, rfl, .inl ⟨.inl rfl, rfl⟩⟩
      · exact ⟨_, rfl, .inl ⟨.inr (.inr (.inl ⟨_, rfl⟩)), rfl⟩⟩
      · exact ⟨_, rfl, .inl ⟨.inr (.inl ⟨_, rfl⟩), rfl⟩⟩
      · exact ⟨_, rfl, .inl ⟨.inr (.inr (.inr ⟨p1, _, rfl, .inl (by rw [upd_ne ne13, upd_ne ne12, upd_same])⟩)), rfl⟩⟩
      · exact ⟨_, rfl, .inl ⟨.inr (.inr (.inr ⟨p2, _, rfl, .inr (by rw [upd_ne ne23, upd_same])⟩)), rfl⟩⟩
    obtain ⟨v, hv, bv⟩ := key
    refine i_ix_lst (v := v) (.inl (.inl (dr4.old upd_same))) (atI_int b0 hv) ?_
    walk_at "go"
    refine i_new (by show 2 ≤ 100000; omega) fun p4 n4 => ?_
    have m4 := dr4.free n4
    exact q v (-1) p4 _ _ (s0.trans (same_upd m4)) upd_same (dr4.new n4) (bv.mono (same_upd m4))
  · walk_at "go"
    have sg : ∀ i < 8, ∃ c, ([120, 87, 71, 48, 45, 44, 32, 38] : List Nat)[i]? = some c ∧ c ∉ SG := by decide
    refine ⟨H0, d, l.length, rfl, rfl, dr1, by omega, fun pl H2 dr2 b2 => ?_⟩
    have c0 := b2.1
    have c1 := b2.2.1
    have c2 := b2.2.2
    have hp : pl < l.length := by omega
    walk_at "go"
    refine ⟨H0, d, _, rfl, rfl, dr2, by omega, fun x H3 dr3 b3 => ?_⟩
    have d0 := b3.1
    have d1 := b3.2.1
    have d2 := b3.2.2
    have hx : pl + x < l.length := by omega
    walk_at "go"
    refine ⟨H0, d, _, rfl, rfl, dr3, by decide, fun i1 H4 dr4 b4 => ?_⟩
    obtain ⟨e1, hc1, hs1⟩ := sg i1.toNat (by have := b4.1; have := b4.2.1 (by decide); omega)
    refine i_ix_str (by decide) b4.1 hc1 ?_
    walk_at "go"
    have la : (l.take (pl + x).toNat ++ [e1] ++ l.drop (pl + x + 1).toNat).length = l.length := by
      simp only [List.length_append, List.length_take, List.length_drop, List.length_singleton]; omega
    have ga : ∀ j < pl.toNat, (l.take (pl + x).toNat ++ [e1] ++ l.drop (pl + x + 1).toNat)[j]? = l[j]? := fun j hj => by
      rw [List.append_assoc, List.getElem?_append_left (by rw [List.length_take]; omega), List.getElem?_take_of_lt (by omega)]
    generalize l.take (pl + x).toNat ++ [e1] ++ l.drop (pl + x + 1).toNat = m at *
    walk_at "go"
    refine ⟨H0, d, _, rfl, rfl, dr4, by decide, fun i2 H5 dr5 b5 => ?_⟩
    obtain ⟨e2, hc2, hs2⟩ := sg i2.toNat (by have := b5.1; have := b5.2.1 (by decide); omega)
    refine i_ix_str (by decide) b5.1 hc2 ?_
    walk_at "go"
    refine i_new (by show 2 ≤ 100000; omega) fun p4 n4 => ?_
    have m4 := dr5.free n4
    refine q _ pl p4 _ _ (same_upd m4) upd_same (dr5.new n4) (.inr ⟨_, rfl, ?_, .inr ⟨?_, pl.toNat, ?_, by omega⟩⟩)
    · simp only [List.length_append, List.length_take, List.length_drop, List.length_singleton]; omega
    · simp only [List.length_append, List.length_take, List.length_drop, List.length_singleton]; omega
    · refine firstBad_at (c := e2) ?_ hs2 fun j hj y hy => ?_
      · rw [List.append_assoc, List.getElem?_append_right (by rw [List.length_take]; omega), List.length_take, show pl.toNat - min pl.toNat m.length = 0 by omega]
        rfl
      · rw [List.append_assoc, List.getElem?_append_left (by rw [List.length_take]; omega), List.getElem?_take_of_lt (by omega), ga j hj] at hy
        exact hl.2.2 _ (List.mem_of_getElem? hy)
end
end K08
namespace K08
open PySem PySem.Spec PyProof.Rows L2 Fg
local macro_rules | `(tactic| walk_at "sq") => `(tactic| first
  | assumption
  | exact .inl (.inl (by assumption))
  | exact .inl (.inl upd_same))
local macro_rules | `(tactic| walk_at "st") => `(tactic| first
  | assumption
  | exact .inl (.inl (by assumption))
  | exact .inl (.inl upd_same))
local macro_rules | `(tactic| walk_at "o") => `(tactic| first
  | omega
  | assumption
  | (simp only [List.length_append, List.length_take, List.length_drop, List.length_cons, List.length_nil, List.length_singleton, List.length_map, List.length_range, Int.toNat_natCast] ; omega))
local macro_rules | `(tactic| walk_at "s") => `(tactic| first
  | (with_reducible refine i_seq ?_)
  | (with_reducible refine i_asg ?_)
  | ((with_reducible refine' i_var ?h1 ?_); (case h1 => rfl))
  | (with_reducible refine i_c ?_)
  | ((with_reducible refine' i_gname' ?h1 ?_); (case h1 => (simp only [List.set_cons_zero, List.set_cons_succ]; rfl)))
  | (with_reducible refine i_op ?_)
  | (with_reducible refine i_ifS ?_)
  | (with_reducible refine i_for ?_)
  | (with_reducible refine i_test ?_)
  | (with_reducible refine i_B ?_)
  | (with_reducible refine i_exbl ?_)
  | (with_reducible refine i_exint ?_)
  | (with_reducible refine i_cb ?_)
  | (with_reducible refine i_nil ?_)
  | (with_reducible refine i_cons ?_)
  | (with_reducible refine i_ret ?_)
  | (with_reducible refine i_sl ?_)
  | (with_reducible refine i_nopart ?_)
  | (with_reducible refine i_part ?_)
  | (with_reducible refine i_add_int ?_)
  | (with_reducible refine i_sub ?_)
  | (with_reducible refine i_lt ?_)
  | ((with_reducible refine' i_mod ?h1 ?_); (case h1 => walk_at "o"))
  | ((with_reducible refine' i_fdiv ?h1 ?_); (case h1 => (refine cdiv_small ?_ ?_ <;> walk_at "o")))
  | ((with_reducible refine' i_sl_to ?h1 ?h2 ?_); (case h1 => walk_at "o"); (case h2 => walk_at "o"))
  | ((with_reducible refine' i_sl_from ?h1 ?h2 ?_); (case h1 => walk_at "o"); (case h2 => walk_at "o"))
  | ((with_reducible refine' i_add_str ?h1 ?_); (case h1 => walk_at "o"))
  | ((with_reducible refine' i_mul_int ?h1 ?_); (case h1 => first | (refine mul_small ?_ ?_ <;> walk_at "o") | (refine mul_smallR ?_ ?_ <;> walk_at "o")))
  | (with_reducible refine i_le ?_)
  | (with_reducible refine i_gt ?_)
  | (with_reducible refine i_ge ?_)
  | (with_reducible refine i_eq_int ?_)
  | (with_reducible refine i_eq_str ?_)
  | (with_reducible refine i_ne_int ?_)
  | (with_reducible refine i_ne_str ?_)
  | (with_reducible refine i_eq_bl ?_)
  | (with_reducible refine i_ne_bl ?_)
  | (with_reducible refine i_in_sg ?_)
  | (with_reducible refine i_notIn_sg ?_)
  | (with_reducible refine i_call ?_)
  | (with_reducible refine i_callS ?_)
  | (with_reducible refine i_sp1 ?_)
  | (with_reducible refine i_sp2 ?_)
  | (with_reducible refine i_sp3 ?_)
  | (with_reducible refine i_sp4 ?_)
  | (with_reducible refine i_sp1' ?_)
  | (with_reducible refine i_sp2' ?_)
  | (with_reducible refine i_sp3' ?_)
  | ((with_reducible refine' i_ix_lst ?h1 ?h2 ?_); (case h1 => walk_at "sq"); (case h2 => first | exact atI_nat rfl | rfl))
  | ((with_reducible refine' i_ix_tup ?h1 ?h2 ?_); (case h1 => walk_at "st"); (case h2 => first | exact atI_nat rfl | rfl))
  | (with_reducible refine i_gsub ?_)
  | (with_reducible refine i_par ?_)
  | (with_reducible refine i_lstRg1 ?_)
  | (with_reducible refine i_app ?_)
  | (with_reducible refine i_par2 ?_)
  | ((with_reducible refine' i_aug ?h1 ?_); (case h1 => rfl))
  | (with_reducible refine i_ipI ?_)
  | ((with_reducible refine' i_gtup2 ?h1 ?_); (case h1 => walk_at "st"))
  | (with_reducible refine i_int_bl ?_)
  | (with_reducible refine i_raise ?_)
  | (with_reducible refine i_mkE ?_)
  | (with_reducible refine i_ex1 ?_)
  | (with_reducible refine i_and ?_)
  | (with_reducible refine i_or ?_)
  | (with_reducible refine i_not ?_)
  | (with_reducible refine i_tt ?_)
  | (with_reducible refine i_ff ?_)
  | (with_reducible refine i_nott ?_)
  | (with_reducible refine i_notf ?_)
  | (with_reducible refine i_andV ?_)
  | (with_reducible refine i_orV ?_)
  | (with_reducible refine i_notV ?_)
  | (with_reducible refine i_ifE ?_)
  | (with_reducible refine i_tup ?_)
  | (with_reducible refine i_lst ?_)
  | (with_reducible refine i_un ?_)
  | (with_reducible refine i_neg ?_)
  | (with_reducible refine i_chain ?_)
  | (with_reducible refine i_next ?_)
  | (with_reducible refine i_retN ?_)
  | (with_reducible refine i_drop ?_)
  | (with_reducible refine i_int_int ?_)
  | (with_reducible refine i_abs ?_)
  | (with_reducible refine i_m1c ?_)
  | (with_reducible refine i_is_non ?_)
  | (with_reducible refine i_is_int ?_)
  | (with_reducible refine i_is_bl ?_)
  | (with_reducible refine i_isn_bl ?_)
  | (with_reducible refine i_is_str ?_)
  | (with_reducible refine i_is_ref ?_)
  | (with_reducible refine i_isn_non ?_)
  | (with_reducible refine i_isn_int ?_)
  | (with_reducible refine i_isn_str ?_)
  | (with_reducible refine i_isn_ref ?_)
  | (with_reducible refine i_len_str ?h1 ?_; (case h1 => walk_at "o"))
  | (with_reducible refine i_isi_int_int ?_) | (with_reducible refine i_isi_int_bool ?_) | (with_reducible refine i_isi_int_str ?_) | (with_reducible refine i_isi_int_tuple ?_) | (with_reducible refine i_isi_int_list ?_)
  | (with_reducible refine i_isi_bl_int ?_) | (with_reducible refine i_isi_bl_bool ?_) | (with_reducible refine i_isi_bl_str ?_) | (with_reducible refine i_isi_bl_tuple ?_) | (with_reducible refine i_isi_bl_list ?_)
  | (with_reducible refine i_isi_str_int ?_) | (with_reducible refine i_isi_str_bool ?_) | (with_reducible refine i_isi_str_str ?_) | (with_reducible refine i_isi_str_tuple ?_) | (with_reducible refine i_isi_str_list ?_)
  | (with_reducible refine i_isi_non_int ?_) | (with_reducible refine i_isi_non_bool ?_) | (with_reducible refine i_isi_non_str ?_) | (with_reducible refine i_isi_non_tuple ?_) | (with_reducible refine i_isi_non_list ?_))
local macro_rules | `(tactic| walk_at "go") => `(tactic| (repeat' (walk_at "s")))
local macro_rules | `(tactic| walk_at "n") => `(tactic| simp only [wipe, List.map_cons, List.map_nil, List.set_cons_zero, List.set_cons_succ])
section
variable {P : Program} {w : World} {K : PySem.W.Frag} {mg : Str → Option Value} {base : Heap} {C_GlimError C_BadRound C_BadBeats C_BadText C_TooLong : Addr}
/-- a list of two rounds -/
def Pr (H : Hp) (p : Addr) : Prop := ∃ la lb, H p = some (.lst [S la, S lb]) ∧ IsRound la ∧ IsRound lb
theorem Pr.mono {H H' : Hp} {p : Addr} (h : Pr H p) (s : Same H H') : Pr H' p := by
  obtain ⟨la, lb, h1, h2⟩ := h
  exact ⟨la, lb, s _ _ h1, h2⟩
/-- what the law asks -/
def p_law (K : PySem.W.Frag) : P1 := fun x H Q _ => ∃ (a : Addr) (ns : List Int), x = .ref a ∧ SqL K H a (ns.map V.int) ∧ ns.length ≤ 63 ∧ ∀ H', Q (.bl true) H'
theorem ok_law_at {f : Addr} {fd : FuncData} (F : Fun K "law" "law" s_law f fd) (T : Txt K mg C_GlimError C_BadRound C_BadBeats C_BadText C_TooLong) : FnOk P w K mg base CX0 10 f fd ["_law_script"] (sp1 (p_law K)) := by
  refine FnOK.mk (k := 9) F sc_law len1 fun cdv A outer s H vs Q E hr h => ?_
  obtain ⟨x, rfl, h⟩ := h
  refine ⟨_, (pss_cons (ps_set (i := 1) sc_law.nd rfl (Or.inl rfl) (pe_f (ok_L_draw (K := K) T) (hr.mono (by decide)) pass0 (pa_cons (pv 0) pa_nil))) (pss_cons (ps_set (i := 2) sc_law.nd rfl (Or.inl rfl) (pe_f (ok_L_two_rounds (K := K) T) (hr.mono (by decide)) pass0 (pa_cons (pv 1) pa_nil))) (pss_cons (ps_set (i := 3) sc_law.nd rfl (Or.inl rfl) (pe_f (ok_L_two_rounds (K := K) T) (hr.mono (by decide)) pass0 (pa_cons (pv 1) pa_nil))) (pss_cons (ps_for PassesOwn.never rfl (piAny K (pe_lst (pa_cons (pv 2) (pa_cons (pv 3) (pa_cons (pe_lst (pa_cons (pe_ix (ixK K) (pv 2) pe_int (fun _ _ => rfl)) (pa_cons (pe_ix (ixK K) (pv 3) pe_int (fun _ _ => rfl)) pa_nil))) (pa_cons (pe_lst (pa_cons (pe_ix (ixK K) (pv 2) pe_int (fun _ _ => rfl)) (pa_cons (pe_ix (ixK K) (pv 2) pe_int (fun _ _ => rfl)) pa_nil))) (pa_cons (pe_lst (pa_cons (pe_ix (ixK K) (pv 3) pe_int (fun _ _ => rfl)) (pa_cons (pe_ix (ixK K) (pv 3) pe_int (fun _ _ => rfl)) pa_nil))) pa_nil))))))) (pg_name (i := 4) sc_law.nd rfl (Or.inl rfl)) (pss_one (ps_if (pt_not (pt_val (pe_f (ok_L_pair_right (K := K) T) (hr.mono (by decide)) pass0 (pa_cons (pv 1) (pa_cons (pe_ix (ixK K) (pv 4) pe_int (fun _ _ => rfl)) (pa_cons (pe_ix (ixK K) (pv 4) pe_int (fun _ _ => rfl)) pa_nil)))))) (pss_one (ps_ret pe_bl)) pss_nil))) (pss_cons (ps_set (i := 5) sc_law.nd rfl (Or.inl rfl) (pe_f (ok_L_bad_round (K := K) T) (hr.mono (by decide)) pass0 (pa_cons (pv 1) (pa_cons (pe_ix (ixK K) (pv 2) pe_int (fun _ _ => rfl)) pa_nil)))) (pss_cons (ps_set (i := 6) sc_law.nd rfl (Or.inl rfl) (pe_f (ok_L_bad_round (K := K) T) (hr.mono (by decide)) pass0 (pa_cons (pv 1) (pa_cons (pe_ix (ixK K) (pv 2) pe_int (fun _ _ => rfl)) pa_nil)))) (pss_cons (ps_for PassesOwn.never rfl (pi_range1 rfl T.b_range (pa_cons pe_int pa_nil)) (pg_name (i := 7) sc_law.nd rfl (Or.inl rfl)) (pss_cons (ps_if (pt_not (pt_val (pe_f (ok_L_equal (K := K) T) (hr.mono (by decide)) pass0 (pa_cons (pe_f (ok_L_told (K := K) T) (hr.mono (by decide)) pass0 (pa_cons (pv 7) (pa_cons (pe_ix (ixK K) (pv 5) pe_int (fun _ _ => rfl)) (pa_cons (pe_ix (ixK K) (pe_lst (pa_cons (pe_ix (ixK K) (pv 2) pe_int (fun _ _ => rfl)) (pa_cons (pe_ix (ixK K) (pv 6) pe_int (fun _ _ => rfl)) pa_nil))) (pe_f (ok_L_pick (K := K) T) (hr.mono (by decide)) pass0 (pa_cons (pv 1) (pa_cons pe_int pa_nil))) (fun _ _ => rfl)) pa_nil)))) (pa_cons (pe_tup (pa_cons (pe_S [114, 111, 117, 110, 100]) (pa_cons (pe_ix (ixK K) (pv 5) pe_int (fun _ _ => rfl)) pa_nil))) pa_nil))))) (pss_one (ps_ret pe_bl)) pss_nil) (pss_one (ps_if (pt_not (pt_val (pe_f (ok_L_equal (K := K) T) (hr.mono (by decide)) pass0 (pa_cons (pe_f (ok_L_told (K := K) T) (hr.mono (by decide)) pass0 (pa_cons (pv 7) (pa_cons (pe_ix (ixK K) (pv 2) pe_int (fun _ _ => rfl)) (pa_cons (pe_ix (ixK K) (pv 6) pe_int (fun _ _ => rfl)) pa_nil)))) (pa_cons (pe_tup (pa_cons (pe_S [114, 111, 117, 110, 100]) (pa_cons (pe_ix (ixK K) (pv 6) pe_int (fun _ _ => rfl)) pa_nil))) pa_nil))))) (pss_one (ps_ret pe_bl)) pss_nil)))) (pss_one (ps_ret pe_bl))))))))), ?_⟩
  show (_ : TS) { nx := fun _ H' => Q .non H', rt := Q } [some x, none, none, none, none, none, none, none] H
  obtain ⟨a, ns, rfl, hS, hl, q⟩ := h
  walk_at "go"
  refine ⟨a, ns, rfl, hS, by omega, fun H0 d H1 s0 dr => ?_⟩
  walk_at "go"
  refine ⟨H0, d, rfl, dr, fun l1 l2 D1 H2 n1 hl1 hl2 dr2 => ?_⟩
  walk_at "go"
  have e1 : (upd H0 D1 (.lst [S l1, S l2])) D1 = some (.lst [S l1, S l2]) := upd_same
  generalize upd H0 D1 (.lst [S l1, S l2]) = HA at *
  refine ⟨HA, d, rfl, dr2, fun l3 l4 D2 H3 n2 hl3 hl4 dr3 => ?_⟩
  walk_at "go"
  have s1 : Same HA (upd HA D2 (.lst [S l3, S l4])) := same_upd n2
  have e2 : (upd HA D2 (.lst [S l3, S l4])) D2 = some (.lst [S l3, S l4]) := upd_same
  generalize upd HA D2 (.lst [S l3, S l4]) = HB at *
  have e1 := s1 _ _ e1
  have ix0 : ∀ {H : Hp} {Q : VK} {D la lb}, H D = some (.lst [S la, S lb]) → Q (S la) H → ixP K (.ref D) (.int 0) H Q := fun e q => i_ix_lst (.inl (.inl e)) rfl q
  have ix1 : ∀ {H : Hp} {Q : VK} {D la lb}, H D = some (.lst [S la, S lb]) → Q (S lb) H → ixP K (.ref D) (.int 1) H Q := fun e q => i_ix_lst (.inl (.inl e)) rfl q
  refine ix0 (dr3.old e1) ?_
  walk_at "go"
  refine ix1 (dr3.old e2) ?_
  walk_at "go"
  refine i_new (by show 2 ≤ 100000; omega) fun p3 n3 => ?_
  obtain ⟨HC, sC, eC, drC⟩ := dr3.step (.lst [S l1, S l4]) n3
  have e1 := sC _ _ e1
  have e2 := sC _ _ e2
  have q3 : Pr HC p3 := ⟨_, _, eC, hl1, hl4⟩
  walk_at "go"
  refine ix1 (drC.old e1) ?_
  walk_at "go"
  refine ix0 (drC.old e1) ?_
  walk_at "go"
  refine i_new (by show 2 ≤ 100000; omega) fun p4 n4 => ?_
  obtain ⟨HD, sD, eD, drD⟩ := drC.step (.lst [S l2, S l1]) n4
  have e1 := sD _ _ e1
  have e2 := sD _ _ e2
  have q3 := q3.mono sD
  have q4 : Pr HD p4 := ⟨_, _, eD, hl2, hl1⟩
  walk_at "go"
  refine ix0 (drD.old e2) ?_
  walk_at "go"
  refine ix0 (drD.old e2) ?_
  walk_at "go"
  refine i_new (by show 2 ≤ 100000; omega) fun p5 n5 => ?_
  obtain ⟨HE, sE, eE, drE⟩ := drD.step (.lst [S l3, S l3]) n5
  have e1 := sE _ _ e1
  have e2 := sE _ _ e2
  have q3 := q3.mono sE
  have q4 := q4.mono sE
  have q5 : Pr HE p5 := ⟨_, _, eE, hl3, hl3⟩
  have q1 : Pr HE D1 := ⟨_, _, e1, hl1, hl2⟩
  have q2 : Pr HE D2 := ⟨_, _, e2, hl3, hl4⟩
  walk_at "go"
  refine i_new (by show 5 ≤ 100000; omega) fun pl nl => ?_
  obtain ⟨HG, sG, eG, drG⟩ := drE.step (.lst [.ref D1, .ref D2, .ref p3, .ref p4, .ref p5]) nl
  have e1 := sG _ _ e1
  refine i_forL (.inl (.inl upd_same)) (fun i σ' H' => ∃ b, σ' = [some (.ref a), some (.ref d.a), some (.ref D1), some (.ref D2), b, none, none, none] ∧ Dr K d HG H') ⟨_, rfl, drG⟩ ?_ ?_ ?_
  · rintro i σ' H' _ ⟨b, rfl, dr4⟩
    exact .inl (.inl (dr4.old eG))
  · rintro i x σ' H4 hi ⟨b, rfl, dr4⟩
    have hx : ∃ p, x = .ref p ∧ Pr HG p := by
      match i, hi with
      | 0, h => exact ⟨D1, (Option.some.inj h).symm, q1.mono sG⟩
      | 1, h => exact ⟨D2, (Option.some.inj h).symm, q2.mono sG⟩
      | 2, h => exact ⟨p3, (Option.some.inj h).symm, q3.mono sG⟩
      | 3, h => exact ⟨p4, (Option.some.inj h).symm, q4.mono sG⟩
      | 4, h => exact ⟨p5, (Option.some.inj h).symm, q5.mono sG⟩
    obtain ⟨p, rfl, la, lb, ep, ha, hb⟩ := hx
    walk_at "go"
    refine ix0 (dr4.old ep) ?_
    walk_at "go"
    refine ix1 (dr4.old ep) ?_
    walk_at "go"
    refine ⟨HG, d, la, lb, rfl, rfl, rfl, dr4, ha, hb, fun H5 dr5 => ?_⟩
    walk_at "go"
    exact ⟨_, rfl, dr5⟩
  · rintro σ' H4 ⟨b, rfl, dr4⟩
    walk_at "go"
    refine ix0 (dr4.old e1) ?_
    walk_at "go"
    refine ⟨HG, d, l1, rfl, rfl, dr4, hl1, fun v k pb Hk H5 sk ek dr5 bk => ?_⟩
    walk_at "go"
    have e1 := sk _ _ e1
    refine ix1 (dr5.old e1) ?_
    walk_at "go"
    refine ⟨Hk, d, l2, rfl, rfl, dr5, hl2, fun v2 k2 pc Hm H6 sm em dr6 bm => ?_⟩
    walk_at "go"
    have e1 := sm _ _ e1
    have ek := sm _ _ ek
    have bk := bk.mono sm
    refine f_rng1 3 (fun R k => by walk_at "go"; exact k) (by decide) (fun i σ' H' => ∃ v, σ' = [some (.ref a), some (.ref d.a), some (.ref D1), some (.ref D2), b, some (.ref pb), some (.ref pc), v] ∧ Dr K d Hm H') ⟨_, rfl, dr6⟩ ?_ ?_
    · rintro i σ' H7 hi ⟨v', rfl, dr7⟩
      walk_at "go"
      refine i_ix_tup (v := v) (.inl (.inl (dr7.old ek))) rfl ?_
      walk_at "go"
      refine ix1 (dr7.old e1) ?_
      walk_at "go"
      refine i_ix_tup (v := v2) (.inl (.inl (dr7.old em))) rfl ?_
      walk_at "go"
      refine i_new (by show 2 ≤ 100000; omega) fun p7 n7 => ?_
      walk_at "go"
      have m7 := dr7.free n7
      refine ⟨_, d, 2, rfl, rfl, dr7.new n7, by decide, fun n H8 dr8 b8 => ?_⟩
      have key : ∃ w, [S l2, v2][n.toNat]? = some w := by
        have := b8.1
        have := b8.2.1 (by decide)
        have hn : n.toNat = 0 ∨ n.toNat = 1 := by omega
        rcases hn with h | h <;> rw [h] <;> exact ⟨_, rfl⟩
      obtain ⟨w', hw⟩ := key
      refine i_ix_lst (v := w') (.inl (.inl (dr8.old upd_same))) (atI_int b8.1 hw) ?_
      have dr9 := dr8.less dr7.cells m7
      walk_at "go"
      refine told_bad (k := k) _ (by omega) (by omega) (bk.mono dr9.1) fun H9 p9 s9 n9 => ?_
      have dr10 := (dr9.same s9).skip (o := .tup [S ROUND, .int k]) n9
      walk_at "go"
      refine i_ix_tup (v := .int k) (.inl (.inl (dr10.old ek))) rfl ?_
      walk_at "go"
      refine i_new (by show 2 ≤ 100000; omega) fun p10 n10 => ?_
      walk_at "go"
      refine ⟨p9, p10, ROUND, .int k, rfl, rfl, (upd_ne (fun e => by rw [← e, upd_same] at n10; cases n10)).trans upd_same, upd_same, .inr (.inr (.inl ⟨_, rfl⟩)), ?_⟩
      have dr11 := dr10.skip (o := .tup [S ROUND, .int k]) n10
      walk_at "go"
      refine ix0 (dr11.old e1) ?_
      walk_at "go"
      refine i_ix_tup (v := v2) (.inl (.inl (dr11.old em))) rfl ?_
      walk_at "go"
      refine told_bad2 (k := k2) _ (by omega) (by omega) hl1 (bm.mono dr11.1) fun H11 p11 s11 n11 => ?_
      have dr12 := (dr11.same s11).skip (o := .tup [S ROUND, .int k2]) n11
      walk_at "go"
      refine i_ix_tup (v := .int k2) (.inl (.inl (dr12.old em))) rfl ?_
      walk_at "go"
      refine i_new (by show 2 ≤ 100000; omega) fun p12 n12 => ?_
      walk_at "go"
      refine ⟨p11, p12, ROUND, .int k2, rfl, rfl, (upd_ne (fun e => by rw [← e, upd_same] at n12; cases n12)).trans upd_same, upd_same, .inr (.inr (.inl ⟨_, rfl⟩)), ?_⟩
      walk_at "go"
      exact ⟨_, rfl, dr12.skip n12⟩
    · rintro σ' H7 ⟨v', rfl, dr7⟩
      walk_at "go"
      exact q _
end
end K08
namespace K08
open PySem PySem.Spec PyProof.Rows L2 Fg
theorem all_mk {l : PySem.W.OpenLaw} {w : World} {K : PySem.W.Frag} {h : Heap} {mg : Str → Option Value} {fa C_GlimError C_BadRound C_BadBeats C_BadText C_TooLong f1 f2 f3 f4 f5 f6 f7 f8 f9 f10 f11 f12 f13 f14 f15 f16 f17 f18 f19 f20 f21 f22 f23 f24 f25 f26 f27 f28 f29 f30 f31 f32 f33 f34 f35 f36 f37 f38 f39 f40 : Addr} (X : K.In h) (G : h.Ns mainGlobals mg) (hfa : mg "law" = some (.ref fa))
    {od1 an1 od2 an2 od3 an3 od4 an4 od5 an5 od6 an6 od7 an7 od8 an8 od9 an9 od10 an10 od11 an11 od12 an12 od13 an13 od14 an14 od15 an15 od16 an16 od17 an17 od18 an18 od19 an19 od20 an20 od21 an21 od22 an22 od23 an23 od24 an24 od25 an25 od26 an26 od27 an27 od28 an28 od29 an29 od30 an30 od31 an31 od32 an32 od33 an33 od34 an34 od35 an35 od36 an36 od37 an37 od38 an38 od39 an39 od40 an40 : Option Addr} {sl1 sl2 sl3 sl4 sl5 sl6 sl7 sl8 sl9 sl10 sl11 sl12 sl13 sl14 sl15 sl16 sl17 sl18 sl19 sl20 sl21 sl22 sl23 sl24 sl25 sl26 sl27 sl28 sl29 sl30 sl31 sl32 sl33 sl34 sl35 sl36 sl37 sl38 sl39 sl40 : Array (Option Value)} {oc1 kV1 dc1 pm1 cd1 ct1 oc2 kV2 dc2 pm2 cd2 ct2 oc3 kV3 dc3 pm3 cd3 ct3 oc4 kV4 dc4 pm4 cd4 ct4 oc5 kV5 dc5 pm5 cd5 ct5 oc6 kV6 dc6 pm6 cd6 ct6 oc7 kV7 dc7 pm7 cd7 ct7 oc8 kV8 dc8 pm8 cd8 ct8 oc9 kV9 dc9 pm9 cd9 ct9 oc10 kV10 dc10 pm10 cd10 ct10 oc11 kV11 dc11 pm11 cd11 ct11 oc12 kV12 dc12 pm12 cd12 ct12 oc13 kV13 dc13 pm13 cd13 ct13 oc14 kV14 dc14 pm14 cd14 ct14 oc15 kV15 dc15 pm15 cd15 ct15 oc16 kV16 dc16 pm16 cd16 ct16 oc17 kV17 dc17 pm17 cd17 ct17 oc18 kV18 dc18 pm18 cd18 ct18 oc19 kV19 dc19 pm19 cd19 ct19 oc20 kV20 dc20 pm20 cd20 ct20 oc21 kV21 dc21 pm21 cd21 ct21 oc22 kV22 dc22 pm22 cd22 ct22 oc23 kV23 dc23 pm23 cd23 ct23 oc24 kV24 dc24 pm24 cd24 ct24 oc25 kV25 dc25 pm25 cd25 ct25 oc26 kV26 dc26 pm26 cd26 ct26 oc27 kV27 dc27 pm27 cd27 ct27 oc28 kV28 dc28 pm28 cd28 ct28 oc29 kV29 dc29 pm29 cd29 ct29 oc30 kV30 dc30 pm30 cd30 ct30 oc31 kV31 dc31 pm31 cd31 ct31 oc32 kV32 dc32 pm32 cd32 ct32 oc33 kV33 dc33 pm33 cd33 ct33 oc34 kV34 dc34 pm34 cd34 ct34 oc35 kV35 dc35 pm35 cd35 ct35 oc36 kV36 dc36 pm36 cd36 ct36 oc37 kV37 dc37 pm37 cd37 ct37 oc38 kV38 dc38 pm38 cd38 ct38 oc39 kV39 dc39 pm39 cd39 ct39 oc40 kV40 dc40 pm40 cd40 ct40 : Value}
    {nm_TooLong q_TooLong : Str} {N_TooLong : Addr} {bs_TooLong bm_TooLong : List Value} {sn_TooLong : List Str} {sub_TooLong : List Value} {ab_TooLong : Bool} {col_TooLong : Option Bool} {dd_TooLong : Option Addr} {m0_TooLong m1_TooLong m2_TooLong m3_TooLong m5_TooLong : Option Value}
    {nm_BadText q_BadText : Str} {N_BadText : Addr} {bs_BadText bm_BadText : List Value} {sn_BadText : List Str} {sub_BadText : List Value} {ab_BadText : Bool} {col_BadText : Option Bool} {dd_BadText : Option Addr} {m0_BadText m1_BadText m2_BadText m3_BadText m5_BadText : Option Value}
    {nm_BadBeats q_BadBeats : Str} {N_BadBeats : Addr} {bs_BadBeats bm_BadBeats : List Value} {sn_BadBeats : List Str} {sub_BadBeats : List Value} {ab_BadBeats : Bool} {col_BadBeats : Option Bool} {dd_BadBeats : Option Addr} {m0_BadBeats m1_BadBeats m2_BadBeats m3_BadBeats m5_BadBeats : Option Value}
    {nm_BadRound q_BadRound : Str} {N_BadRound : Addr} {bs_BadRound bm_BadRound : List Value} {sn_BadRound : List Str} {sub_BadRound : List Value} {ab_BadRound : Bool} {col_BadRound : Option Bool} {dd_BadRound : Option Addr} {m0_BadRound m1_BadRound m2_BadRound m3_BadRound m5_BadRound : Option Value}
    {t_SIGNS t_MOST_ROUND t_DIGITS t_MOST_OPEN : Tok}
    (a1 : PySem.W.nsIn K mainGlobals "wrong_sign" = some (some (.ref f1)))
    (l1 : K.lookup f1 = some ⟨oc1, od1, .func (PySem.W.fnOf "wrong_sign" "wrong_sign" (defArgs s_wrong_sign) (defBody s_wrong_sign) (defScope s_wrong_sign) .none kV1 dc1 pm1 an1 cd1 ct1), sl1⟩)
    (c1 : PySem.W.codeIn K cd1 "wrong_sign" = true)
    (k1 : PySem.W.keepIn K (.ref f1) = true)
    (a2 : PySem.W.nsIn K mainGlobals "check_round" = some (some (.ref f2)))
    (l2 : K.lookup f2 = some ⟨oc2, od2, .func (PySem.W.fnOf "check_round" "check_round" (defArgs s_check_round) (defBody s_check_round) (defScope s_check_round) .none kV2 dc2 pm2 an2 cd2 ct2), sl2⟩)
    (c2 : PySem.W.codeIn K cd2 "check_round" = true)
    (k2 : PySem.W.keepIn K (.ref f2) = true)
    (a3 : PySem.W.nsIn K mainGlobals "common_beats" = some (some (.ref f3)))
    (l3 : K.lookup f3 = some ⟨oc3, od3, .func (PySem.W.fnOf "common_beats" "common_beats" (defArgs s_common_beats) (defBody s_common_beats) (defScope s_common_beats) .none kV3 dc3 pm3 an3 cd3 ct3), sl3⟩)
    (c3 : PySem.W.codeIn K cd3 "common_beats" = true)
    (k3 : PySem.W.keepIn K (.ref f3) = true)
    (a4 : PySem.W.nsIn K mainGlobals "repeated" = some (some (.ref f4)))
    (l4 : K.lookup f4 = some ⟨oc4, od4, .func (PySem.W.fnOf "repeated" "repeated" (defArgs s_repeated) (defBody s_repeated) (defScope s_repeated) .none kV4 dc4 pm4 an4 cd4 ct4), sl4⟩)
    (c4 : PySem.W.codeIn K cd4 "repeated" = true)
    (k4 : PySem.W.keepIn K (.ref f4) = true)
    (a5 : PySem.W.nsIn K mainGlobals "put_behind" = some (some (.ref f5)))
    (l5 : K.lookup f5 = some ⟨oc5, od5, .func (PySem.W.fnOf "put_behind" "put_behind" (defArgs s_put_behind) (defBody s_put_behind) (defScope s_put_behind) .none kV5 dc5 pm5 an5 cd5 ct5), sl5⟩)
    (c5 : PySem.W.codeIn K cd5 "put_behind" = true)
    (k5 : PySem.W.keepIn K (.ref f5) = true)
    (a6 : PySem.W.nsIn K mainGlobals "first_lit" = some (some (.ref f6)))
    (l6 : K.lookup f6 = some ⟨oc6, od6, .func (PySem.W.fnOf "first_lit" "first_lit" (defArgs s_first_lit) (defBody s_first_lit) (defScope s_first_lit) .none kV6 dc6 pm6 an6 cd6 ct6), sl6⟩)
    (c6 : PySem.W.codeIn K cd6 "first_lit" = true)
    (k6 : PySem.W.keepIn K (.ref f6) = true)
    (a7 : PySem.W.nsIn K mainGlobals "shown_together" = some (some (.ref f7)))
    (l7 : K.lookup f7 = some ⟨oc7, od7, .func (PySem.W.fnOf "shown_together" "shown_together" (defArgs s_shown_together) (defBody s_shown_together) (defScope s_shown_together) .none kV7 dc7 pm7 an7 cd7 ct7), sl7⟩)
    (c7 : PySem.W.codeIn K cd7 "shown_together" = true)
    (k7 : PySem.W.keepIn K (.ref f7) = true)
    (a8 : PySem.W.nsIn K mainGlobals "behind_digits" = some (some (.ref f8)))
    (l8 : K.lookup f8 = some ⟨oc8, od8, .func (PySem.W.fnOf "behind_digits" "behind_digits" (defArgs s_behind_digits) (defBody s_behind_digits) (defScope s_behind_digits) .none kV8 dc8 pm8 an8 cd8 ct8), sl8⟩)
    (c8 : PySem.W.codeIn K cd8 "behind_digits" = true)
    (k8 : PySem.W.keepIn K (.ref f8) = true)
    (a9 : PySem.W.nsIn K mainGlobals "is_within" = some (some (.ref f9)))
    (l9 : K.lookup f9 = some ⟨oc9, od9, .func (PySem.W.fnOf "is_within" "is_within" (defArgs s_is_within) (defBody s_is_within) (defScope s_is_within) .none kV9 dc9 pm9 an9 cd9 ct9), sl9⟩)
    (c9 : PySem.W.codeIn K cd9 "is_within" = true)
    (k9 : PySem.W.keepIn K (.ref f9) = true)
    (a10 : PySem.W.nsIn K mainGlobals "read_item" = some (some (.ref f10)))
    (l10 : K.lookup f10 = some ⟨oc10, od10, .func (PySem.W.fnOf "read_item" "read_item" (defArgs s_read_item) (defBody s_read_item) (defScope s_read_item) .none kV10 dc10 pm10 an10 cd10 ct10), sl10⟩)
    (c10 : PySem.W.codeIn K cd10 "read_item" = true)
    (k10 : PySem.W.keepIn K (.ref f10) = true)
    (a11 : PySem.W.nsIn K mainGlobals "read_filled" = some (some (.ref f11)))
    (l11 : K.lookup f11 = some ⟨oc11, od11, .func (PySem.W.fnOf "read_filled" "read_filled" (defArgs s_read_filled) (defBody s_read_filled) (defScope s_read_filled) .none kV11 dc11 pm11 an11 cd11 ct11), sl11⟩)
    (c11 : PySem.W.codeIn K cd11 "read_filled" = true)
    (k11 : PySem.W.keepIn K (.ref f11) = true)
    (a12 : PySem.W.nsIn K mainGlobals "read_part" = some (some (.ref f12)))
    (l12 : K.lookup f12 = some ⟨oc12, od12, .func (PySem.W.fnOf "read_part" "read_part" (defArgs s_read_part) (defBody s_read_part) (defScope s_read_part) .none kV12 dc12 pm12 an12 cd12 ct12), sl12⟩)
    (c12 : PySem.W.codeIn K cd12 "read_part" = true)
    (k12 : PySem.W.keepIn K (.ref f12) = true)
    (a13 : PySem.W.nsIn K mainGlobals "read_parts" = some (some (.ref f13)))
    (l13 : K.lookup f13 = some ⟨oc13, od13, .func (PySem.W.fnOf "read_parts" "read_parts" (defArgs s_read_parts) (defBody s_read_parts) (defScope s_read_parts) .none kV13 dc13 pm13 an13 cd13 ct13), sl13⟩)
    (c13 : PySem.W.codeIn K cd13 "read_parts" = true)
    (k13 : PySem.W.keepIn K (.ref f13) = true)
    (a14 : PySem.W.nsIn K mainGlobals "read_round" = some (some (.ref f14)))
    (l14 : K.lookup f14 = some ⟨oc14, od14, .func (PySem.W.fnOf "read_round" "read_round" (defArgs s_read_round) (defBody s_read_round) (defScope s_read_round) .none kV14 dc14 pm14 an14 cd14 ct14), sl14⟩)
    (c14 : PySem.W.codeIn K cd14 "read_round" = true)
    (k14 : PySem.W.keepIn K (.ref f14) = true)
    (a15 : PySem.W.nsIn K mainGlobals "shortest" = some (some (.ref f15)))
    (l15 : K.lookup f15 = some ⟨oc15, od15, .func (PySem.W.fnOf "shortest" "shortest" (defArgs s_shortest) (defBody s_shortest) (defScope s_shortest) .none kV15 dc15 pm15 an15 cd15 ct15), sl15⟩)
    (c15 : PySem.W.codeIn K cd15 "shortest" = true)
    (k15 : PySem.W.keepIn K (.ref f15) = true)
    (a16 : PySem.W.nsIn K mainGlobals "turned" = some (some (.ref f16)))
    (l16 : K.lookup f16 = some ⟨oc16, od16, .func (PySem.W.fnOf "turned" "turned" (defArgs s_turned) (defBody s_turned) (defScope s_turned) .none kV16 dc16 pm16 an16 cd16 ct16), sl16⟩)
    (c16 : PySem.W.codeIn K cd16 "turned" = true)
    (k16 : PySem.W.keepIn K (.ref f16) = true)
    (a17 : PySem.W.nsIn K mainGlobals "alike" = some (some (.ref f17)))
    (l17 : K.lookup f17 = some ⟨oc17, od17, .func (PySem.W.fnOf "alike" "alike" (defArgs s_alike) (defBody s_alike) (defScope s_alike) .none kV17 dc17 pm17 an17 cd17 ct17), sl17⟩)
    (c17 : PySem.W.codeIn K cd17 "alike" = true)
    (k17 : PySem.W.keepIn K (.ref f17) = true)
    (a18 : PySem.W.nsIn K mainGlobals "parting" = some (some (.ref f18)))
    (l18 : K.lookup f18 = some ⟨oc18, od18, .func (PySem.W.fnOf "parting" "parting" (defArgs s_parting) (defBody s_parting) (defScope s_parting) .none kV18 dc18 pm18 an18 cd18 ct18), sl18⟩)
    (c18 : PySem.W.codeIn K cd18 "parting" = true)
    (k18 : PySem.W.keepIn K (.ref f18) = true)
    (a19 : PySem.W.nsIn K mainGlobals "laid_over" = some (some (.ref f19)))
    (l19 : K.lookup f19 = some ⟨oc19, od19, .func (PySem.W.fnOf "laid_over" "laid_over" (defArgs s_laid_over) (defBody s_laid_over) (defScope s_laid_over) .none kV19 dc19 pm19 an19 cd19 ct19), sl19⟩)
    (c19 : PySem.W.codeIn K cd19 "laid_over" = true)
    (k19 : PySem.W.keepIn K (.ref f19) = true)
    (a20 : PySem.W.nsIn K mainGlobals "_law_draw" = some (some (.ref f20)))
    (l20 : K.lookup f20 = some ⟨oc20, od20, .func (PySem.W.fnOf "_law_draw" "_law_draw" (defArgs s_L_draw) (defBody s_L_draw) (defScope s_L_draw) .none kV20 dc20 pm20 an20 cd20 ct20), sl20⟩)
    (c20 : PySem.W.codeIn K cd20 "_law_draw" = true)
    (k20 : PySem.W.keepIn K (.ref f20) = true)
    (a21 : PySem.W.nsIn K mainGlobals "_law_mix" = some (some (.ref f21)))
    (l21 : K.lookup f21 = some ⟨oc21, od21, .func (PySem.W.fnOf "_law_mix" "_law_mix" (defArgs s_L_mix) (defBody s_L_mix) (defScope s_L_mix) .none kV21 dc21 pm21 an21 cd21 ct21), sl21⟩)
    (c21 : PySem.W.codeIn K cd21 "_law_mix" = true)
    (k21 : PySem.W.keepIn K (.ref f21) = true)
    (a22 : PySem.W.nsIn K mainGlobals "_law_pick" = some (some (.ref f22)))
    (l22 : K.lookup f22 = some ⟨oc22, od22, .func (PySem.W.fnOf "_law_pick" "_law_pick" (defArgs s_L_pick) (defBody s_L_pick) (defScope s_L_pick) .none kV22 dc22 pm22 an22 cd22 ct22), sl22⟩)
    (c22 : PySem.W.codeIn K cd22 "_law_pick" = true)
    (k22 : PySem.W.keepIn K (.ref f22) = true)
    (a23 : PySem.W.nsIn K mainGlobals "_law_is_int" = some (some (.ref f23)))
    (l23 : K.lookup f23 = some ⟨oc23, od23, .func (PySem.W.fnOf "_law_is_int" "_law_is_int" (defArgs s_L_is_int) (defBody s_L_is_int) (defScope s_L_is_int) .none kV23 dc23 pm23 an23 cd23 ct23), sl23⟩)
    (c23 : PySem.W.codeIn K cd23 "_law_is_int" = true)
    (k23 : PySem.W.keepIn K (.ref f23) = true)
    (a24 : PySem.W.nsIn K mainGlobals "_law_sign" = some (some (.ref f24)))
    (l24 : K.lookup f24 = some ⟨oc24, od24, .func (PySem.W.fnOf "_law_sign" "_law_sign" (defArgs s_L_sign) (defBody s_L_sign) (defScope s_L_sign) .none kV24 dc24 pm24 an24 cd24 ct24), sl24⟩)
    (c24 : PySem.W.codeIn K cd24 "_law_sign" = true)
    (k24 : PySem.W.keepIn K (.ref f24) = true)
    (a25 : PySem.W.nsIn K mainGlobals "_law_round" = some (some (.ref f25)))
    (l25 : K.lookup f25 = some ⟨oc25, od25, .func (PySem.W.fnOf "_law_round" "_law_round" (defArgs s_L_round) (defBody s_L_round) (defScope s_L_round) .none kV25 dc25 pm25 an25 cd25 ct25), sl25⟩)
    (c25 : PySem.W.codeIn K cd25 "_law_round" = true)
    (k25 : PySem.W.keepIn K (.ref f25) = true)
    (a26 : PySem.W.nsIn K mainGlobals "_law_bent" = some (some (.ref f26)))
    (l26 : K.lookup f26 = some ⟨oc26, od26, .func (PySem.W.fnOf "_law_bent" "_law_bent" (defArgs s_L_bent) (defBody s_L_bent) (defScope s_L_bent) .none kV26 dc26 pm26 an26 cd26 ct26), sl26⟩)
    (c26 : PySem.W.codeIn K cd26 "_law_bent" = true)
    (k26 : PySem.W.keepIn K (.ref f26) = true)
    (a27 : PySem.W.nsIn K mainGlobals "_law_agreeing" = some (some (.ref f27)))
    (l27 : K.lookup f27 = some ⟨oc27, od27, .func (PySem.W.fnOf "_law_agreeing" "_law_agreeing" (defArgs s_L_agreeing) (defBody s_L_agreeing) (defScope s_L_agreeing) .none kV27 dc27 pm27 an27 cd27 ct27), sl27⟩)
    (c27 : PySem.W.codeIn K cd27 "_law_agreeing" = true)
    (k27 : PySem.W.keepIn K (.ref f27) = true)
    (a28 : PySem.W.nsIn K mainGlobals "_law_two_rounds" = some (some (.ref f28)))
    (l28 : K.lookup f28 = some ⟨oc28, od28, .func (PySem.W.fnOf "_law_two_rounds" "_law_two_rounds" (defArgs s_L_two_rounds) (defBody s_L_two_rounds) (defScope s_L_two_rounds) .none kV28 dc28 pm28 an28 cd28 ct28), sl28⟩)
    (c28 : PySem.W.codeIn K cd28 "_law_two_rounds" = true)
    (k28 : PySem.W.keepIn K (.ref f28) = true)
    (a29 : PySem.W.nsIn K mainGlobals "_law_parting" = some (some (.ref f29)))
    (l29 : K.lookup f29 = some ⟨oc29, od29, .func (PySem.W.fnOf "_law_parting" "_law_parting" (defArgs s_L_parting) (defBody s_L_parting) (defScope s_L_parting) .none kV29 dc29 pm29 an29 cd29 ct29), sl29⟩)
    (c29 : PySem.W.codeIn K cd29 "_law_parting" = true)
    (k29 : PySem.W.keepIn K (.ref f29) = true)
    (a30 : PySem.W.nsIn K mainGlobals "_law_over" = some (some (.ref f30)))
    (l30 : K.lookup f30 = some ⟨oc30, od30, .func (PySem.W.fnOf "_law_over" "_law_over" (defArgs s_L_over) (defBody s_L_over) (defScope s_L_over) .none kV30 dc30 pm30 an30 cd30 ct30), sl30⟩)
    (c30 : PySem.W.codeIn K cd30 "_law_over" = true)
    (k30 : PySem.W.keepIn K (.ref f30) = true)
    (a31 : PySem.W.nsIn K mainGlobals "_law_call" = some (some (.ref f31)))
    (l31 : K.lookup f31 = some ⟨oc31, od31, .func (PySem.W.fnOf "_law_call" "_law_call" (defArgs s_L_call) (defBody s_L_call) (defScope s_L_call) .none kV31 dc31 pm31 an31 cd31 ct31), sl31⟩)
    (c31 : PySem.W.codeIn K cd31 "_law_call" = true)
    (k31 : PySem.W.keepIn K (.ref f31) = true)
    (a32 : PySem.W.nsIn K mainGlobals "_law_told" = some (some (.ref f32)))
    (l32 : K.lookup f32 = some ⟨oc32, od32, .func (PySem.W.fnOf "_law_told" "_law_told" (defArgs s_L_told) (defBody s_L_told) (defScope s_L_told) .none kV32 dc32 pm32 an32 cd32 ct32), sl32⟩)
    (c32 : PySem.W.codeIn K cd32 "_law_told" = true)
    (k32 : PySem.W.keepIn K (.ref f32) = true)
    (a33 : PySem.W.nsIn K mainGlobals "_law_equal" = some (some (.ref f33)))
    (l33 : K.lookup f33 = some ⟨oc33, od33, .func (PySem.W.fnOf "_law_equal" "_law_equal" (defArgs s_L_equal) (defBody s_L_equal) (defScope s_L_equal) .none kV33 dc33 pm33 an33 cd33 ct33), sl33⟩)
    (c33 : PySem.W.codeIn K cd33 "_law_equal" = true)
    (k33 : PySem.W.keepIn K (.ref f33) = true)
    (a34 : PySem.W.nsIn K mainGlobals "_law_pair_right" = some (some (.ref f34)))
    (l34 : K.lookup f34 = some ⟨oc34, od34, .func (PySem.W.fnOf "_law_pair_right" "_law_pair_right" (defArgs s_L_pair_right) (defBody s_L_pair_right) (defScope s_L_pair_right) .none kV34 dc34 pm34 an34 cd34 ct34), sl34⟩)
    (c34 : PySem.W.codeIn K cd34 "_law_pair_right" = true)
    (k34 : PySem.W.keepIn K (.ref f34) = true)
    (a35 : PySem.W.nsIn K mainGlobals "_law_bad_round" = some (some (.ref f35)))
    (l35 : K.lookup f35 = some ⟨oc35, od35, .func (PySem.W.fnOf "_law_bad_round" "_law_bad_round" (defArgs s_L_bad_round) (defBody s_L_bad_round) (defScope s_L_bad_round) .none kV35 dc35 pm35 an35 cd35 ct35), sl35⟩)
    (c35 : PySem.W.codeIn K cd35 "_law_bad_round" = true)
    (k35 : PySem.W.keepIn K (.ref f35) = true)
    (a36 : PySem.W.nsIn K mainGlobals "law" = some (some (.ref f36)))
    (l36 : K.lookup f36 = some ⟨oc36, od36, .func (PySem.W.fnOf "law" "law" (defArgs s_law) (defBody s_law) (defScope s_law) .none kV36 dc36 pm36 an36 cd36 ct36), sl36⟩)
    (c36 : PySem.W.codeIn K cd36 "law" = true)
    (k36 : PySem.W.keepIn K (.ref f36) = true)
    (z_ValueError : PySem.W.nsIn K mainGlobals "ValueError" = some none)
    (z_abs : PySem.W.nsIn K mainGlobals "abs" = some none)
    (z_bool : PySem.W.nsIn K mainGlobals "bool" = some none)
    (z_enumerate : PySem.W.nsIn K mainGlobals "enumerate" = some none)
    (z_int : PySem.W.nsIn K mainGlobals "int" = some none)
    (z_isinstance : PySem.W.nsIn K mainGlobals "isinstance" = some none)
    (z_len : PySem.W.nsIn K mainGlobals "len" = some none)
    (z_list : PySem.W.nsIn K mainGlobals "list" = some none)
    (z_max : PySem.W.nsIn K mainGlobals "max" = some none)
    (z_range : PySem.W.nsIn K mainGlobals "range" = some none)
    (z_str : PySem.W.nsIn K mainGlobals "str" = some none)
    (z_sum : PySem.W.nsIn K mainGlobals "sum" = some none)
    (v_SIGNS : PySem.W.nsIn K mainGlobals "SIGNS" = some (some (.str ".grw" t_SIGNS)))
    (v_MOST_ROUND : PySem.W.nsIn K mainGlobals "MOST_ROUND" = some (some (.int 24 t_MOST_ROUND)))
    (v_DIGITS : PySem.W.nsIn K mainGlobals "DIGITS" = some (some (.str "0123456789" t_DIGITS)))
    (v_MOST_OPEN : PySem.W.nsIn K mainGlobals "MOST_OPEN" = some (some (.int 6 t_MOST_OPEN)))
    (g_GlimError : PySem.W.nsIn K mainGlobals "GlimError" = some (some (.ref C_GlimError)))
    (g_BadRound : PySem.W.nsIn K mainGlobals "BadRound" = some (some (.ref C_BadRound)))
    (g_BadBeats : PySem.W.nsIn K mainGlobals "BadBeats" = some (some (.ref C_BadBeats)))
    (g_BadText : PySem.W.nsIn K mainGlobals "BadText" = some (some (.ref C_BadText)))
    (g_TooLong : PySem.W.nsIn K mainGlobals "TooLong" = some (some (.ref C_TooLong)))
    (xl_BadRound : K.lookup C_BadRound = some (excClassObj nm_BadRound q_BadRound C_BadRound N_BadRound bs_BadRound bm_BadRound true sn_BadRound sub_BadRound ab_BadRound col_BadRound dd_BadRound m0_BadRound m1_BadRound m2_BadRound m3_BadRound m5_BadRound "ValueError.__new__"))
    (xr_BadRound : PySem.HandSPX.refsVE bm_BadRound = true)
    (xsa_BadRound : PySem.W.findIn K (.ref C_BadRound) "__setattr__" = some (some (.builtin "object.__setattr__")))
    (xga_BadRound : PySem.W.findIn K (.ref C_BadRound) "__getattribute__" = some (some (.builtin "BaseException.__getattribute__")))
    (xgg_BadRound : PySem.W.findIn K (.ref C_BadRound) "__getattr__" = some none)
    (xnf_BadRound : PySem.W.findIn K (.ref C_BadRound) "number" = some none)
    (xi_BadRound : PySem.W.findIn K (.ref C_BadRound) "__init__" = some (some (.ref f37)))
    (xt_BadRound : PySem.W.typeIn K (.ref f37) = some (.type "function"))
    (xf_BadRound : K.lookup f37 = some ⟨oc37, od37, .func (PySem.W.fnOf "__init__" "BadRound.__init__" (defArgs s_BadRound) (defBody s_BadRound) (defScope s_BadRound) .none kV37 dc37 pm37 an37 cd37 ct37), sl37⟩)
    (xc_BadRound : PySem.W.codeIn K cd37 "BadRound.__init__" = true)
    (xkf_BadRound : PySem.W.keepIn K (.ref f37) = true)
    (xk_BadRound : PySem.W.keepIn K (.ref C_BadRound) = true)
    (xe_BadRound : PySem.W.subIn K (.ref C_BadRound) (.type "BaseException") = some true)
    (xty_BadRound : PySem.W.typeIn K (.ref C_BadRound) = some (.type "type"))
    (xhd_BadRound : PySem.W.hasDictIn K C_BadRound = true)
    (xis_BadRound : PySem.W.isClsIn K C_BadRound = true)
    (xca_BadRound : PySem.W.findIn K (.ref C_BadRound) "__class__" = some (some (.builtin "object.__class__")))
    (xm_BadRound : PySem.W.mroIn K C_BadRound (.type "object") = some true)
    (xl_BadBeats : K.lookup C_BadBeats = some (excClassObj nm_BadBeats q_BadBeats C_BadBeats N_BadBeats bs_BadBeats bm_BadBeats true sn_BadBeats sub_BadBeats ab_BadBeats col_BadBeats dd_BadBeats m0_BadBeats m1_BadBeats m2_BadBeats m3_BadBeats m5_BadBeats "ValueError.__new__"))
    (xr_BadBeats : PySem.HandSPX.refsVE bm_BadBeats = true)
    (xsa_BadBeats : PySem.W.findIn K (.ref C_BadBeats) "__setattr__" = some (some (.builtin "object.__setattr__")))
    (xga_BadBeats : PySem.W.findIn K (.ref C_BadBeats) "__getattribute__" = some (some (.builtin "BaseException.__getattribute__")))
    (xgg_BadBeats : PySem.W.findIn K (.ref C_BadBeats) "__getattr__" = some none)
    (xnf_BadBeats : PySem.W.findIn K (.ref C_BadBeats) "beats" = some none)
    (xi_BadBeats : PySem.W.findIn K (.ref C_BadBeats) "__init__" = some (some (.ref f38)))
    (xt_BadBeats : PySem.W.typeIn K (.ref f38) = some (.type "function"))
    (xf_BadBeats : K.lookup f38 = some ⟨oc38, od38, .func (PySem.W.fnOf "__init__" "BadBeats.__init__" (defArgs s_BadBeats) (defBody s_BadBeats) (defScope s_BadBeats) .none kV38 dc38 pm38 an38 cd38 ct38), sl38⟩)
    (xc_BadBeats : PySem.W.codeIn K cd38 "BadBeats.__init__" = true)
    (xkf_BadBeats : PySem.W.keepIn K (.ref f38) = true)
    (xk_BadBeats : PySem.W.keepIn K (.ref C_BadBeats) = true)
    (xe_BadBeats : PySem.W.subIn K (.ref C_BadBeats) (.type "BaseException") = some true)
    (xty_BadBeats : PySem.W.typeIn K (.ref C_BadBeats) = some (.type "type"))
    (xhd_BadBeats : PySem.W.hasDictIn K C_BadBeats = true)
    (xis_BadBeats : PySem.W.isClsIn K C_BadBeats = true)
    (xca_BadBeats : PySem.W.findIn K (.ref C_BadBeats) "__class__" = some (some (.builtin "object.__class__")))
    (xm_BadBeats : PySem.W.mroIn K C_BadBeats (.type "object") = some true)
    (xl_BadText : K.lookup C_BadText = some (excClassObj nm_BadText q_BadText C_BadText N_BadText bs_BadText bm_BadText true sn_BadText sub_BadText ab_BadText col_BadText dd_BadText m0_BadText m1_BadText m2_BadText m3_BadText m5_BadText "ValueError.__new__"))
    (xr_BadText : PySem.HandSPX.refsVE bm_BadText = true)
    (xsa_BadText : PySem.W.findIn K (.ref C_BadText) "__setattr__" = some (some (.builtin "object.__setattr__")))
    (xga_BadText : PySem.W.findIn K (.ref C_BadText) "__getattribute__" = some (some (.builtin "BaseException.__getattribute__")))
    (xgg_BadText : PySem.W.findIn K (.ref C_BadText) "__getattr__" = some none)
    (xnf_BadText : PySem.W.findIn K (.ref C_BadText) "at" = some none)
    (xi_BadText : PySem.W.findIn K (.ref C_BadText) "__init__" = some (some (.ref f39)))
    (xt_BadText : PySem.W.typeIn K (.ref f39) = some (.type "function"))
    (xf_BadText : K.lookup f39 = some ⟨oc39, od39, .func (PySem.W.fnOf "__init__" "BadText.__init__" (defArgs s_BadText) (defBody s_BadText) (defScope s_BadText) .none kV39 dc39 pm39 an39 cd39 ct39), sl39⟩)
    (xc_BadText : PySem.W.codeIn K cd39 "BadText.__init__" = true)
    (xkf_BadText : PySem.W.keepIn K (.ref f39) = true)
    (xk_BadText : PySem.W.keepIn K (.ref C_BadText) = true)
    (xe_BadText : PySem.W.subIn K (.ref C_BadText) (.type "BaseException") = some true)
    (xty_BadText : PySem.W.typeIn K (.ref C_BadText) = some (.type "type"))
    (xhd_BadText : PySem.W.hasDictIn K C_BadText = true)
    (xis_BadText : PySem.W.isClsIn K C_BadText = true)
    (xca_BadText : PySem.W.findIn K (.ref C_BadText) "__class__" = some (some (.builtin "object.__class__")))
    (xm_BadText : PySem.W.mroIn K C_BadText (.type "object") = some true)
    (xl_TooLong : K.lookup C_TooLong = some (excClassObj nm_TooLong q_TooLong C_TooLong N_TooLong bs_TooLong bm_TooLong true sn_TooLong sub_TooLong ab_TooLong col_TooLong dd_TooLong m0_TooLong m1_TooLong m2_TooLong m3_TooLong m5_TooLong "ValueError.__new__"))
    (xr_TooLong : PySem.HandSPX.refsVE bm_TooLong = true)
    (xsa_TooLong : PySem.W.findIn K (.ref C_TooLong) "__setattr__" = some (some (.builtin "object.__setattr__")))
    (xga_TooLong : PySem.W.findIn K (.ref C_TooLong) "__getattribute__" = some (some (.builtin "BaseException.__getattribute__")))
    (xgg_TooLong : PySem.W.findIn K (.ref C_TooLong) "__getattr__" = some none)
    (xnf_TooLong : PySem.W.findIn K (.ref C_TooLong) "number" = some none)
    (xi_TooLong : PySem.W.findIn K (.ref C_TooLong) "__init__" = some (some (.ref f40)))
    (xt_TooLong : PySem.W.typeIn K (.ref f40) = some (.type "function"))
    (xf_TooLong : K.lookup f40 = some ⟨oc40, od40, .func (PySem.W.fnOf "__init__" "TooLong.__init__" (defArgs s_TooLong) (defBody s_TooLong) (defScope s_TooLong) .none kV40 dc40 pm40 an40 cd40 ct40), sl40⟩)
    (xc_TooLong : PySem.W.codeIn K cd40 "TooLong.__init__" = true)
    (xkf_TooLong : PySem.W.keepIn K (.ref f40) = true)
    (xk_TooLong : PySem.W.keepIn K (.ref C_TooLong) = true)
    (xe_TooLong : PySem.W.subIn K (.ref C_TooLong) (.type "BaseException") = some true)
    (xty_TooLong : PySem.W.typeIn K (.ref C_TooLong) = some (.type "type"))
    (xhd_TooLong : PySem.W.hasDictIn K C_TooLong = true)
    (xis_TooLong : PySem.W.isClsIn K C_TooLong = true)
    (xca_TooLong : PySem.W.findIn K (.ref C_TooLong) "__class__" = some (some (.builtin "object.__class__")))
    (xm_TooLong : PySem.W.mroIn K C_TooLong (.type "object") = some true)
    (xsp : PySem.W.specialIn K (.builtin "object.__class__") "__get__" = some (some (.builtin "getset_descriptor.__get__")))
    (xtk : PySem.W.takesIn K (.builtin "object.__class__") = some true)
    (qi_BadRound : PySem.W.isClsIn K C_BadRound = true)
    (qt_BadRound : PySem.W.typeIn K (.ref C_BadRound) = some (.type "type"))
    (qs_BadRound : PySem.W.subIn K (.ref C_BadRound) (.ref C_BadRound) = some true)
    (qb_BadRound : PySem.W.subIn K (.ref C_BadRound) (.type "BaseException") = some true)
    (qi_GlimError : PySem.W.isClsIn K C_GlimError = true)
    (qt_GlimError : PySem.W.typeIn K (.ref C_GlimError) = some (.type "type"))
    (qs_GlimError : PySem.W.subIn K (.ref C_GlimError) (.ref C_GlimError) = some true)
    (qb_GlimError : PySem.W.subIn K (.ref C_GlimError) (.type "BaseException") = some true)
    (qi_TooLong : PySem.W.isClsIn K C_TooLong = true)
    (qt_TooLong : PySem.W.typeIn K (.ref C_TooLong) = some (.type "type"))
    (qs_TooLong : PySem.W.subIn K (.ref C_TooLong) (.ref C_TooLong) = some true)
    (qb_TooLong : PySem.W.subIn K (.ref C_TooLong) (.type "BaseException") = some true)
    (y_BadRound_BadRound : PySem.W.subIn K (.ref C_BadRound) (.ref C_BadRound) = some true)
    (y_BadRound_TooLong : PySem.W.subIn K (.ref C_BadRound) (.ref C_TooLong) = some false)
    (y_BadRound_ValueError : PySem.W.subIn K (.ref C_BadRound) (.type "ValueError") = some true)
    (y_TooLong_BadRound : PySem.W.subIn K (.ref C_TooLong) (.ref C_BadRound) = some false)
    (y_TooLong_TooLong : PySem.W.subIn K (.ref C_TooLong) (.ref C_TooLong) = some true)
    (y_TooLong_ValueError : PySem.W.subIn K (.ref C_TooLong) (.type "ValueError") = some true)
    (x_BadRound_GlimError : PySem.W.subIn K (.ref C_BadRound) (.ref C_GlimError) = some true)
    (x_TooLong_GlimError : PySem.W.subIn K (.ref C_TooLong) (.ref C_GlimError) = some true)
    : ∃ fd : FuncData, (∀ (s : Shared) (v : Value), BindsTo s fd ⟨[v], []⟩ [("_law_script", v)]) ∧ ∀ base : Heap, K.In base → base.Ns mainGlobals mg → FnOk l.prog w K mg base CX0 10 fa fd ["_law_script"] (sp1 (p_law K)) := by
  have e := hfa.symm.trans (PySem.W.mg_of X G a36)
  cases e
  have F1 := fun_mk (st := s_wrong_sign) l1 c1 k1
  have F2 := fun_mk (st := s_check_round) l2 c2 k2
  have F3 := fun_mk (st := s_common_beats) l3 c3 k3
  have F4 := fun_mk (st := s_repeated) l4 c4 k4
  have F5 := fun_mk (st := s_put_behind) l5 c5 k5
  have F6 := fun_mk (st := s_first_lit) l6 c6 k6
  have F7 := fun_mk (st := s_shown_together) l7 c7 k7
  have F8 := fun_mk (st := s_behind_digits) l8 c8 k8
  have F9 := fun_mk (st := s_is_within) l9 c9 k9
  have F10 := fun_mk (st := s_read_item) l10 c10 k10
  have F11 := fun_mk (st := s_read_filled) l11 c11 k11
  have F12 := fun_mk (st := s_read_part) l12 c12 k12
  have F13 := fun_mk (st := s_read_parts) l13 c13 k13
  have F14 := fun_mk (st := s_read_round) l14 c14 k14
  have F15 := fun_mk (st := s_shortest) l15 c15 k15
  have F16 := fun_mk (st := s_turned) l16 c16 k16
  have F17 := fun_mk (st := s_alike) l17 c17 k17
  have F18 := fun_mk (st := s_parting) l18 c18 k18
  have F19 := fun_mk (st := s_laid_over) l19 c19 k19
  have F20 := fun_mk (st := s_L_draw) l20 c20 k20
  have F21 := fun_mk (st := s_L_mix) l21 c21 k21
  have F22 := fun_mk (st := s_L_pick) l22 c22 k22
  have F23 := fun_mk (st := s_L_is_int) l23 c23 k23
  have F24 := fun_mk (st := s_L_sign) l24 c24 k24
  have F25 := fun_mk (st := s_L_round) l25 c25 k25
  have F26 := fun_mk (st := s_L_bent) l26 c26 k26
  have F27 := fun_mk (st := s_L_agreeing) l27 c27 k27
  have F28 := fun_mk (st := s_L_two_rounds) l28 c28 k28
  have F29 := fun_mk (st := s_L_parting) l29 c29 k29
  have F30 := fun_mk (st := s_L_over) l30 c30 k30
  have F31 := fun_mk (st := s_L_call) l31 c31 k31
  have F32 := fun_mk (st := s_L_told) l32 c32 k32
  have F33 := fun_mk (st := s_L_equal) l33 c33 k33
  have F34 := fun_mk (st := s_L_pair_right) l34 c34 k34
  have F35 := fun_mk (st := s_L_bad_round) l35 c35 k35
  have F36 := fun_mk (st := s_law) l36 c36 k36
  have F37 := fun_mk (st := s_BadRound) xf_BadRound xc_BadRound xkf_BadRound
  have F38 := fun_mk (st := s_BadBeats) xf_BadBeats xc_BadBeats xkf_BadBeats
  have F39 := fun_mk (st := s_BadText) xf_BadText xc_BadText xkf_BadText
  have F40 := fun_mk (st := s_TooLong) xf_TooLong xc_TooLong xkf_TooLong
  have T : Txt K mg C_GlimError C_BadRound C_BadBeats C_BadText C_TooLong := {
    d_wrong_sign := ⟨_, _, F1, PySem.W.mg_of X G a1, (F1.binds (ps := ["row"]) fun _ _ _ _ _ _ us hl => match us, hl with | [_], _ => rfl)⟩
    d_check_round := ⟨_, _, F2, PySem.W.mg_of X G a2, (F2.binds (ps := ["thing"]) fun _ _ _ _ _ _ us hl => match us, hl with | [_], _ => rfl)⟩
    d_common_beats := ⟨_, _, F3, PySem.W.mg_of X G a3, (F3.binds (ps := ["first", "second"]) fun _ _ _ _ _ _ us hl => match us, hl with | [_, _], _ => rfl)⟩
    d_repeated := ⟨_, _, F4, PySem.W.mg_of X G a4, (F4.binds (ps := ["stretch", "times"]) fun _ _ _ _ _ _ us hl => match us, hl with | [_, _], _ => rfl)⟩
    d_put_behind := ⟨_, _, F5, PySem.W.mg_of X G a5, (F5.binds (ps := ["stretch", "other"]) fun _ _ _ _ _ _ us hl => match us, hl with | [_, _], _ => rfl)⟩
    d_first_lit := ⟨_, _, F6, PySem.W.mg_of X G a6, (F6.binds (ps := ["signs"]) fun _ _ _ _ _ _ us hl => match us, hl with | [_], _ => rfl)⟩
    d_shown_together := ⟨_, _, F7, PySem.W.mg_of X G a7, (F7.binds (ps := ["parts"]) fun _ _ _ _ _ _ us hl => match us, hl with | [_], _ => rfl)⟩
    d_behind_digits := ⟨_, _, F8, PySem.W.mg_of X G a8, (F8.binds (ps := ["text", "at"]) fun _ _ _ _ _ _ us hl => match us, hl with | [_, _], _ => rfl)⟩
    d_is_within := ⟨_, _, F9, PySem.W.mg_of X G a9, (F9.binds (ps := ["run", "low", "high"]) fun _ _ _ _ _ _ us hl => match us, hl with | [_, _, _], _ => rfl)⟩
    d_read_item := ⟨_, _, F10, PySem.W.mg_of X G a10, (F10.binds (ps := ["text", "at", "opened"]) fun _ _ _ _ _ _ us hl => match us, hl with | [_, _, _], _ => rfl)⟩
    d_read_filled := ⟨_, _, F11, PySem.W.mg_of X G a11, (F11.binds (ps := ["text", "at", "part"]) fun _ _ _ _ _ _ us hl => match us, hl with | [_, _, _], _ => rfl)⟩
    d_read_part := ⟨_, _, F12, PySem.W.mg_of X G a12, (F12.binds (ps := ["text", "at", "opened"]) fun _ _ _ _ _ _ us hl => match us, hl with | [_, _, _], _ => rfl)⟩
    d_read_parts := ⟨_, _, F13, PySem.W.mg_of X G a13, (F13.binds (ps := ["text", "at", "opened"]) fun _ _ _ _ _ _ us hl => match us, hl with | [_, _, _], _ => rfl)⟩
    d_read_round := ⟨_, _, F14, PySem.W.mg_of X G a14, (F14.binds (ps := ["text"]) fun _ _ _ _ _ _ us hl => match us, hl with | [_], _ => rfl)⟩
    d_shortest := ⟨_, _, F15, PySem.W.mg_of X G a15, (F15.binds (ps := ["row"]) fun _ _ _ _ _ _ us hl => match us, hl with | [_], _ => rfl)⟩
    d_turned := ⟨_, _, F16, PySem.W.mg_of X G a16, (F16.binds (ps := ["row", "beats"]) fun _ _ _ _ _ _ us hl => match us, hl with | [_, _], _ => rfl)⟩
    d_alike := ⟨_, _, F17, PySem.W.mg_of X G a17, (F17.binds (ps := ["first", "second"]) fun _ _ _ _ _ _ us hl => match us, hl with | [_, _], _ => rfl)⟩
    d_parting := ⟨_, _, F18, PySem.W.mg_of X G a18, (F18.binds (ps := ["first", "second"]) fun _ _ _ _ _ _ us hl => match us, hl with | [_, _], _ => rfl)⟩
    d_laid_over := ⟨_, _, F19, PySem.W.mg_of X G a19, (F19.binds (ps := ["first", "second"]) fun _ _ _ _ _ _ us hl => match us, hl with | [_, _], _ => rfl)⟩
    d_L_draw := ⟨_, _, F20, PySem.W.mg_of X G a20, (F20.binds (ps := ["_law_script"]) fun _ _ _ _ _ _ us hl => match us, hl with | [_], _ => rfl)⟩
    d_L_mix := ⟨_, _, F21, PySem.W.mg_of X G a21, (F21.binds (ps := ["_law_cell", "_law_turn"]) fun _ _ _ _ _ _ us hl => match us, hl with | [_, _], _ => rfl)⟩
    d_L_pick := ⟨_, _, F22, PySem.W.mg_of X G a22, (F22.binds (ps := ["_law_draw_here", "_law_many"]) fun _ _ _ _ _ _ us hl => match us, hl with | [_, _], _ => rfl)⟩
    d_L_is_int := ⟨_, _, F23, PySem.W.mg_of X G a23, (F23.binds (ps := ["_law_thing"]) fun _ _ _ _ _ _ us hl => match us, hl with | [_], _ => rfl)⟩
    d_L_sign := ⟨_, _, F24, PySem.W.mg_of X G a24, (F24.binds (ps := ["_law_draw_here"]) fun _ _ _ _ _ _ us hl => match us, hl with | [_], _ => rfl)⟩
    d_L_round := ⟨_, _, F25, PySem.W.mg_of X G a25, (F25.binds (ps := ["_law_draw_here", "_law_most"]) fun _ _ _ _ _ _ us hl => match us, hl with | [_, _], _ => rfl)⟩
    d_L_bent := ⟨_, _, F26, PySem.W.mg_of X G a26, (F26.binds (ps := ["_law_draw_here", "_law_row"]) fun _ _ _ _ _ _ us hl => match us, hl with | [_, _], _ => rfl)⟩
    d_L_agreeing := ⟨_, _, F27, PySem.W.mg_of X G a27, (F27.binds (ps := ["_law_draw_here", "_law_one", "_law_two", "_law_many"]) fun _ _ _ _ _ _ us hl => match us, hl with | [_, _, _, _], _ => rfl)⟩
    d_L_two_rounds := ⟨_, _, F28, PySem.W.mg_of X G a28, (F28.binds (ps := ["_law_draw_here"]) fun _ _ _ _ _ _ us hl => match us, hl with | [_], _ => rfl)⟩
    d_L_parting := ⟨_, _, F29, PySem.W.mg_of X G a29, (F29.binds (ps := ["_law_first", "_law_second"]) fun _ _ _ _ _ _ us hl => match us, hl with | [_, _], _ => rfl)⟩
    d_L_over := ⟨_, _, F30, PySem.W.mg_of X G a30, (F30.binds (ps := ["_law_first", "_law_second"]) fun _ _ _ _ _ _ us hl => match us, hl with | [_, _], _ => rfl)⟩
    d_L_call := ⟨_, _, F31, PySem.W.mg_of X G a31, (F31.binds (ps := ["_law_kind", "_law_first", "_law_second"]) fun _ _ _ _ _ _ us hl => match us, hl with | [_, _, _], _ => rfl)⟩
    d_L_told := ⟨_, _, F32, PySem.W.mg_of X G a32, (F32.binds (ps := ["_law_kind", "_law_first", "_law_second"]) fun _ _ _ _ _ _ us hl => match us, hl with | [_, _, _], _ => rfl)⟩
    d_L_equal := ⟨_, _, F33, PySem.W.mg_of X G a33, (F33.binds (ps := ["_law_told_here", "_law_due"]) fun _ _ _ _ _ _ us hl => match us, hl with | [_, _], _ => rfl)⟩
    d_L_pair_right := ⟨_, _, F34, PySem.W.mg_of X G a34, (F34.binds (ps := ["_law_draw_here", "_law_first", "_law_second"]) fun _ _ _ _ _ _ us hl => match us, hl with | [_, _, _], _ => rfl)⟩
    d_L_bad_round := ⟨_, _, F35, PySem.W.mg_of X G a35, (F35.binds (ps := ["_law_draw_here", "_law_row"]) fun _ _ _ _ _ _ us hl => match us, hl with | [_, _], _ => rfl)⟩
    d_law := ⟨_, _, F36, PySem.W.mg_of X G a36, (F36.binds (ps := ["_law_script"]) fun _ _ _ _ _ _ us hl => match us, hl with | [_], _ => rfl)⟩
    b_ValueError := PySem.W.mg_none_of X G z_ValueError
    b_abs := PySem.W.mg_none_of X G z_abs
    b_bool := PySem.W.mg_none_of X G z_bool
    b_enumerate := PySem.W.mg_none_of X G z_enumerate
    b_int := PySem.W.mg_none_of X G z_int
    b_isinstance := PySem.W.mg_none_of X G z_isinstance
    b_len := PySem.W.mg_none_of X G z_len
    b_list := PySem.W.mg_none_of X G z_list
    b_max := PySem.W.mg_none_of X G z_max
    b_range := PySem.W.mg_none_of X G z_range
    b_str := PySem.W.mg_none_of X G z_str
    b_sum := PySem.W.mg_none_of X G z_sum
    g_SIGNS := ⟨t_SIGNS, (PySem.W.mg_of X G v_SIGNS).trans (congrArg some (congrArg (fun z => Value.str z t_SIGNS) (by decide +kernel : (".grw" : Str) = ⟨([46, 103, 114, 119] : List Nat).toArray⟩)))⟩
    g_MOST_ROUND := ⟨t_MOST_ROUND, PySem.W.mg_of X G v_MOST_ROUND⟩
    g_DIGITS := ⟨t_DIGITS, (PySem.W.mg_of X G v_DIGITS).trans (congrArg some (congrArg (fun z => Value.str z t_DIGITS) (by decide +kernel : ("0123456789" : Str) = ⟨([48, 49, 50, 51, 52, 53, 54, 55, 56, 57] : List Nat).toArray⟩)))⟩
    g_MOST_OPEN := ⟨t_MOST_OPEN, PySem.W.mg_of X G v_MOST_OPEN⟩
    c_GlimError := PySem.W.mg_of X G g_GlimError
    c_BadRound := PySem.W.mg_of X G g_BadRound
    c_BadBeats := PySem.W.mg_of X G g_BadBeats
    c_BadText := PySem.W.mg_of X G g_BadText
    c_TooLong := PySem.W.mg_of X G g_TooLong
    o_BadRound := ⟨⟨nm_BadRound, q_BadRound, N_BadRound, bs_BadRound, bm_BadRound, sn_BadRound, sub_BadRound, ab_BadRound, col_BadRound, dd_BadRound, m0_BadRound, m1_BadRound, m2_BadRound, m3_BadRound, m5_BadRound, xl_BadRound, xr_BadRound⟩, xsa_BadRound, xe_BadRound, xty_BadRound, xk_BadRound⟩
    nf_BadRound := xnf_BadRound
    i_BadRound := ⟨f37, _, xi_BadRound, xt_BadRound, F37, (F37.binds (ps := ["self", "number"]) fun _ _ _ _ _ _ us hl => match us, hl with | [_, _], _ => rfl)⟩
    e_BadRound := ⟨xis_BadRound, xga_BadRound, xgg_BadRound, xe_BadRound, xhd_BadRound, xca_BadRound, xsp, xtk, xm_BadRound⟩
    o_BadBeats := ⟨⟨nm_BadBeats, q_BadBeats, N_BadBeats, bs_BadBeats, bm_BadBeats, sn_BadBeats, sub_BadBeats, ab_BadBeats, col_BadBeats, dd_BadBeats, m0_BadBeats, m1_BadBeats, m2_BadBeats, m3_BadBeats, m5_BadBeats, xl_BadBeats, xr_BadBeats⟩, xsa_BadBeats, xe_BadBeats, xty_BadBeats, xk_BadBeats⟩
    nf_BadBeats := xnf_BadBeats
    i_BadBeats := ⟨f38, _, xi_BadBeats, xt_BadBeats, F38, (F38.binds (ps := ["self", "beats"]) fun _ _ _ _ _ _ us hl => match us, hl with | [_, _], _ => rfl)⟩
    e_BadBeats := ⟨xis_BadBeats, xga_BadBeats, xgg_BadBeats, xe_BadBeats, xhd_BadBeats, xca_BadBeats, xsp, xtk, xm_BadBeats⟩
    o_BadText := ⟨⟨nm_BadText, q_BadText, N_BadText, bs_BadText, bm_BadText, sn_BadText, sub_BadText, ab_BadText, col_BadText, dd_BadText, m0_BadText, m1_BadText, m2_BadText, m3_BadText, m5_BadText, xl_BadText, xr_BadText⟩, xsa_BadText, xe_BadText, xty_BadText, xk_BadText⟩
    nf_BadText := xnf_BadText
    i_BadText := ⟨f39, _, xi_BadText, xt_BadText, F39, (F39.binds (ps := ["self", "at"]) fun _ _ _ _ _ _ us hl => match us, hl with | [_, _], _ => rfl)⟩
    e_BadText := ⟨xis_BadText, xga_BadText, xgg_BadText, xe_BadText, xhd_BadText, xca_BadText, xsp, xtk, xm_BadText⟩
    o_TooLong := ⟨⟨nm_TooLong, q_TooLong, N_TooLong, bs_TooLong, bm_TooLong, sn_TooLong, sub_TooLong, ab_TooLong, col_TooLong, dd_TooLong, m0_TooLong, m1_TooLong, m2_TooLong, m3_TooLong, m5_TooLong, xl_TooLong, xr_TooLong⟩, xsa_TooLong, xe_TooLong, xty_TooLong, xk_TooLong⟩
    nf_TooLong := xnf_TooLong
    i_TooLong := ⟨f40, _, xi_TooLong, xt_TooLong, F40, (F40.binds (ps := ["self", "number"]) fun _ _ _ _ _ _ us hl => match us, hl with | [_, _], _ => rfl)⟩
    e_TooLong := ⟨xis_TooLong, xga_TooLong, xgg_TooLong, xe_TooLong, xhd_TooLong, xca_TooLong, xsp, xtk, xm_TooLong⟩
    k_BadRound_BadRound := Fg.kit_ref qi_BadRound qt_BadRound qs_BadRound y_BadRound_BadRound
    k_BadRound_TooLong := Fg.kit_ref qi_TooLong qt_TooLong qs_TooLong y_BadRound_TooLong
    k_BadRound_ValueError := Fg.kit_base (by decide +kernel) y_BadRound_ValueError
    k_TooLong_BadRound := Fg.kit_ref qi_BadRound qt_BadRound qs_BadRound y_TooLong_BadRound
    k_TooLong_TooLong := Fg.kit_ref qi_TooLong qt_TooLong qs_TooLong y_TooLong_TooLong
    k_TooLong_ValueError := Fg.kit_base (by decide +kernel) y_TooLong_ValueError
    m_BadRound_GlimError := Fg.exm_ref qi_GlimError qt_GlimError qb_GlimError x_BadRound_GlimError
    m_TooLong_GlimError := Fg.exm_ref qi_GlimError qt_GlimError qb_GlimError x_TooLong_GlimError }
  refine ⟨PySem.W.fnOf "law" "law" (defArgs s_law) (defBody s_law) (defScope s_law) .none kV36 dc36 pm36 an36 cd36 ct36, fun s v => .of_eq rfl, fun base _ _ => ?_⟩
  exact ok_law_at F36 T
end K08
open PySem PySem.W PyProof.Rows
set_option maxRecDepth 100000 in
set_option maxHeartbeats 0 in
theorem PySem.Challenge.cw_falseglim_k08_whole_parted_rounds_holds : PySem.Challenge.rw_falseglim_k08_whole_parted_rounds.Holds := by
  w_on; o_law; k_head; (case hw => w_witness2)
  k_fill
  refine L2.walk_of (l := PySem.Challenge.rw_falseglim_k08_whole_parted_rounds) (n := 63) (k := 10) (x := "_law_script") (CX := fun _ => L2.CX0) (sp := fun w => Fg.sp1 (K08.p_law _)) rfl (by decide) rfl ⟨rfl, by decide, by decide⟩ (fun w h Y => PySem.W.kIn_of Y) ?F (fun _ _ a ns hl _ hS => ⟨.ref a, rfl, a, ns, rfl, hS, hl, fun _ => rfl⟩) (fun _ _ _ _ _ h => h)
  case F =>
    intro w mg fa h KX G hmg
    refine' K08.all_mk KX G hmg ?a1 ?l1 ?c1 ?k1 ?a2 ?l2 ?c2 ?k2 ?a3 ?l3 ?c3 ?k3 ?a4 ?l4 ?c4 ?k4 ?a5 ?l5 ?c5 ?k5 ?a6 ?l6 ?c6 ?k6 ?a7 ?l7 ?c7 ?k7 ?a8 ?l8 ?c8 ?k8 ?a9 ?l9 ?c9 ?k9 ?a10 ?l10 ?c10 ?k10 ?a11 ?l11 ?c11 ?k11 ?a12 ?l12 ?c12 ?k12 ?a13 ?l13 ?c13 ?k13 ?a14 ?l14 ?c14 ?k14 ?a15 ?l15 ?c15 ?k15 ?a16 ?l16 ?c16 ?k16 ?a17 ?l17 ?c17 ?k17 ?a18 ?l18 ?c18 ?k18 ?a19 ?l19 ?c19 ?k19 ?a20 ?l20 ?c20 ?k20 ?a21 ?l21 ?c21 ?k21 ?a22 ?l22 ?c22 ?k22 ?a23 ?l23 ?c23 ?k23 ?a24 ?l24 ?c24 ?k24 ?a25 ?l25 ?c25 ?k25 ?a26 ?l26 ?c26 ?k26 ?a27 ?l27 ?c27 ?k27 ?a28 ?l28 ?c28 ?k28 ?a29 ?l29 ?c29 ?k29 ?a30 ?l30 ?c30 ?k30 ?a31 ?l31 ?c31 ?k31 ?a32 ?l32 ?c32 ?k32 ?a33 ?l33 ?c33 ?k33 ?a34 ?l34 ?c34 ?k34 ?a35 ?l35 ?c35 ?k35 ?a36 ?l36 ?c36 ?k36 ?z_ValueError ?z_abs ?z_bool ?z_enumerate ?z_int ?z_isinstance ?z_len ?z_list ?z_max ?z_range ?z_str ?z_sum ?v_SIGNS ?v_MOST_ROUND ?v_DIGITS ?v_MOST_OPEN ?g_GlimError ?g_BadRound ?g_BadBeats ?g_BadText ?g_TooLong ?xl_BadRound ?xr_BadRound ?xsa_BadRound ?xga_BadRound ?xgg_BadRound ?xnf_BadRound ?xi_BadRound ?xt_BadRound ?xf_BadRound ?xc_BadRound ?xkf_BadRound ?xk_BadRound ?xe_BadRound ?xty_BadRound ?xhd_BadRound ?xis_BadRound ?xca_BadRound ?xm_BadRound ?xl_BadBeats ?xr_BadBeats ?xsa_BadBeats ?xga_BadBeats ?xgg_BadBeats ?xnf_BadBeats ?xi_BadBeats ?xt_BadBeats ?xf_BadBeats ?xc_BadBeats ?xkf_BadBeats ?xk_BadBeats ?xe_BadBeats ?xty_BadBeats ?xhd_BadBeats ?xis_BadBeats ?xca_BadBeats ?xm_BadBeats ?xl_BadText ?xr_BadText ?xsa_BadText ?xga_BadText ?xgg_BadText ?xnf_BadText ?xi_BadText ?xt_BadText ?xf_BadText ?xc_BadText ?xkf_BadText ?xk_BadText ?xe_BadText ?xty_BadText ?xhd_BadText ?xis_BadText ?xca_BadText ?xm_BadText ?xl_TooLong ?xr_TooLong ?xsa_TooLong ?xga_TooLong ?xgg_TooLong ?xnf_TooLong ?xi_TooLong ?xt_TooLong ?xf_TooLong ?xc_TooLong ?xkf_TooLong ?xk_TooLong ?xe_TooLong ?xty_TooLong ?xhd_TooLong ?xis_TooLong ?xca_TooLong ?xm_TooLong ?xsp ?xtk ?qi_BadRound ?qt_BadRound ?qs_BadRound ?qb_BadRound ?qi_GlimError ?qt_GlimError ?qs_GlimError ?qb_GlimError ?qi_TooLong ?qt_TooLong ?qs_TooLong ?qb_TooLong ?y_BadRound_BadRound ?y_BadRound_TooLong ?y_BadRound_ValueError ?y_TooLong_BadRound ?y_TooLong_TooLong ?y_TooLong_ValueError ?x_BadRound_GlimError ?x_TooLong_GlimError
    (case a1 => k_is)
    (case l1 => k_is)
    (case c1 => k_is)
    (case k1 => k_is)
    (case a2 => k_is)
    (case l2 => k_is)
    (case c2 => k_is)
    (case k2 => k_is)
    (case a3 => k_is)
    (case l3 => k_is)
    (case c3 => k_is)
    (case k3 => k_is)
    (case a4 => k_is)
    (case l4 => k_is)
    (case c4 => k_is)
    (case k4 => k_is)
    (case a5 => k_is)
    (case l5 => k_is)
    (case c5 => k_is)
    (case k5 => k_is)
    (case a6 => k_is)
    (case l6 => k_is)
    (case c6 => k_is)
    (case k6 => k_is)
    (case a7 => k_is)
    (case l7 => k_is)
    (case c7 => k_is)
    (case k7 => k_is)
    (case a8 => k_is)
    (case l8 => k_is)
    (case c8 => k_is)
    (case k8 => k_is)
    (case a9 => k_is)
    (case l9 => k_is)
    (case c9 => k_is)
    (case k9 => k_is)
    (case a10 => k_is)
    (case l10 => k_is)
    (case c10 => k_is)
    (case k10 => k_is)
    (case a11 => k_is)
    (case l11 => k_is)
    (case c11 => k_is)
    (case k11 => k_is)
    (case a12 => k_is)
    (case l12 => k_is)
    (case c12 => k_is)
    (case k12 => k_is)
    (case a13 => k_is)
    (case l13 => k_is)
    (case c13 => k_is)
    (case k13 => k_is)
    (case a14 => k_is)
    (case l14 => k_is)
    (case c14 => k_is)
    (case k14 => k_is)
    (case a15 => k_is)
    (case l15 => k_is)
    (case c15 => k_is)
    (case k15 => k_is)
    (case a16 => k_is)
    (case l16 => k_is)
    (case c16 => k_is)
    (case k16 => k_is)
    (case a17 => k_is)
    (case l17 => k_is)
    (case c17 => k_is)
    (case k17 => k_is)
    (case a18 => k_is)
    (case l18 => k_is)
    (case c18 => k_is)
    (case k18 => k_is)
    (case a19 => k_is)
    (case l19 => k_is)
    (case c19 => k_is)
    (case k19 => k_is)
    (case a20 => k_is)
    (case l20 => k_is)
    (case c20 => k_is)
    (case k20 => k_is)
    (case a21 => k_is)
    (case l21 => k_is)
    (case c21 => k_is)
    (case k21 => k_is)
    (case a22 => k_is)
    (case l22 => k_is)
    (case c22 => k_is)
    (case k22 => k_is)
    (case a23 => k_is)
    (case l23 => k_is)
    (case c23 => k_is)
    (case k23 => k_is)
    (case a24 => k_is)
    (case l24 => k_is)
    (case c24 => k_is)
    (case k24 => k_is)
    (case a25 => k_is)
    (case l25 => k_is)
    (case c25 => k_is)
    (case k25 => k_is)
    (case a26 => k_is)
    (case l26 => k_is)
    (case c26 => k_is)
    (case k26 => k_is)
    (case a27 => k_is)
    (case l27 => k_is)
    (case c27 => k_is)
    (case k27 => k_is)
    (case a28 => k_is)
    (case l28 => k_is)
    (case c28 => k_is)
    (case k28 => k_is)
    (case a29 => k_is)
    (case l29 => k_is)
    (case c29 => k_is)
    (case k29 => k_is)
    (case a30 => k_is)
    (case l30 => k_is)
    (case c30 => k_is)
    (case k30 => k_is)
    (case a31 => k_is)
    (case l31 => k_is)
    (case c31 => k_is)
    (case k31 => k_is)
    (case a32 => k_is)
    (case l32 => k_is)
    (case c32 => k_is)
    (case k32 => k_is)
    (case a33 => k_is)
    (case l33 => k_is)
    (case c33 => k_is)
    (case k33 => k_is)
    (case a34 => k_is)
    (case l34 => k_is)
    (case c34 => k_is)
    (case k34 => k_is)
    (case a35 => k_is)
    (case l35 => k_is)
    (case c35 => k_is)
    (case k35 => k_is)
    (case a36 => k_is)
    (case l36 => k_is)
    (case c36 => k_is)
    (case k36 => k_is)
    (case z_ValueError => k_is)
    (case z_abs => k_is)
    (case z_bool => k_is)
    (case z_enumerate => k_is)
    (case z_int => k_is)
    (case z_isinstance => k_is)
    (case z_len => k_is)
    (case z_list => k_is)
    (case z_max => k_is)
    (case z_range => k_is)
    (case z_str => k_is)
    (case z_sum => k_is)
    (case v_SIGNS => k_is)
    (case v_MOST_ROUND => k_is)
    (case v_DIGITS => k_is)
    (case v_MOST_OPEN => k_is)
    (case g_GlimError => k_is)
    (case g_BadRound => k_is)
    (case g_BadBeats => k_is)
    (case g_BadText => k_is)
    (case g_TooLong => k_is)
    (case xl_BadRound => k_is)
    (case xr_BadRound => first | rfl | k_is | decide +kernel)
    (case xsa_BadRound => k_is)
    (case xga_BadRound => k_is)
    (case xgg_BadRound => k_is)
    (case xnf_BadRound => k_is)
    (case xi_BadRound => k_is)
    (case xt_BadRound => k_is)
    (case xf_BadRound => k_is)
    (case xc_BadRound => k_is)
    (case xkf_BadRound => k_is)
    (case xk_BadRound => k_is)
    (case xe_BadRound => k_is)
    (case xty_BadRound => k_is)
    (case xhd_BadRound => k_is)
    (case xis_BadRound => k_is)
    (case xca_BadRound => k_is)
    (case xm_BadRound => k_is)
    (case xl_BadBeats => k_is)
    (case xr_BadBeats => first | rfl | k_is | decide +kernel)
    (case xsa_BadBeats => k_is)
    (case xga_BadBeats => k_is)
    (case xgg_BadBeats => k_is)
    (case xnf_BadBeats => k_is)
    (case xi_BadBeats => k_is)
    (case xt_BadBeats => k_is)
    (case xf_BadBeats => k_is)
    (case xc_BadBeats => k_is)
    (case xkf_BadBeats => k_is)
    (case xk_BadBeats => k_is)
    (case xe_BadBeats => k_is)
    (case xty_BadBeats => k_is)
    (case xhd_BadBeats => k_is)
    (case xis_BadBeats => k_is)
    (case xca_BadBeats => k_is)
    (case xm_BadBeats => k_is)
    (case xl_BadText => k_is)
    (case xr_BadText => first | rfl | k_is | decide +kernel)
    (case xsa_BadText => k_is)
    (case xga_BadText => k_is)
    (case xgg_BadText => k_is)
    (case xnf_BadText => k_is)
    (case xi_BadText => k_is)
    (case xt_BadText => k_is)
    (case xf_BadText => k_is)
    (case xc_BadText => k_is)
    (case xkf_BadText => k_is)
    (case xk_BadText => k_is)
    (case xe_BadText => k_is)
    (case xty_BadText => k_is)
    (case xhd_BadText => k_is)
    (case xis_BadText => k_is)
    (case xca_BadText => k_is)
    (case xm_BadText => k_is)
    (case xl_TooLong => k_is)
    (case xr_TooLong => first | rfl | k_is | decide +kernel)
    (case xsa_TooLong => k_is)
    (case xga_TooLong => k_is)
    (case xgg_TooLong => k_is)
    (case xnf_TooLong => k_is)
    (case xi_TooLong => k_is)
    (case xt_TooLong => k_is)
    (case xf_TooLong => k_is)
    (case xc_TooLong => k_is)
    (case xkf_TooLong => k_is)
    (case xk_TooLong => k_is)
    (case xe_TooLong => k_is)
    (case xty_TooLong => k_is)
    (case xhd_TooLong => k_is)
    (case xis_TooLong => k_is)
    (case xca_TooLong => k_is)
    (case xm_TooLong => k_is)
    (case xsp => k_is)
    (case xtk => k_is)
    (case qi_BadRound => k_is)
    (case qt_BadRound => k_is)
    (case qs_BadRound => k_is)
    (case qb_BadRound => k_is)
    (case qi_GlimError => k_is)
    (case qt_GlimError => k_is)
    (case qs_GlimError => k_is)
    (case qb_GlimError => k_is)
    (case qi_TooLong => k_is)
    (case qt_TooLong => k_is)
    (case qs_TooLong => k_is)
    (case qb_TooLong => k_is)
    (case y_BadRound_BadRound => k_is)
    (case y_BadRound_TooLong => k_is)
    (case y_BadRound_ValueError => k_is)
    (case y_TooLong_BadRound => k_is)
    (case y_TooLong_TooLong => k_is)
    (case y_TooLong_ValueError => k_is)
    (case x_BadRound_GlimError => k_is)
    (case x_TooLong_GlimError => k_is)
