import PyProof.Rows.All
import Wide.All
import OpenK.AllK
import Wide.FinOn
import HandS.ForMost
import HandS.Exc
import HandS.ExcOwn
import HandS.WordsExc
import HandS.TryOnly
import HandS.ExcInit
import HandS.ExcField
import HandS.ExcIs
import HandS.IsInst
import HandS.TryMany
import HandS.Wide
import HandS.Steps
import HandS.TupAny
import HandS.Walk
import HandS.Evl
import KE.GoesEnum
import KE.KExcIs
import HandS.Conv
import HandS.Defaults
import HandS.Deep
import HandS.Replace
import HandS.ReplaceLit
import HandS.RaiseMore
import PyProof.ReprBulk
import HandS.IterVal
import HandS.HotCalls
import HandS.Flow
import HandS.Property
import HandS.Star
import HandS.OwnIter
import HandS.More
import HandS.SortInts
import PyProof.RowDictHeap
import PyProof.EnumMake
import KE.GoesMore
import HandS.RaiseFrom
import HandS.ExcInitHot
import HandS.SuiteRaise
import HandS.Finally
import HandS.ExcCtx
import HandS.Codes
import HandS.TupLe
import HandS.SortKw
import KE.KMinKey
import PyProof.Rows.StrSplitCount
import PyProof.FitsStr
import PyProof.ReprReads
import PySem.Challenge.RW_falseglim_k27_way_lines
import KE.IntTextLaws
set_option Elab.async false
set_option linter.all false
set_option maxRecDepth 100000
set_option maxHeartbeats 4000000
set_option pp.maxSteps 800
set_option pp.maxSteps 600
namespace Fg
open PySem PySem.Spec PyProof.Rows L2

/-- a text by its signs -/
def S (l : List Nat) : V := .str ⟨l.toArray⟩
theorem S_inj {l m : List Nat} : S l = S m ↔ l = m := by
  constructor
  · intro h
    have h1 := V.str.inj h
    have h2 := congrArg PySem.Str.cps h1
    exact List.toArray_inj h2
  · rintro rfl; rfl
theorem S_dec {l m : List Nat} : decide (S l = S m) = decide (l = m) := by
  rw [Bool.eq_iff_iff]; simp [S_inj]
theorem str_len (l : List Nat) : (⟨l.toArray⟩ : Str).length = l.length := by
  show l.toArray.size = l.length
  simp
theorem pe_S {X : Cx} {x : Str} {j : Nat} {pos : Pos} (l : List Nat) (h : x = ⟨l.toArray⟩ := by decide +kernel) : PE X (.Constant (.str x) j pos) (tC (S l)) := by
  subst h
  exact pe_str

def or2 (r r' : R2) : R2 := fun x y H Q => r x y H Q ∨ r' x y H Q
theorem or2_op {X : Cx} {f : Value → Value → Sem Value} {r r' : R2} (h : OpR X f r) (h' : OpR X f r') : OpR X f (or2 r r') := by
  intro pins s σ H x y v u Q I rx ry q
  rcases q with q | q
  · exact h pins s σ H x y v u Q I rx ry q
  · exact h' pins s σ H x y v u Q I rx ry q
theorem or2_ix {X : Cx} {r r' : R2} (h : IxR X r) (h' : IxR X r') : IxR X (or2 r r') := by
  intro value slice pins s σ H x y v u Q I rx ry q hs
  rcases q with q | q
  · exact h value slice pins s σ H x y v u Q I rx ry q hs
  · exact h' value slice pins s σ H x y v u Q I rx ry q hs
abbrev RC := List V → Hp → VK → Prop
def orC (r r' : RC) : RC := fun xs H Q => r xs H Q ∨ r' xs H Q
theorem orC_call {X : Cx} {f : Value} {r r' : RC} (h : CallR X f r) (h' : CallR X f r') : CallR X f (orC r r') := by
  intro pins s σ H xs us Q I rx q
  rcases q with q | q
  · exact h pins s σ H xs us Q I rx q
  · exact h' pins s σ H xs us Q I rx q
abbrev RS := V → Option Int → Option Int → Hp → VK → Prop
def orS (r r' : RS) : RS := fun x lo hi H Q => r x lo hi H Q ∨ r' x lo hi H Q
theorem orS_sl {X : Cx} {r r' : RS} (h : SlR X r) (h' : SlR X r') : SlR X (orS r r') := by
  intro pins s σ H x v vl vu lo hi sl Q I rx hs pl pu q
  rcases q with q | q
  · exact h pins s σ H x v vl vu lo hi sl Q I rx hs pl pu q
  · exact h' pins s σ H x v vl vu lo hi sl Q I rx hs pl pu q

def rAddI : R2 := rI0 fun i j => .int (i + j)
def rAddT : R2 := fun x y H Q => ∃ i j, x = .str i ∧ y = .str j ∧ i.length + j.length ≤ sizeLine ∧ Q (.str (i ++ j)) H
def addP (K : PySem.W.Frag) : R2 := or2 rAddI (or2 rAddT (or2 rCat (rCatA K)))
theorem op_addP {X : Cx} : OpR X (binaryOp .Add) (addP X.K) := or2_op op_add (or2_op op_add_str (or2_op op_cat op_catA))
def subP : R2 := rI0 fun i j => .int (i - j)
theorem op_subP {X : Cx} : OpR X (binaryOp .Sub) subP := op_sub
/-- a text so many times -/
def rRepS : R2 := fun x y H Q => ∃ (l : List Nat) (n : Nat), x = S l ∧ y = .int (n : Int) ∧ l.length * n ≤ 100000 ∧ n ≤ 100000 ∧ Q (S (List.replicate n l).flatten) H
theorem foldl_app (l : List Nat) : ∀ (n : Nat) (acc : List Nat), (List.replicate n l.toArray).foldl (· ++ ·) acc.toArray = (acc ++ (List.replicate n l).flatten).toArray
  | 0, acc => by simp
  | n + 1, acc => by
    rw [List.replicate_succ, List.foldl_cons, List.append_toArray, foldl_app l n (acc ++ l), List.replicate_succ, List.flatten_cons, List.append_assoc]
theorem op_repS {X : Cx} : OpR X (binaryOp .Mult) rRepS := by
  intro pins s σ H x y v u Q I rx ry h
  obtain ⟨l, n, rfl, rfl, hz, hn, q⟩ := h
  obtain ⟨t, rfl⟩ := rx
  obtain ⟨t', rfl⟩ := ry
  have hl := str_len l
  have hs : sizeLine = 16777216 := sizeLine_eq
  refine PySem.P.mul_str ?_ (fun h1 h2 => ?_) (fun h1 h2 => ?_) ?_
  · rw [decide_eq_false (by omega), decide_eq_false (by omega)]; rfl
  · rw [hl]
    have hn0 : (0 : Int) < (n : Int) := by omega
    have : ((l.length : Int)) ≤ (2 ^ 63 - 1) / (n : Int) := by
      rw [Int.le_ediv_iff_mul_le hn0]
      have : ((l.length * n : Nat) : Int) ≤ 100000 := by omega
      rw [Int.natCast_mul] at this
      omega
    omega
  · rw [hl, Int.toNat_natCast]
    unfold PySem.Builtin.Str.tooLong
    rw [decide_eq_false]
    omega
  · by_cases h1 : (n : Int) < 1
    · rw [if_pos h1]
      have e : n = 0 := by omega
      subst e
      exact ⟨by decide, S [], H, I.tok _, ⟨_, rfl⟩, by simpa using q⟩
    · rw [if_neg h1]
      by_cases h2 : ((n : Int) == 1 || (⟨l.toArray⟩ : Str).length == 0) = true
      · rw [if_pos h2]
        have e : (List.replicate n l).flatten = l := by
          rw [hl, Bool.or_eq_true, beq_iff_eq, beq_iff_eq] at h2
          rcases h2 with h2 | h2
          · have e : n = 1 := by omega
            subst e; simp
          · have e : l = [] := List.length_eq_zero_iff.mp h2
            subst e; simp
        rw [e] at q
        exact ⟨S l, H, I, ⟨_, rfl⟩, q⟩
      · rw [if_neg h2]
        have e : (⟨(List.replicate ((n : Int)).toNat l.toArray).foldl (· ++ ·) #[]⟩ : Str) = ⟨((List.replicate n l).flatten).toArray⟩ := by
          rw [Int.toNat_natCast]
          have := foldl_app l n []
          simpa using this
        refine ⟨?_, S (List.replicate n l).flatten, H, I.tok _, ⟨_, by rw [e]⟩, q⟩
        rw [e, str_len]
        simp only [List.length_flatten, List.map_replicate, List.sum_replicate_nat]
        rw [Nat.mul_comm]
        omega
def rMulI : R2 := rI (fun i j => IntMulOk i j) fun i j => .int (i * j)
theorem op_mulI {X : Cx} : OpR X (binaryOp .Mult) rMulI := opI fun _ _ _ _ _ _ _ hc q => mul_int q hc
def mulP : R2 := or2 rMulI (or2 rRepS rRep)
theorem op_mulP {X : Cx} : OpR X (binaryOp .Mult) mulP := or2_op op_mulI (or2_op op_repS op_rep)
def modP : R2 := rI (fun _ j => 0 < j) fun i j => .int (i % j)
theorem op_modP {X : Cx} : OpR X (binaryOp .Mod) modP := op_mod
def fdivP : R2 := rI CDivW fun i j => .int (i / j)
theorem op_fdivP {X : Cx} : OpR X (binaryOp .FloorDiv) fdivP := op_fdivW
/-- i ** j, the result below some hundred million bits -/
def powP : R2 := rI (fun i j => 0 ≤ j ∧ (Builtin.Int.intBits i : Int) * j ≤ 2 ^ 27) fun i j => .int (i ^ j.toNat)
theorem op_powP {X : Cx} : OpR X (binaryOp .Pow) powP := opI fun _ _ _ _ _ _ _ hc q => pow_int hc.1 hc.2 q
def eqP (K : PySem.W.Frag) : R2 := or2 rEq (rEqD K)
theorem op_eqP {X : Cx} (hu : X.A.units + 64 < cLine) : OpR X (compareOp .Eq) (eqP X.K) := or2_op op_eq (op_eqD hu)
def neP (K : PySem.W.Frag) : R2 := or2 rNe (rNeD K)
theorem op_neP {X : Cx} (hu : X.A.units + 64 < cLine) : OpR X (compareOp .NotEq) (neP X.K) := or2_op op_ne (op_neD hu)
def ltP : R2 := or2 (rI0 fun i j => .bl (decide (i < j))) fun x y H Q => ∃ i j, x = .str i ∧ y = .str j ∧ Q (.bl (decide (i.cps.toList < j.cps.toList))) H
theorem op_ltP {X : Cx} : OpR X (compareOp .Lt) ltP := or2_op op_lt op_lt_str
def leP : R2 := rI0 fun i j => .bl (decide (i ≤ j))
theorem op_leP {X : Cx} : OpR X (compareOp .LtE) leP := op_le
def gtP : R2 := rI0 fun i j => .bl (decide (j < i))
theorem op_gtP {X : Cx} : OpR X (compareOp .Gt) gtP := op_gt
def geP : R2 := rI0 fun i j => .bl (decide (j ≤ i))
theorem op_geP {X : Cx} : OpR X (compareOp .GtE) geP := op_ge
def isP : R2 := fun x y H Q => y = .non ∧ Q (.bl (decide (x = .non))) H
theorem op_isP {X : Cx} : OpR X (compareOp .Is) isP := op_isN
def isNotP : R2 := fun x y H Q => y = .non ∧ Q (.bl (!decide (x = .non))) H
theorem op_isNotP {X : Cx} : OpR X (compareOp .IsNot) isNotP := op_notN
def rInSg : R2 := fun x y H Q => ∃ (c : Nat) (z : Str), x = .str ⟨#[c]⟩ ∧ y = .str z ∧ Q (.bl (decide (c ∈ z.cps.toList))) H
def rNotInSg : R2 := fun x y H Q => ∃ (c : Nat) (z : Str), x = .str ⟨#[c]⟩ ∧ y = .str z ∧ Q (.bl (!decide (c ∈ z.cps.toList))) H
def inP (K : PySem.W.Frag) : R2 := or2 rInSg (rIn K false)
theorem op_inP {X : Cx} : OpR X (compareOp .In) (inP X.K) := or2_op op_in_sign op_in_seq
def notInP (K : PySem.W.Frag) : R2 := or2 rNotInSg (rIn K true)
theorem op_notInP {X : Cx} : OpR X (compareOp .NotIn) (notInP X.K) := or2_op op_notIn_sign op_notIn_seq
def ixP (K : PySem.W.Frag) : R2 := or2 (rIxL K) (or2 (rIxT K) rIxS)
theorem ix_P {X : Cx} : IxR X (ixP X.K) := or2_ix ix_list (or2_ix ix_tup ix_str)
def slP (K : PySem.W.Frag) : RS := orS (rSlL K) (orS (rSlA K) rSlS)
theorem sl_P {X : Cx} : SlR X (slP X.K) := orS_sl sl_list (orS_sl sl_tupA sl_str)
def iAny (K : PySem.W.Frag) (te : TE) : TI := fun σ H R => te σ H fun x H1 => (∃ a xs, x = .ref a ∧ SqL K H1 a xs ∧ R (Itl K a) H1) ∨ (∃ a xs, x = .ref a ∧ SqT K H1 a xs ∧ R (Itt K a) H1) ∨ (∃ z, x = .str z ∧ R (Its z) H1)
section
variable {X : Cx} {tg e : Expr} {te : TE}
theorem pi_any (he : PE X e te) : PI X tg e (iAny X.K te) := by
  refine ⟨fun pins s σ H R I h => thn (he.run pins s σ H _ I h) fun v s1 ⟨x, H1, J, r1, q1⟩ => ?_⟩
  rcases q1 with ⟨a, xs, rfl, hq, q⟩ | ⟨a, xs, rfl, hq, q⟩ | ⟨z, rfl, q⟩
  · cases r1
    obtain ⟨its, rv, pl, hz⟩ := J.list hq
    exact wpAny_pyIter_list pl.isList (pi_one (tk := s1.toks) J _ (turn_list a _) ⟨_, Heap.get?_push_size _ rfl, rfl, rfl⟩ q)
  · cases r1
    obtain ⟨its, rv, pl, hz⟩ := J.tuple hq
    exact wpAny_pyIter_tuple (show s1.heap.IsTuple a its.toArray from pl) (pi_one (tk := s1.toks) J _ (turn_tuple a _) ⟨_, Heap.get?_push_size _ rfl, rfl, rfl⟩ q)
  · obtain ⟨t, rfl⟩ := r1
    cases hw : z.cps.all (· < 128)
    · exact wpAny_pyIter_wide hw (pi_one (tk := s1.toks) J _ (turn_str _ z t "str_iterator" (.inr rfl)) ⟨_, Heap.get?_push_size _ rfl, rfl, rfl⟩ q)
    · exact wpAny_pyIter_ascii hw (pi_one (tk := s1.toks) J _ (turn_str _ z t "str_ascii_iterator" (.inl rfl)) ⟨_, Heap.get?_push_size _ rfl, rfl, rfl⟩ q)
end
/-- the signs of z, each in a new pair with its place -/
def Ites (z : Str) : It :=
  ⟨fun i _ => i < z.cps.size, fun i H v H' => ∃ T c, v = .ref T ∧ H T = none ∧ H' = upd H T (.tup [.int (i : Nat), .str ⟨#[c]⟩]) ∧ z.cps[i]? = some c, fun i _ => i = z.cps.size⟩
theorem turn_enumS {P : Program} {w : World} {K : PySem.W.Frag} {elts : List Expr} {kk : Nat} {tpos : Pos} (z : Str) (t : Tok) (e it : Addr) :
    Turn P w K (.Tuple elts kk tpos) (Ites z) [e, it] e (fun i h => (∃ old, IsEnum h e it ((i : Nat) : Int) old) ∧ h.IsStrIter it (strIterType z) z t i ∧ e ≠ it) where
  mem := List.mem_cons_self ..
  obj := fun i h st b hb => by
    obtain ⟨⟨old, hE⟩, ⟨o, hO, hC, hD⟩, _⟩ := st
    rcases List.mem_cons.mp hb with rfl | hb
    · exact ⟨_, hE, fun v q => nomatch q⟩
    · rw [List.mem_singleton.mp hb]
      exact ⟨o, hO, fun v q => by rw [hD] at q; cases q⟩
  keep := fun i h h' st k => by
    obtain ⟨⟨old, hE⟩, ⟨o, hO, r⟩, hne⟩ := st
    exact ⟨⟨old, k e (by simp) _ hE⟩, ⟨o, k it (by simp) _ hO, r⟩, hne⟩
  item := by
    intro X hP hW hK hc i pins s σ H E I hf st hg
    subst hP hW hK
    obtain ⟨⟨old, hE⟩, hS, hne⟩ := st
    have le : e < s.heap.objs.size := Heap.lt_size hE
    have li : it < s.heap.objs.size := by obtain ⟨_, q, _⟩ := hS; exact Heap.lt_size q
    have D := Draws.text (prog := X.prog) (w := X.w) (A := X.A.in1) (I.ok.hd hc) it z t
    refine wpAny_pyNext_enum_itemC D hE hS hg hne (by simp [hne]) fun x h' tk hx hO hS' hT hsz hk => ?_
    obtain ⟨c, u, hcx, rfl⟩ := hx
    refine ⟨_, rfl, wpAny_letOwnedTupleGo_enum (s := { s with heap := h', toks := tk + 1 }) hO fun h2 hE2 sb => ?_⟩
    have T2 : h2.get? s.heap.objs.size = some { cls := .type "tuple", data := .seq #[.int i tk, .str ⟨#[c]⟩ u] } := (sb.2 _ (Nat.ne_of_gt le)).trans hT
    have new : ObjOk X.prog X.w (upd H s.heap.objs.size (.tup [.int (i : Nat), .str ⟨#[c]⟩])) h2 s.heap.objs.size (.tup [.int (i : Nat), .str ⟨#[c]⟩]) :=
      ⟨by show 2 ≤ sizeLine; decide, [.int i tk, .str ⟨#[c]⟩ u], .cons ⟨_, rfl⟩ (.cons ⟨_, rfl⟩ .nil), ⟨_, T2, rfl, _, rfl⟩⟩
    have J : Inv X pins σ (upd H s.heap.objs.size (.tup [.int (i : Nat), .str ⟨#[c]⟩])) { s with heap := h2, toks := tk + 1 } :=
      I.turnedNew (ch := [e, it]) (fun b ob hb q => (sb.2 b (fun y => hb (by simp [y]))).trans (hk b ob (fun y => hb (by simp [y])) (fun y => hb (by simp [y])) q)) hf (Nat.le_refl _) new
    refine ⟨.ref s.heap.objs.size, _, J, rfl, ⟨_, c, rfl, I.hok.fresh (Nat.le_refl _), rfl, hcx⟩, ⟨⟨.str ⟨#[c]⟩ u, ?_⟩, ?_, hne⟩, fun b hb => ?_⟩
    · have e1 : ((i + 1 : Nat) : Int) = (i : Int) + 1 := by omega
      rw [e1]
      exact hE2
    · obtain ⟨o, ho, r⟩ := hS'
      exact ⟨o, (sb.2 it (Ne.symm hne)).trans ho, r⟩
    · have lb : b < s.heap.objs.size := by
        rcases List.mem_cons.mp hb with rfl | hb
        · exact le
        · rw [List.mem_singleton.mp hb]; exact li
      rw [upd_ne (Nat.ne_of_lt lb)]
      exact (hf b hb).1
  done := by
    intro X hP hW hK hc i pins s σ H E I hf st hg
    subst hP hW hK
    obtain ⟨⟨old, hE⟩, hS, hne⟩ := st
    obtain ⟨f0, f1, f2, f3, f4, f5⟩ := hf it (by simp)
    have D := Draws.text (prog := X.prog) (w := X.w) (A := X.A.in1) (I.ok.hd hc) it z t
    have hg' : i = z.cps.size := hg
    subst hg'
    exact wpAny_pyNext_enum_endD D hE hS fun h' eb => ⟨rfl, I.turned (t' := s.toks) (fun b o hb q => eb b o hb q) f0 f1 f3 f4 f5⟩
  self := fun A i s Q E st h => by
    obtain ⟨⟨_, hE⟩, _⟩ := st
    exact wpAny_pyIter_enum hE h
def iEnumP (K : PySem.W.Frag) (ta : TA) : TI := fun σ H R => ta σ H fun vs H1 => (∃ a xs, vs = [.ref a] ∧ SqL K H1 a xs ∧ R (Ite K a) H1) ∨ (∃ z, vs = [.str z] ∧ R (Ites z) H1)
theorem pi_enumP {X : Cx} {e : Expr} {ta : TA} {p pos tpos : Pos} {elts : List Expr} {kk : Nat} (hg : Gl X "enumerate") (hm : X.mg "enumerate" = none) (ha : PA X [e] ta) (hs : starEach [e] X.env = [(false, eval e X.env)] := by rfl) :
    PI X (.Tuple elts kk tpos) (.Call (.Name "enumerate" p) [e] [] pos) (iEnumP X.K ta) := by
  refine ⟨fun pins s σ H R I h => Call_ (ld_blt I hg hm boot_enumerate (PyProof.Rows.callWith_type1 (thn (ha.run pos pins s σ H _ I h) fun us s1 ⟨vs, H1, J, r1, q1⟩ => ?_) hs rfl))⟩
  have far : ∀ b ∈ [s1.heap.objs.size + 1, s1.heap.objs.size], s1.heap.objs.size ≤ b := fun b hb => by
    rcases List.mem_cons.mp hb with rfl | hb
    · exact Nat.le_succ _
    · rw [List.mem_singleton.mp hb]; exact Nat.le_refl _
  rcases q1 with ⟨a, xs, rfl, hq, q⟩ | ⟨z, rfl, q⟩
  · cases r1 with
    | cons r rr =>
      cases rr
      cases r
      obtain ⟨its, rv, pl, hz⟩ := J.list hq
      refine call_enumerate_list pl.isList fun h' hE hit hsz hk => wpAny_pyIter_enum hE ?_
      have J2 : Inv X pins σ H1 { s1 with heap := h' } := J.kept (t' := s1.toks) hk
      exact ⟨_, _, _, _, H1, rfl, J2, turn_enum a (s1.heap.objs.size + 1) s1.heap.objs.size, ⟨⟨.none, hE⟩, hit, Nat.succ_ne_self _⟩, fun b hb => J.fpOk (far b hb) (J.hok.fresh (far b hb)), q⟩
  · cases r1 with
    | cons r rr =>
      cases rr
      obtain ⟨t, rfl⟩ := r
      refine call_enumerate_str fun h' hE hit hsz hk => wpAny_pyIter_enum hE ?_
      have J2 : Inv X pins σ H1 { s1 with heap := h' } := J.kept (t' := s1.toks) hk
      exact ⟨_, _, _, _, H1, rfl, J2, turn_enumS z t (s1.heap.objs.size + 1) s1.heap.objs.size, ⟨⟨.none, hE⟩, hit, Nat.succ_ne_self _⟩, fun b hb => J.fpOk (far b hb) (J.hok.fresh (far b hb)), q⟩
end Fg
namespace Fg
open PySem PySem.Spec PyProof.Rows L2
section
variable {K : PySem.W.Frag} {σ : L2.St} {H : Hp} {Q : VK} {D : Ends} {ta tb tc te : TE} {t u : TT} {i j : Nat} {v x y : V} {tr tq : TS} {QB : Bool → Hp → Prop} {QL : List V → Hp → Prop} {Qs : L2.St → Hp → Prop} {tl : TA}
theorem i_var (h : σ[i]? = some (some v)) (q : Q v H) : tVar i σ H Q := ⟨v, h, q⟩
theorem i_c (q : Q v H) : tC v σ H Q := q
theorem i_seq (q : tr { D with nx := tq D } σ H) : tSeq tr tq D σ H := q
theorem i_next (q : D.nx σ H) : tNext D σ H := q
theorem i_asg {g : TG} (q : te σ H fun x H1 => g x σ H1 D.nx) : tAsg te g D σ H := q
theorem i_gname' {σ' : L2.St} (e : σ.set i (some v) = σ') (q : Qs σ' H) : gName i v σ H Qs := by
  subst e; exact q
theorem i_ret (q : te σ H D.rt) : tRet te D σ H := q
theorem i_retN (q : D.rt .non H) : tRetN D σ H := q
theorem i_drop (q : te σ H fun _ H1 => D.nx σ H1) : tDrop te D σ H := q
theorem i_ifS (q : t σ H fun b H1 => if b = true then tr D σ H1 else tq D σ H1) : tIfS t tr tq D σ H := q
theorem i_test (q : te σ H fun x H' => ∃ k, x = .bl k ∧ QB k H') : tTest te σ H QB := q
theorem i_B (q : te σ H fun x H' => ∃ k, x = .bl k ∧ QB k H') : tB te σ H QB := q
theorem i_exbl {P : Bool → Prop} {b : Bool} (q : P b) : ∃ k, V.bl b = .bl k ∧ P k := ⟨b, rfl, q⟩
theorem i_and (q : t σ H fun c H1 => if c = true then u σ H1 QB else QB false H1) : tAnd t u σ H QB := q
theorem i_or (q : t σ H fun c H1 => if c = true then QB true H1 else u σ H1 QB) : tOr t u σ H QB := q
theorem i_not (q : t σ H fun c H1 => QB (!c) H1) : tNot t σ H QB := q
theorem i_andV (q : ta σ H fun x H1 => ∃ c, x = .bl c ∧ if c = true then tb σ H1 Q else Q (.bl false) H1) : tAndV ta tb σ H Q := q
theorem i_orV (q : ta σ H fun x H1 => ∃ c, x = .bl c ∧ if c = true then Q (.bl true) H1 else tb σ H1 Q) : tOrV ta tb σ H Q := q
theorem i_notV (q : ta σ H fun x H1 => ∃ c, x = .bl c ∧ Q (.bl (!c)) H1) : tNotV ta σ H Q := q
theorem i_ifE (q : t σ H fun c H1 => if c = true then ta σ H1 Q else tb σ H1 Q) : tIf t ta tb σ H Q := q
theorem i_op {r : R2} (q : ta σ H fun x H1 => tb σ H1 fun y H2 => r x y H2 Q) : tOp r ta tb σ H Q := q
theorem i_un {r : V → Hp → VK → Prop} (q : ta σ H fun x H1 => r x H1 Q) : tUn r ta σ H Q := q
theorem i_neg {k : Int} (q : Q (.int (-k)) H) : rU (fun i => .int (-i)) (.int k) H Q := ⟨k, rfl, q⟩
theorem i_chain {r r' : R2} (q : ta σ H fun x H1 => tb σ H1 fun y H2 => r x y H2 fun z H3 => ∃ k, z = .bl k ∧ (if k = true then tc σ H3 fun w' H4 => r' y w' H4 Q else Q (.bl false) H3)) : tChain r r' ta tb tc σ H Q := q
theorem i_nil (q : QL [] H) : tNil σ H QL := q
theorem i_cons (q : te σ H fun x H1 => tl σ H1 fun xs H2 => QL (x :: xs) H2) : tCons te tl σ H QL := q
theorem i_call {sp : Sp} {E : XK} (q : tl σ H fun vs H1 => sp (vs ++ []) H1 Q E) : tCall sp [] E tl σ H Q := q
theorem i_callS {sp : Sp} {E : L2.St → XK} (q : tl σ H fun vs H1 => sp vs H1 Q (E σ)) : tCallS sp E tl σ H Q := q
theorem i_cb {r : RC} (q : tl σ H fun vs H1 => r vs H1 Q) : tCB r tl σ H Q := q
theorem i_tup (q : tl σ H fun xs H1 => xs.length ≤ sizeLine ∧ ∀ p, H1 p = none → Q (.ref p) (upd H1 p (.tup xs))) : tTup tl σ H Q := q
theorem i_lst (q : tl σ H fun xs H1 => xs.length ≤ sizeLine ∧ ∀ p, H1 p = none → Q (.ref p) (upd H1 p (.lst xs))) : tLst tl σ H Q := q
theorem i_new {n : Nat} {P : Addr → Prop} (h : n ≤ 100000) (q : ∀ p, H p = none → P p) : n ≤ sizeLine ∧ ∀ p, H p = none → P p := ⟨Nat.le_trans h (by decide), q⟩
theorem i_sl {r : RS} {t1 t2 : TO} (q : te σ H fun x H1 => t1 σ H1 fun l H2 => t2 σ H2 fun u H3 => r x l u H3 Q) : tSl r te t1 t2 σ H Q := q
theorem i_nopart {QO : Option Int → Hp → Prop} (q : QO none H) : tNoPart σ H QO := q
theorem i_part {QO : Option Int → Hp → Prop} (q : te σ H fun x H1 => ∃ i, x = .int i ∧ QO (some i) H1) : tPart te σ H QO := q
theorem i_exint {P : Int → Prop} {k : Int} (q : P k) : ∃ i, V.int k = .int i ∧ P i := ⟨k, rfl, q⟩
theorem i_dec {c : Prop} [Decidable c] {A B : Prop} (h1 : c → A) (h2 : ¬ c → B) : if decide c = true then A else B := by
  by_cases h : c
  · rw [decide_eq_true h, if_pos rfl]; exact h1 h
  · rw [decide_eq_false h, if_neg (by decide)]; exact h2 h
theorem i_decN {c : Prop} [Decidable c] {A B : Prop} (h1 : ¬ c → A) (h2 : c → B) : if (!decide c) = true then A else B := by
  by_cases h : c
  · rw [decide_eq_true h]; exact h2 h
  · rw [decide_eq_false h]; exact h1 h
theorem i_bool {b : Bool} {A B : Prop} (h1 : b = true → A) (h2 : b = false → B) : if b = true then A else B := by
  cases b with
  | true => exact h1 rfl
  | false => exact h2 rfl
theorem i_tt {A B : Prop} (h : A) : if true = true then A else B := h
theorem i_ff {A B : Prop} (h : B) : if false = true then A else B := h
theorem i_nott {A B : Prop} (h : B) : if (!true) = true then A else B := h
theorem i_notf {A B : Prop} (h : A) : if (!false) = true then A else B := h
variable {a b : Int} {l m : List Nat}
theorem i_add_int (q : Q (.int (a + b)) H) : addP K (.int a) (.int b) H Q := .inl ⟨a, b, rfl, rfl, q⟩
theorem i_add_str (h : l.length + m.length ≤ 100000) (q : Q (S (l ++ m)) H) : addP K (S l) (S m) H Q := by
  refine .inr (.inl ⟨⟨l.toArray⟩, ⟨m.toArray⟩, rfl, rfl, ?_, ?_⟩)
  · rw [str_len, str_len]; exact Nat.le_trans h (by decide)
  · have e : (⟨l.toArray⟩ : Str) ++ ⟨m.toArray⟩ = ⟨(l ++ m).toArray⟩ := by
      show (⟨l.toArray ++ m.toArray⟩ : Str) = _
      rw [List.append_toArray]
    rw [e]; exact q
theorem i_sub (q : Q (.int (a - b)) H) : subP (.int a) (.int b) H Q := ⟨a, b, rfl, rfl, q⟩
theorem i_mul_int (h : IntMulOk a b) (q : Q (.int (a * b)) H) : mulP (.int a) (.int b) H Q := .inl ⟨a, b, rfl, rfl, h, q⟩
theorem i_mul_str {n : Nat} (h : l.length * n ≤ 100000 ∧ n ≤ 100000) (q : Q (S (List.replicate n l).flatten) H) : mulP (S l) (.int (n : Int)) H Q := .inr (.inl ⟨l, n, rfl, rfl, h.1, h.2, q⟩)
theorem i_mul_strI {k : Int} (h0 : 0 ≤ k) (h : l.length * k.toNat ≤ 100000 ∧ k.toNat ≤ 100000) (q : Q (S (List.replicate k.toNat l).flatten) H) : mulP (S l) (.int k) H Q := by
  obtain ⟨n, rfl⟩ : ∃ n : Nat, k = (n : Int) := ⟨k.toNat, by omega⟩
  rw [Int.toNat_natCast] at h q
  exact i_mul_str h q
theorem cdiv_small {a b : Int} (h : 0 < b) (h2 : b < 2 ^ 62) : CDivW a b := wide_div (b := 62) h (by omega) (by decide) (by decide)
theorem mul_small {a b : Int} (h : -(2 ^ 64) < a) (h2 : a < 2 ^ 64) : IntMulOk a b := CMul.ok (.inl ⟨h, h2⟩)
theorem mul_smallR {a b : Int} (h : -(2 ^ 64) < b) (h2 : b < 2 ^ 64) : IntMulOk a b := CMul.ok (.inr ⟨h, h2⟩)
theorem i_mod (h : 0 < b) (q : Q (.int (a % b)) H) : modP (.int a) (.int b) H Q := ⟨a, b, rfl, rfl, h, q⟩
theorem i_fdiv (h : CDivW a b) (q : Q (.int (a / b)) H) : fdivP (.int a) (.int b) H Q := ⟨a, b, rfl, rfl, h, q⟩
theorem i_pow (h : 0 ≤ b ∧ (Builtin.Int.intBits a : Int) * b ≤ 2 ^ 27) (q : Q (.int (a ^ b.toNat)) H) : powP (.int a) (.int b) H Q := ⟨a, b, rfl, rfl, h, q⟩
theorem i_eq_int (q : Q (.bl (decide (a = b))) H) : eqP K (.int a) (.int b) H Q := .inl ⟨rfl, by rw [dec_int, Bool.beq_eq_decide_eq]; exact q⟩
theorem i_eq_str (q : Q (.bl (decide (l = m))) H) : eqP K (S l) (S m) H Q := .inl ⟨rfl, by rw [S_dec]; exact q⟩
theorem i_ne_int (q : Q (.bl (!decide (a = b))) H) : neP K (.int a) (.int b) H Q := .inl ⟨rfl, by rw [dec_int, Bool.beq_eq_decide_eq]; exact q⟩
theorem i_ne_str (q : Q (.bl (!decide (l = m))) H) : neP K (S l) (S m) H Q := .inl ⟨rfl, by rw [S_dec]; exact q⟩
theorem i_eq_bl {b c : Bool} (q : Q (.bl (decide (b = c))) H) : eqP K (.bl b) (.bl c) H Q := .inl ⟨rfl, by rw [dec_bl, Bool.beq_eq_decide_eq]; exact q⟩
theorem i_ne_bl {b c : Bool} (q : Q (.bl (!decide (b = c))) H) : neP K (.bl b) (.bl c) H Q := .inl ⟨rfl, by rw [dec_bl, Bool.beq_eq_decide_eq]; exact q⟩
theorem i_lt (q : Q (.bl (decide (a < b))) H) : ltP (.int a) (.int b) H Q := .inl ⟨a, b, rfl, rfl, q⟩
theorem i_le (q : Q (.bl (decide (a ≤ b))) H) : leP (.int a) (.int b) H Q := ⟨a, b, rfl, rfl, q⟩
theorem i_gt (q : Q (.bl (decide (b < a))) H) : gtP (.int a) (.int b) H Q := ⟨a, b, rfl, rfl, q⟩
theorem i_ge (q : Q (.bl (decide (b ≤ a))) H) : geP (.int a) (.int b) H Q := ⟨a, b, rfl, rfl, q⟩
theorem i_is_non (q : Q (.bl true) H) : isP .non .non H Q := ⟨rfl, q⟩
theorem i_is_int (q : Q (.bl false) H) : isP (.int a) .non H Q := ⟨rfl, q⟩
theorem i_is_str (q : Q (.bl false) H) : isP (S l) .non H Q := ⟨rfl, q⟩
theorem i_is_ref {p : Addr} (q : Q (.bl false) H) : isP (.ref p) .non H Q := ⟨rfl, q⟩
theorem i_isn_non (q : Q (.bl false) H) : isNotP .non .non H Q := ⟨rfl, q⟩
theorem i_isn_int (q : Q (.bl true) H) : isNotP (.int a) .non H Q := ⟨rfl, q⟩
theorem i_isn_str (q : Q (.bl true) H) : isNotP (S l) .non H Q := ⟨rfl, q⟩
theorem i_isn_ref {p : Addr} (q : Q (.bl true) H) : isNotP (.ref p) .non H Q := ⟨rfl, q⟩
theorem i_in_sg {c : Nat} (q : Q (.bl (decide (c ∈ m))) H) : inP K (S [c]) (S m) H Q := .inl ⟨c, ⟨m.toArray⟩, rfl, rfl, by simpa using q⟩
theorem i_notIn_sg {c : Nat} (q : Q (.bl (!decide (c ∈ m))) H) : notInP K (S [c]) (S m) H Q := .inl ⟨c, ⟨m.toArray⟩, rfl, rfl, by simpa using q⟩
theorem atI_int {xs : List V} {z : Int} {v : V} (h0 : 0 ≤ z) (h : xs[z.toNat]? = some v) : atI xs z = some v := at_of (j := z.toNat) (by omega) h
theorem i_ix_lst {p : Addr} {xs : List V} {z : Int} {v : V} (hs : SqL K H p xs) (ha : atI xs z = some v) (q : Q v H) : ixP K (.ref p) (.int z) H Q := .inl ⟨p, xs, z, v, rfl, rfl, hs, ha, q⟩
theorem i_ix_tup {p : Addr} {xs : List V} {z : Int} {v : V} (hs : SqT K H p xs) (ha : atI xs z = some v) (q : Q v H) : ixP K (.ref p) (.int z) H Q := .inr (.inl ⟨p, xs, z, v, rfl, rfl, hs, ha, q⟩)
theorem i_ix_str {z : Int} {c : Nat} (hs : l.length ≤ 100000) (h0 : 0 ≤ z) (ha : l[z.toNat]? = some c) (q : Q (S [c]) H) : ixP K (S l) (.int z) H Q := by
  refine .inr (.inr ⟨⟨l.toArray⟩, z, c, rfl, rfl, ?_, ?_, q⟩)
  · rw [str_len]; exact Nat.le_trans hs (by decide)
  · have e : z = ((z.toNat : Nat) : Int) := by omega
    rw [e]
    exact atI_nat (by simpa using ha)
def cutN (l : List Nat) (lo hi : Option Int) : List Nat := (l.drop (HT.sIx l.length 0 lo)).take (HT.sIx l.length l.length hi - HT.sIx l.length 0 lo)
theorem i_sl_str {lo hi : Option Int} (hs : l.length ≤ 100000) (q : Q (S (cutN l lo hi)) H) : slP K (S l) lo hi H Q := by
  refine .inr (.inr ⟨⟨l.toArray⟩, rfl, ?_, ?_⟩)
  · rw [str_len]; exact Nat.le_trans hs (by decide)
  · have e : cutS ⟨l.toArray⟩ lo hi = ⟨(cutN l lo hi).toArray⟩ := by
      unfold cutS cutN
      rw [str_len]
    rw [e]; exact q
theorem cutN_to {l : List Nat} {k : Int} (h : 0 ≤ k) : cutN l none (some k) = l.take k.toNat := by
  unfold cutN
  have e : k = ((k.toNat : Nat) : Int) := by omega
  rw [e, HT.sIx_nat, HT.sIx_none, Nat.sub_zero, List.drop_zero, Int.toNat_natCast]
  by_cases hk : k.toNat ≤ l.length
  · rw [Nat.min_eq_left hk]
  · rw [Nat.min_eq_right (by omega), List.take_length, List.take_of_length_le (by omega)]
theorem cutN_from {l : List Nat} {k : Int} (h : 0 ≤ k) : cutN l (some k) none = l.drop k.toNat := by
  unfold cutN
  have e : k = ((k.toNat : Nat) : Int) := by omega
  rw [e, HT.sIx_nat, HT.sIx_none, Int.toNat_natCast]
  by_cases hk : k.toNat ≤ l.length
  · rw [Nat.min_eq_left hk]
    exact List.take_of_length_le (by rw [List.length_drop]; omega)
  · rw [Nat.min_eq_right (by omega), Nat.sub_self, List.take_zero, List.drop_of_length_le (by omega)]
theorem i_sl_to {k : Int} (hs : l.length ≤ 100000) (h0 : 0 ≤ k) (q : Q (S (l.take k.toNat)) H) : slP K (S l) none (some k) H Q := i_sl_str hs (by rw [cutN_to h0]; exact q)
theorem i_sl_from {k : Int} (hs : l.length ≤ 100000) (h0 : 0 ≤ k) (q : Q (S (l.drop k.toNat)) H) : slP K (S l) (some k) none H Q := i_sl_str hs (by rw [cutN_from h0]; exact q)
def rLenP (K : PySem.W.Frag) : RC := fun xs H Q => ∃ x n, xs = [x] ∧ LenV K x H n ∧ Q (.int n) H
theorem call_lenP {X : Cx} : CallR X (.builtin "len") (rLenP X.K) := call_len
theorem i_len_str (hs : l.length ≤ 100000) (q : Q (.int (l.length : Int)) H) : rLenP K [S l] H Q := ⟨S l, l.length, rfl, ⟨by rw [str_len]; exact Nat.le_trans hs (by decide), (str_len l).symm⟩, q⟩
theorem i_len_lst {p : Addr} {xs : List V} (hs : SqL K H p xs) (q : Q (.int (xs.length : Int)) H) : rLenP K [.ref p] H Q := ⟨.ref p, xs.length, rfl, .inl ⟨xs, hs, rfl⟩, q⟩
theorem i_len_tup {p : Addr} {xs : List V} (hs : SqT K H p xs) (q : Q (.int (xs.length : Int)) H) : rLenP K [.ref p] H Q := ⟨.ref p, xs.length, rfl, .inr ⟨xs, hs, rfl⟩, q⟩
def rIntP : RC := fun xs H Q => (∃ i, xs = [.int i] ∧ Q (.int i) H) ∨ ∃ k, xs = [.bl k] ∧ Q (.int (if k then 1 else 0)) H
theorem call_intP {X : Cx} : CallR X (.type "int") rIntP := call_int1
theorem i_int_int (q : Q (.int a) H) : rIntP [.int a] H Q := .inl ⟨a, rfl, q⟩
def rAbsP : RC := fun xs H Q => ∃ i, xs = [.int i] ∧ Q (.int (if i < 0 then -i else i)) H
theorem call_absP {X : Cx} : CallR X (.builtin "abs") rAbsP := call_abs
theorem i_abs (q : Q (.int (if a < 0 then -a else a)) H) : rAbsP [.int a] H Q := ⟨a, rfl, q⟩
theorem i_sum {p : Addr} {ns : List Int} (hs : SqL K H p (ns.map V.int)) (q : Q (.int ns.sum) H) : rSum K [.ref p] H Q := ⟨p, ns, rfl, hs, q⟩
def rTupP (K : PySem.W.Frag) : RC := fun xs H Q => ∃ p ys, xs = [.ref p] ∧ ((SqL K H p ys ∧ ∀ l, H l = none → Q (.ref l) (upd H l (.tup ys))) ∨ (SqT K H p ys ∧ Q (.ref p) H))
theorem call_tupP {X : Cx} : CallR X (.type "tuple") (rTupP X.K) := call_tuple_of
theorem i_tuple_lst {p : Addr} {ys : List V} (hs : SqL K H p ys) (q : ∀ l, H l = none → Q (.ref l) (upd H l (.tup ys))) : rTupP K [.ref p] H Q := ⟨p, ys, rfl, .inl ⟨hs, q⟩⟩
theorem i_isi_non_int (q : Q (.bl false) H) : rIsi K [.non, .ty "int"] H Q := ⟨_, _, _, _, false, rfl, .ty _, .base .non, kit_ty (by decide +kernel), q⟩
theorem i_isi_non_bool (q : Q (.bl false) H) : rIsi K [.non, .ty "bool"] H Q := ⟨_, _, _, _, false, rfl, .ty _, .base .non, kit_ty (by decide +kernel), q⟩
theorem i_isi_non_str (q : Q (.bl false) H) : rIsi K [.non, .ty "str"] H Q := ⟨_, _, _, _, false, rfl, .ty _, .base .non, kit_ty (by decide +kernel), q⟩
theorem i_isi_non_tuple (q : Q (.bl false) H) : rIsi K [.non, .ty "tuple"] H Q := ⟨_, _, _, _, false, rfl, .ty _, .base .non, kit_ty (by decide +kernel), q⟩
theorem i_isi_non_list (q : Q (.bl false) H) : rIsi K [.non, .ty "list"] H Q := ⟨_, _, _, _, false, rfl, .ty _, .base .non, kit_ty (by decide +kernel), q⟩
theorem i_isi_bl_int {b : Bool} (q : Q (.bl true) H) : rIsi K [(.bl b), .ty "int"] H Q := ⟨_, _, _, _, true, rfl, .ty _, .base (.bl b), kit_ty (by decide +kernel), q⟩
theorem i_isi_bl_bool {b : Bool} (q : Q (.bl true) H) : rIsi K [(.bl b), .ty "bool"] H Q := ⟨_, _, _, _, true, rfl, .ty _, .base (.bl b), kit_ty (by decide +kernel), q⟩
theorem i_isi_bl_str {b : Bool} (q : Q (.bl false) H) : rIsi K [(.bl b), .ty "str"] H Q := ⟨_, _, _, _, false, rfl, .ty _, .base (.bl b), kit_ty (by decide +kernel), q⟩
theorem i_isi_bl_tuple {b : Bool} (q : Q (.bl false) H) : rIsi K [(.bl b), .ty "tuple"] H Q := ⟨_, _, _, _, false, rfl, .ty _, .base (.bl b), kit_ty (by decide +kernel), q⟩
theorem i_isi_bl_list {b : Bool} (q : Q (.bl false) H) : rIsi K [(.bl b), .ty "list"] H Q := ⟨_, _, _, _, false, rfl, .ty _, .base (.bl b), kit_ty (by decide +kernel), q⟩
theorem i_isi_int_int {i : Int} (q : Q (.bl true) H) : rIsi K [(.int i), .ty "int"] H Q := ⟨_, _, _, _, true, rfl, .ty _, .base (.int i), kit_ty (by decide +kernel), q⟩
theorem i_isi_int_bool {i : Int} (q : Q (.bl false) H) : rIsi K [(.int i), .ty "bool"] H Q := ⟨_, _, _, _, false, rfl, .ty _, .base (.int i), kit_ty (by decide +kernel), q⟩
theorem i_isi_int_str {i : Int} (q : Q (.bl false) H) : rIsi K [(.int i), .ty "str"] H Q := ⟨_, _, _, _, false, rfl, .ty _, .base (.int i), kit_ty (by decide +kernel), q⟩
theorem i_isi_int_tuple {i : Int} (q : Q (.bl false) H) : rIsi K [(.int i), .ty "tuple"] H Q := ⟨_, _, _, _, false, rfl, .ty _, .base (.int i), kit_ty (by decide +kernel), q⟩
theorem i_isi_int_list {i : Int} (q : Q (.bl false) H) : rIsi K [(.int i), .ty "list"] H Q := ⟨_, _, _, _, false, rfl, .ty _, .base (.int i), kit_ty (by decide +kernel), q⟩
theorem i_isi_str_int {l : List Nat} (q : Q (.bl false) H) : rIsi K [(S l), .ty "int"] H Q := ⟨_, _, _, _, false, rfl, .ty _, .base (.str _), kit_ty (by decide +kernel), q⟩
theorem i_isi_str_bool {l : List Nat} (q : Q (.bl false) H) : rIsi K [(S l), .ty "bool"] H Q := ⟨_, _, _, _, false, rfl, .ty _, .base (.str _), kit_ty (by decide +kernel), q⟩
theorem i_isi_str_str {l : List Nat} (q : Q (.bl true) H) : rIsi K [(S l), .ty "str"] H Q := ⟨_, _, _, _, true, rfl, .ty _, .base (.str _), kit_ty (by decide +kernel), q⟩
theorem i_isi_str_tuple {l : List Nat} (q : Q (.bl false) H) : rIsi K [(S l), .ty "tuple"] H Q := ⟨_, _, _, _, false, rfl, .ty _, .base (.str _), kit_ty (by decide +kernel), q⟩
theorem i_isi_str_list {l : List Nat} (q : Q (.bl false) H) : rIsi K [(S l), .ty "list"] H Q := ⟨_, _, _, _, false, rfl, .ty _, .base (.str _), kit_ty (by decide +kernel), q⟩
theorem i_isi_tup_str {a : Addr} {xs : List V} (h : H a = some (.tup xs)) (q : Q (.bl false) H) : rIsi K [(.ref a), .ty "str"] H Q := ⟨_, _, _, _, false, rfl, .ty _, .base (.tup h), kit_ty (by decide +kernel), q⟩
theorem i_isi_lst_str {a : Addr} {xs : List V} (h : H a = some (.lst xs)) (q : Q (.bl false) H) : rIsi K [(.ref a), .ty "str"] H Q := ⟨_, _, _, _, false, rfl, .ty _, .base (.lst h), kit_ty (by decide +kernel), q⟩
def rJoinP (K : PySem.W.Frag) : V → List V → Hp → VK → Prop := fun x xs H Q => ∃ a p, ∃ ys : List Str, x = .str a ∧ xs = [.ref p] ∧ (SqL K H p (ys.map V.str) ∨ SqT K H p (ys.map V.str)) ∧ (ys.map (·.length)).sum + ys.length * a.length ≤ 16777216 ∧ Q (.str (Txt.join a ys)) H
theorem pe_joinP {X : Cx} {to te : TE} {o e : Expr} {apos pos : Pos} (ho : PE X o to) (he : PE X e te) (hs : starEach [e] X.env = [(false, eval e X.env)] := by rfl) (hbase : attributeBase o "join" X.env (eval o X.env) = eval o X.env := by rfl) (hline : (apos.endLine == pos.line) = true := by rfl) :
    PE X (.Call (.Attribute o "join" apos) [e] [] pos) (tM1 (rJoinP X.K) to te) := pe_join ho he hs hbase hline
theorem i_m1c {r : V → List V → Hp → VK → Prop} (q : te σ H fun y H2 => r (S l) [y] H2 Q) : tM1 r (tC (S l)) te σ H Q := ⟨⟨_, rfl⟩, q⟩
end
end Fg
namespace Fg
open PySem PySem.Spec PyProof.Rows L2
/-- a def of the text: where it stands, how it is called -/
def DefIn (K : PySem.W.Frag) (mg : Str → Option Value) (x : Str) (st : Stmt) (ps : List Str) : Prop :=
  ∃ (f : Addr) (fd : FuncData), Fun K x x st f fd ∧ mg x = some (.ref f) ∧ Binds K fd ps []
/-- .. and it keeps its promise -/
def OK (P : Program) (w : World) (K : PySem.W.Frag) (mg : Str → Option Value) (base : Heap) (CX : CXT) (k : Nat) (x : Str) (ps : List Str) (sp : Sp) : Prop :=
  ∃ (f : Addr) (fd : FuncData), FnOk P w K mg base CX k f fd ps sp ∧ mg x = some (.ref f) ∧ PySem.W.keepIn K (.ref f) = true ∧ Binds K fd ps []
abbrev P1 := V → Hp → VK → XK → Prop
abbrev P2 := V → V → Hp → VK → XK → Prop
abbrev P3 := V → V → V → Hp → VK → XK → Prop
abbrev P4 := V → V → V → V → Hp → VK → XK → Prop
def sp1 (p : P1) : Sp := fun vs H Q E => ∃ x, vs = [x] ∧ p x H Q E
def sp2 (p : P2) : Sp := fun vs H Q E => ∃ x y, vs = [x, y] ∧ p x y H Q E
def sp3 (p : P3) : Sp := fun vs H Q E => ∃ x y z, vs = [x, y, z] ∧ p x y z H Q E
def sp4 (p : P4) : Sp := fun vs H Q E => ∃ x y z u, vs = [x, y, z, u] ∧ p x y z u H Q E
section
variable {H : Hp} {Q : VK} {E : XK} {x y z u : V} {p1 : P1} {p2 : P2} {p3 : P3} {p4 : P4}
theorem i_sp1 (q : p1 x H Q E) : sp1 p1 ([x] ++ []) H Q E := ⟨x, rfl, q⟩
theorem i_sp2 (q : p2 x y H Q E) : sp2 p2 ([x, y] ++ []) H Q E := ⟨x, y, rfl, q⟩
theorem i_sp3 (q : p3 x y z H Q E) : sp3 p3 ([x, y, z] ++ []) H Q E := ⟨x, y, z, rfl, q⟩
theorem i_sp4 (q : p4 x y z u H Q E) : sp4 p4 ([x, y, z, u] ++ []) H Q E := ⟨x, y, z, u, rfl, q⟩
theorem i_sp1' (q : p1 x H Q E) : sp1 p1 [x] H Q E := ⟨x, rfl, q⟩
theorem i_sp2' (q : p2 x y H Q E) : sp2 p2 [x, y] H Q E := ⟨x, y, rfl, q⟩
theorem i_sp3' (q : p3 x y z H Q E) : sp3 p3 [x, y, z] H Q E := ⟨x, y, z, rfl, q⟩
end
section
variable {P : Program} {w : World} {K : PySem.W.Frag} {mg : Str → Option Value} {base : Heap} {x : Str} {st : Stmt} {N ps : List Str} {k : Nat} {sp : Sp}
theorem FnOK.mk {f : Addr} {fd : FuncData} (F : Fun K x x st f fd) (S : FnScope N ps (defScope st)) (len : ∀ vs H Q E, sp vs H Q E → vs.length = ps.length)
    (body : ∀ (cdv : Value) (A : Around) (outer : List Env) (s : Shared) (H : Hp) (vs : List V) (Q : VK) (E : XK), Room k (A.deeper (envOfC x (defScope st) s.heap.objs.size f cdv)) → sp vs H Q E →
      ∃ t, PSs (cxOf CX0 P w K mg base N x (defScope st) f cdv A outer s H E).nox (defBody st) t ∧ t { nx := fun _ H' => Q .non H', rt := Q } (start N vs) H) : FnOk P w K mg base CX0 (k + 1) f fd ps sp :=
  F.ok S len fun cdv A outer s H vs Q E hr h => body cdv A outer s H vs Q E hr h
theorem OK.mk (D : DefIn K mg x st ps) (S : FnScope N ps (defScope st)) (len : ∀ vs H Q E, sp vs H Q E → vs.length = ps.length)
    (body : ∀ (f : Addr) (cdv : Value) (A : Around) (outer : List Env) (s : Shared) (H : Hp) (vs : List V) (Q : VK) (E : XK), Room k (A.deeper (envOfC x (defScope st) s.heap.objs.size f cdv)) → sp vs H Q E →
      ∃ t, PSs (cxOf CX0 P w K mg base N x (defScope st) f cdv A outer s H E).nox (defBody st) t ∧ t { nx := fun _ H' => Q .non H', rt := Q } (start N vs) H) : OK P w K mg base CX0 (k + 1) x ps sp := by
  obtain ⟨f, fd, F, hm, hb⟩ := D
  exact ⟨f, fd, F.ok S len fun cdv A outer s H vs Q E hr h => body f cdv A outer s H vs Q E hr h, hm, F.kp, hb⟩
theorem OK.mkX (D : DefIn K mg x st ps) (S : FnScope N ps (defScope st)) (len : ∀ vs H Q E, sp vs H Q E → vs.length = ps.length)
    (body : ∀ (f : Addr) (cdv : Value) (A : Around) (outer : List Env) (s : Shared) (H : Hp) (vs : List V) (Q : VK) (E : XK), Room k (A.deeper (envOfC x (defScope st) s.heap.objs.size f cdv)) → sp vs H Q E →
      ∃ t, PSs (cxOf (L2.CX P w) P w K mg base N x (defScope st) f cdv A outer s H E) (defBody st) t ∧ t { nx := fun _ H' => Q .non H', rt := Q } (start N vs) H) : OK P w K mg base (L2.CX P w) (k + 1) x ps sp := by
  obtain ⟨f, fd, F, hm, hb⟩ := D
  exact ⟨f, fd, F.okX S len fun cdv A outer s H vs Q E hr h => body f cdv A outer s H vs Q E hr h, hm, F.kp, hb⟩
theorem len1 {p : P1} {a : Str} : ∀ vs H Q E, sp1 p vs H Q E → vs.length = [a].length := by
  rintro vs H Q E ⟨_, rfl, _⟩; rfl
theorem len2 {p : P2} {a b : Str} : ∀ vs H Q E, sp2 p vs H Q E → vs.length = [a, b].length := by
  rintro vs H Q E ⟨_, _, rfl, _⟩; rfl
theorem len3 {p : P3} {a b c : Str} : ∀ vs H Q E, sp3 p vs H Q E → vs.length = [a, b, c].length := by
  rintro vs H Q E ⟨_, _, _, rfl, _⟩; rfl
theorem len4 {p : P4} {a b c d : Str} : ∀ vs H Q E, sp4 p vs H Q E → vs.length = [a, b, c, d].length := by
  rintro vs H Q E ⟨_, _, _, _, rfl, _⟩; rfl
theorem OK.weak {CX : CXT} {sp' : Sp} (G : OK P w K mg base CX k x ps sp) (h : ∀ vs H Q E, sp' vs H Q E → sp vs H Q E) : OK P w K mg base CX k x ps sp' := by
  obtain ⟨f, fd, F, r⟩ := G
  exact ⟨f, fd, F.imp h, r⟩
end
section
variable {X : Cx} {CX : CXT} {k : Nat} {x : Str} {ps : List Str} {sp : Sp} {E : XK} {e : Expr} {es : List Expr} {ta : TA} {p pos : Pos}
theorem pe_f (G : OK X.prog X.w X.K X.mg X.base CX k x ps sp) (hr : Room k X.A) (hx : Passes CX X E) (ha : PA X (e :: es) ta) (hg : Gl X x := by rfl) (hd : (x == ("__debug__" : Str)) = false := by decide)
    (he : starEach (e :: es) X.env = (false, eval e X.env) :: starEach es X.env := by rfl) (hpl : (backTo pos (starEach es X.env)).any (·.1) = false := by rfl) :
    PE X (.Call (.Name x p) (e :: es) [] pos) (tCall sp [] E ta) := by
  obtain ⟨f, fd, F, hm, hk, hb⟩ := G
  exact pe_call F hr hg hm hk hb .nil hx ha hd he hpl
theorem pe_fS {ES : L2.St → XK} (G : OK X.prog X.w X.K X.mg X.base CX k x ps sp) (hr : Room k X.A) (hx : ∀ σ, PassesAt CX X σ (ES σ)) (ha : PA X (e :: es) ta) (hg : Gl X x := by rfl) (hd : (x == ("__debug__" : Str)) = false := by decide)
    (he : starEach (e :: es) X.env = (false, eval e X.env) :: starEach es X.env := by rfl) (hpl : (backTo pos (starEach es X.env)).any (·.1) = false := by rfl) :
    PE X (.Call (.Name x p) (e :: es) [] pos) (tCallS sp ES ta) := by
  obtain ⟨f, fd, F, hm, hk, hb⟩ := G
  exact pe_callS F hr hg hm hk hb hx ha hd he hpl
theorem pe_gS (l : List Nat) (h : ∃ t, X.mg x = some (.str ⟨l.toArray⟩ t)) (hg : Gl X x := by rfl) (hd : (x == ("__debug__" : Str)) = false := by decide) : PE X (.Name x pos) (tC (S l)) := by
  obtain ⟨t, hm⟩ := h
  exact pe_glob hg hm ⟨t, rfl⟩ hd
theorem pe_gI (i : Int) (h : ∃ t, X.mg x = some (.int i t)) (hg : Gl X x := by rfl) (hd : (x == ("__debug__" : Str)) = false := by decide) : PE X (.Name x pos) (tC (.int i)) := by
  obtain ⟨t, hm⟩ := h
  exact pe_glob hg hm ⟨t, rfl⟩ hd
theorem pe_gR (C : Addr) (h : X.mg x = some (.ref C)) (hg : Gl X x := by rfl) (hd : (x == ("__debug__" : Str)) = false := by decide) : PE X (.Name x pos) (tC (.ref C)) := pe_glob hg h rfl hd
end
/-- what its __init__ promises -/
def spIni (C : Addr) (f : Str) : Sp := sp2 fun x v H Q _ => ∃ a, x = .ref a ∧ H a = some (exo a C none) ∧ ∀ dx, H dx = none → dx ≠ a → Q .non (upd (upd H dx (exd dx [(f, v)])) a (exo a C (some dx)))
def OKx (P : Program) (w : World) (K : PySem.W.Frag) (mg : Str → Option Value) (base : Heap) (x f : Str) (C : Addr) : Prop :=
  mg x = some (.ref C) ∧ OexC K C ∧ PySem.W.findIn K (.ref C) f = some none ∧ ∃ (fI : Addr) (fd : FuncData), PySem.W.findIn K (.ref C) "__init__" = some (some (.ref fI)) ∧ PySem.W.typeIn K (.ref fI) = some (.type "function") ∧
    FnOk P w K mg base CX0 1 fI fd ["self", f] (spIni C f) ∧ Binds K fd ["self", f] []
theorem ini_ok {P : Program} {w : World} {K : PySem.W.Frag} {mg : Str → Option Value} {base : Heap} {C fI : Addr} {f q : Str} {st : Stmt} {fd : FuncData} (F : Fun K "__init__" q st fI fd) (S : FnScope ["self", f] ["self", f] (defScope st))
    (ox : OexC K C) (noF : PySem.W.findIn K (.ref C) f = some none)
    (hb : ∀ (cdv : Value) (A : Around) (outer : List Env) (s : Shared) (H : Hp) (E : XK), PSs (cxOf CX0 P w K mg base ["self", f] q (defScope st) fI cdv A outer s H E).nox (defBody st) (tOst K f (tVar 0) (tVar 1))) :
    FnOk P w K mg base CX0 1 fI fd ["self", f] (spIni C f) := by
  refine F.ok S (fun vs H Q E h => len2 vs H Q E h) fun cdv A outer s H vs Q E hr h => ⟨_, hb cdv A outer s H E, ?_⟩
  obtain ⟨x, v, rfl, a, rfl, ha, q⟩ := h
  exact ⟨v, rfl, .ref a, rfl, a, C, rfl, ox, noF, .inl ⟨ha, fun dx n ne => q dx n ne⟩⟩
/-- C(e): an error whose dict, new, holds the field -/
def tMkE (C : Addr) (f : Str) (ta : TA) : L2.St → Hp → XK → Prop := fun σ H Q => ta σ H fun vs H1 => ∃ v, vs = [v] ∧ ∀ d, H1 d = none → Q (.ref C) (some d) (upd H1 d (.xd [(f, v)]))
theorem pa_mono {X : Cx} {es : List Expr} {ta : TA} (ha : PA X es ta) : PA X es fun σ H R => ∃ Q1 : List V → Hp → Prop, ta σ H Q1 ∧ ∀ vs H1, Q1 vs H1 → R vs H1 := by
  refine ⟨fun pos pins s σ H Q I h => ?_⟩
  obtain ⟨Q1, h, hi⟩ := h
  exact thn (ha.run pos pins s σ H Q1 I h) fun us s1 ⟨vs, H1, J, r, q⟩ => ⟨vs, H1, J, r, hi vs H1 q⟩
theorem pmk_E {X : Cx} {x f : Str} {C : Addr} {e : Expr} {ta : TA} {p pos : Pos} {k : Nat} (G : OKx X.prog X.w X.K X.mg X.base x f C) (hr : Room (k + 2) X.A) (ha : PA X [e] ta) (hg : Gl X x := by rfl) (hdb : (x == ("__debug__" : Str)) = false := by decide)
    (he : starEach [e] X.env = (false, eval e X.env) :: starEach [] X.env := by rfl) (hpl : (backTo pos (starEach [] X.env)).any (·.1) = false := by rfl) :
    PMk X (.Call (.Name x p) [e] [] pos) (tMkE C f ta) := by
  obtain ⟨hm, ox, noF, fI, fd, iC, tI, F, hb⟩ := G
  intro pins s σ H Q I h
  refine pmk_oex (k := 1) (dvs := []) ox iC tI F (hr.mono (by omega)) hb .nil pass0 hg hm (pa_mono ha) hdb he hpl pins s σ H Q I ⟨_, h, fun vs H1 hq => ?_⟩
  obtain ⟨v, rfl, q⟩ := hq
  refine ⟨by show 1 ≤ 1000; omega, fun a na => ⟨.ref a, v, rfl, a, rfl, upd_same, fun dx nd ne => ⟨rfl, dx, [(f, v)], upd_same, ?_, ?_, ?_⟩⟩⟩
  · rw [upd_ne ne, upd_same]
  · rw [upd_ne ne] at nd; exact nd
  · have n2 : H1 dx = none := by rw [upd_ne ne] at nd; exact nd
    have e1 : upd (del (upd (upd (upd H1 a (exo a C none)) dx (exd dx [(f, v)])) a (exo a C (some dx))) a) dx (.xd [(f, v)]) = upd H1 dx (.xd [(f, v)]) := by
      funext b
      by_cases hb : b = dx
      · rw [hb, upd_same, upd_same]
      · rw [upd_ne hb, upd_ne hb]
        by_cases ha : b = a
        · rw [ha, del_same, na]
        · rw [del_ne ha, upd_ne ha, upd_ne hb, upd_ne ha]
    rw [e1]
    exact q dx n2
def tRaiseP (t : L2.St → Hp → XK → Prop) (W : WX) : TS := fun _ σ H => t σ H fun cls d H' => W cls d σ H'
theorem ps_raiseP {X : Cx} {W : WX} {e : Expr} {t : L2.St → Hp → XK → Prop} {pos : Pos} (hc : X.calm = true) (tk : Takes X W) (he : PMk X e t) : PS X (.Raise (some e) none pos) (tRaiseP t W) := ps_raise hc tk he
/-- the class of a caught error, for isinstance -/
structure ExcD (K : PySem.W.Frag) (D : Addr) : Prop where
  cl : (PySem.W.clsIn K D).isSome = true
  hg : PySem.W.findIn K (.ref D) "__getattribute__" = some (some (.builtin "BaseException.__getattribute__"))
  hk : PySem.W.findIn K (.ref D) "__getattr__" = some none
  hs : PySem.W.subIn K (.ref D) (.type "BaseException") = some true
  hd : PySem.W.hasDictIn K D = true
  ha : PySem.W.findIn K (.ref D) "__class__" = some (some (.builtin "object.__class__"))
  hn : PySem.W.specialIn K (.builtin "object.__class__") "__get__" = some (some (.builtin "getset_descriptor.__get__"))
  ht : PySem.W.takesIn K (.builtin "object.__class__") = some true
  hm : PySem.W.mroIn K D (.type "object") = some true
theorem ExcD.xf {K : PySem.W.Frag} {D : Addr} (T : ExcD K D) : XfC K D := ⟨T.hg, T.hk, T.hs, T.hd⟩
def rIsX (K : PySem.W.Frag) (a : Addr) (cls : Value) (d : Option Addr) : RC := fun xs H Q => ∃ (D dd : Addr) (fs : List (Str × V)) (c : V) (cv : Value) (b : Bool),
  xs = [.ref a, c] ∧ cls = .ref D ∧ d = some dd ∧ H dd = some (.xd fs) ∧ ExcD K D ∧ ClsV c cv ∧ PySem.W.kitOne K (.ref D) cv = some b ∧ Q (.bl b) H
section
variable {σ : L2.St} {H : Hp} {D : Ends} {t : L2.St → Hp → XK → Prop} {W : WX} {Q : XK} {C : Addr} {f : Str} {ta : TA} {v : V} {P : V → Prop}
theorem i_raise (q : t σ H fun cls d H' => W cls d σ H') : tRaiseP t W D σ H := q
theorem i_mkE (q : ta σ H fun vs H1 => ∃ v, vs = [v] ∧ ∀ d, H1 d = none → Q (.ref C) (some d) (upd H1 d (.xd [(f, v)]))) : tMkE C f ta σ H Q := q
theorem i_ex1 (q : P v) : ∃ u, [v] = [u] ∧ P u := ⟨v, rfl, q⟩
end
/-- the wish for an error of the class at C whose dict, new, holds f = v -/
def Rz (E : XK) (H : Hp) (C : Addr) (f : Str) (v : V) : Prop := ∀ d H', H d = none → Same H H' → H' d = some (.xd [(f, v)]) → E (.ref C) (some d) H'
theorem Rz.mono {E : XK} {H H1 : Hp} {C : Addr} {f : Str} {v : V} (h : Rz E H C f v) (s : Same H H1) : Rz E H1 C f v := fun d H' n s' e => h d H' (s.free n) (s.trans s') e
theorem Rz.at {E : XK} {H : Hp} {C : Addr} {f : Str} {v : V} (h : Rz E H C f v) {d : Addr} (n : H d = none) : E (.ref C) (some d) (upd H d (.xd [(f, v)])) :=
  h d _ n (fun b o e => by rw [upd_ne (ne_of_none e n)]; exact e) upd_same
section
variable {X : Cx} (K : PySem.W.Frag) {e o : Expr} {es : List Expr} {te to : TE} {ta : TA} {tg : Expr} {p pos apos cpos tpos : Pos} {elts : List Expr} {kk : Nat}
theorem opAdd (h : X.K = K := by rfl) : OpR X (binaryOp .Add) (addP K) := h ▸ op_addP
theorem opEq (hu : X.A.units + 64 < cLine) (h : X.K = K := by rfl) : OpR X (compareOp .Eq) (eqP K) := h ▸ op_eqP hu
theorem opNe (hu : X.A.units + 64 < cLine) (h : X.K = K := by rfl) : OpR X (compareOp .NotEq) (neP K) := h ▸ op_neP hu
theorem opIn (h : X.K = K := by rfl) : OpR X (compareOp .In) (inP K) := h ▸ op_inP
theorem opNotIn (h : X.K = K := by rfl) : OpR X (compareOp .NotIn) (notInP K) := h ▸ op_notInP
theorem ixK (h : X.K = K := by rfl) : IxR X (ixP K) := h ▸ ix_P
theorem slK (h : X.K = K := by rfl) : SlR X (slP K) := h ▸ sl_P
theorem piAny (he : PE X e te) (h : X.K = K := by rfl) : PI X tg e (iAny K te) := h ▸ pi_any he
theorem piEnum (hg : Gl X "enumerate") (hm : X.mg "enumerate" = none) (ha : PA X [e] ta) (h : X.K = K := by rfl) (hs : starEach [e] X.env = [(false, eval e X.env)] := by rfl) :
    PI X (.Tuple elts kk tpos) (.Call (.Name "enumerate" p) [e] [] pos) (iEnumP K ta) := h ▸ pi_enumP hg hm ha hs
theorem cLen (h : X.K = K := by rfl) : CallR X (.builtin "len") (rLenP K) := h ▸ call_lenP
theorem cSum (hc : X.calm = true) (h : X.K = K := by rfl) : CallR X (.builtin "sum") (rSum K) := h ▸ cr_sum hc
theorem cTup (h : X.K = K := by rfl) : CallR X (.type "tuple") (rTupP K) := h ▸ call_tupP
theorem cIsi (h : X.K = K := by rfl) : CallR X (.builtin "isinstance") (rIsi K) := h ▸ call_isi
theorem peJoin (ho : PE X o to) (he : PE X e te) (h : X.K = K := by rfl) (hs : starEach [e] X.env = [(false, eval e X.env)] := by rfl) (hbase : attributeBase o "join" X.env (eval o X.env) = eval o X.env := by rfl) (hline : (apos.endLine == pos.line) = true := by rfl) :
    PE X (.Call (.Attribute o "join" apos) [e] [] pos) (tM1 (rJoinP K) to te) := h ▸ pe_joinP ho he hs hbase hline
theorem pgTup {t : TGs} {n : Nat} (hc : X.calm = true) (ht : PGs X es t) (h : X.K = K := by rfl) (hn : (assignEach es X.env).length = n := by rfl) (hst : (assignEach es X.env).findIdx? (·.1) = none := by rfl) :
    PG X (.Tuple es kk pos) (gTup K n t) := h ▸ pg_tup hc ht hn hst
/-- xs.append(e) -/
def tApp (K : PySem.W.Frag) (to : TE) (t : TA) : TE := tBM K "list" rAppend to t
theorem peApp (ho : PE X o to) (ha : PA X (e :: es) ta) (h : X.K = K := by rfl) (hbase : attributeBase o "append" X.env (eval o X.env) = eval o X.env := by rfl)
    (hfew : ((backTo cpos (starEach (e :: es) X.env)).all (fun x => !x.1) && (backToKw cpos (keywordEach [] X.env)).all (fun x => x.1.isSome)
      && decide ((e :: es).length + ([] : List Keyword).length + (if ([] : List Keyword).isEmpty then 0 else 1) < 30)) = true := by rfl)
    (hline : (apos.endLine == cpos.line) = true := by rfl) (hs : starEach (e :: es) X.env = (false, eval e X.env) :: starEach es X.env := by rfl) (hplain : (backTo cpos (starEach es X.env)).any (·.1) = false := by rfl) :
    PE X (.Call (.Attribute o "append" apos) (e :: es) [] cpos) (tApp K to ta) := h ▸ pe_bm PySem.F.plainAttrs_list PySem.F.slot_list_append PySem.F.type_list_append mt_append ho ha hbase hfew hline hs hplain
end
section
variable {K : PySem.W.Frag} {σ : L2.St} {H : Hp} {Q : VK} {te : TE} {ta : TA} {l : Addr} {xs : List V} {v : V}
theorem i_app (q : te σ H fun x H1 => tyV K "list" x H1 ∧ ta σ H1 fun xs H2 => rAppend x xs H2 Q) : tApp K te ta σ H Q := q
theorem i_appAt (h : H l = some (.lst xs)) {P : Prop} (q : P) : tyV K "list" (.ref l) H ∧ P := ⟨.inl ⟨rfl, _, .inl (.inl h)⟩, q⟩
theorem i_appEnd (h : H l = some (.lst xs)) (hz : xs.length < 100000) (q : Q .non (upd H l (.lst (xs ++ [v])))) : rAppend (.ref l) [v] H Q := ⟨l, xs, v, rfl, rfl, h, Nat.lt_trans hz (by decide), q⟩
end
section
variable {σ : L2.St} {H : Hp} {D : Ends} {t u : TS} {to ti : TE} {v : V} {Qs : L2.St → Hp → Prop} {Qh : Hp → Prop} {p : Addr} {xs ys : List V} {z : Int}
theorem i_gsub {ts : TSet} (q : to σ H fun o H1 => ti σ H1 fun i H2 => ts o i v H2 fun H3 => Qs σ H3) : gSub to ti ts v σ H Qs := q
theorem i_setL (j : Nat) (h : H p = some (.lst xs)) (hj : ixN xs.length z = some j) (e : xs.set j v = ys) (q : Qh (upd H p (.lst ys))) : rSetL (.ref p) (.int z) v H Qh := ⟨p, xs, z, j, rfl, rfl, h, hj, by rw [e]; exact q⟩
theorem i_cut (Mid : L2.St → Hp → Prop) (h1 : t { D with nx := Mid } σ H) (h2 : ∀ σ' H', Mid σ' H' → u D σ' H') : Evl.tCut t u D σ H := ⟨Mid, h1, h2⟩
end
theorem joinL_nil : ∀ ls : List (List Nat), TL.joinL [] ls = ls.flatten
  | [] => rfl
  | [p] => by simp [TL.joinL]
  | p :: q :: r => by
    show p ++ ([] ++ TL.joinL [] (q :: r)) = _
    rw [joinL_nil (q :: r)]
    rfl
theorem join_nil (ls : List (List Nat)) : Txt.join ⟨([] : List Nat).toArray⟩ (ls.map fun l => (⟨l.toArray⟩ : Str)) = ⟨ls.flatten.toArray⟩ := by
  refine TL.ext_tl ?_
  rw [TL.join_eq, TL.tl_join, List.map_map]
  show TL.joinL ([] : List Nat).toArray.toList (ls.map fun l => l.toArray.toList) = ls.flatten.toArray.toList
  simp [joinL_nil]
theorem i_join0 {K : PySem.W.Frag} {H : Hp} {Q : VK} {p : Addr} {ls : List (List Nat)} (hs : SqL K H p (ls.map S)) (hz : (ls.map List.length).sum ≤ 100000) (q : Q (S ls.flatten) H) : rJoinP K (S []) [.ref p] H Q := by
  refine ⟨⟨([] : List Nat).toArray⟩, p, ls.map fun l => (⟨l.toArray⟩ : Str), rfl, rfl, .inl ?_, ?_, ?_⟩
  · rw [List.map_map]; exact hs
  · rw [List.map_map]
    have e : (ls.map ((·.length) ∘ fun l => (⟨l.toArray⟩ : Str))) = ls.map List.length := List.map_congr_left fun l _ => str_len l
    rw [e]
    show (ls.map List.length).sum + _ * ([] : List Nat).toArray.size ≤ _
    simp
    omega
  · rw [join_nil]; exact q
theorem flat_one (cs : List Nat) : (cs.map fun c => [c]).flatten = cs := by
  induction cs with
  | nil => rfl
  | cons a r ih => rw [List.map_cons, List.flatten_cons, ih]; rfl
theorem len_one (cs : List Nat) : ((cs.map fun c => [c]).map List.length).sum = cs.length := by
  induction cs with
  | nil => rfl
  | cons a r ih => rw [List.map_cons, List.map_cons, List.sum_cons, ih, List.length_cons, List.length_cons, List.length_nil]; omega
/-- .. of signs -/
theorem i_join1 {K : PySem.W.Frag} {H : Hp} {Q : VK} {p : Addr} {cs : List Nat} (hs : SqL K H p (cs.map fun c => S [c])) (hz : cs.length ≤ 100000) (q : Q (S cs) H) : rJoinP K (S []) [.ref p] H Q := by
  refine i_join0 (ls := cs.map fun c => [c]) (by rw [List.map_map]; exact hs) (by rw [len_one]; exact hz) ?_
  rw [flat_one]
  exact q
theorem i_yes {σ : L2.St} {H : Hp} {QB : Bool → Hp → Prop} (q : QB true H) : tYes σ H QB := q
section
variable {K : PySem.W.Frag} {σ : L2.St} {H : Hp} {Q : VK} {a dd D C : Addr} {fs : List (Str × V)} {c x y v : V} {cv : Value} {b r : Bool} {i : Nat} {f : Str} {d1 d2 : PyData}
theorem i_isX (hdd : H dd = some (.xd fs)) (T : ExcD K D) (kc : ClsV c cv) (e : PySem.W.kitOne K (.ref D) cv = some b) (q : Q (.bl b) H) : rIsX K a (.ref D) (some dd) [.ref a, c] H Q := ⟨D, dd, fs, c, cv, b, rfl, rfl, rfl, hdd, T, kc, e, q⟩
theorem i_xf (h : σ[i]? = some (some (.ref a))) (hdd : H dd = some (.xd [(f, v)])) (q : Q v H) : tXf a (.ref C) (some dd) C f (tVar i) σ H Q := ⟨.ref a, h, rfl, rfl, dd, _, v, rfl, hdd, by simp [List.lookup], q⟩
end
/-- what a clause asks, at an error of a class that it names -/
theorem i_caught {K : PySem.W.Frag} {C : Addr} {c : Value} {i : Nat} {ts : Addr → Value → Option Addr → TS} {Wout : WX} {D : Ends} {d : Option Addr} {σ : L2.St} {H : Hp} (h : PySem.W.exmOne K (.ref C) c = some true)
    (q : ∀ a, H a = none → ts a (.ref C) d { nx := fun σ' H' => D.nx (σ'.set i none) H', rt := D.rt, bk := fun σ' H' => D.bk (σ'.set i none) H', ct := fun σ' H' => D.ct (σ'.set i none) H' } (σ.set i (some (.ref a))) H) : wAs K c i ts Wout D (.ref C) d σ H :=
  ⟨true, h, fun _ => q, fun z => nomatch z⟩
theorem kit_ref {K : PySem.W.Frag} {C D : Addr} {b : Bool} (hi : PySem.W.isClsIn K D = true) (ht : PySem.W.typeIn K (.ref D) = some (.type "type")) (hs : PySem.W.subIn K (.ref D) (.ref D) = some true) (e : PySem.W.subIn K (.ref C) (.ref D) = some b) : PySem.W.kitOne K (.ref C) (.ref D) = some b := by
  unfold PySem.W.kitOne
  by_cases h : C = D
  · subst h
    rw [hs] at e
    rw [if_pos (beq_self_eq_true _)]
    exact e
  · rw [if_neg (fun z => h (by simpa using z))]
    show (if ((PySem.W.clsIn K D).isSome && PySem.W.typeIn K (.ref D) == some (.type "type")) = true then PySem.W.subIn K (.ref C) (.ref D) else none) = _
    rw [show (PySem.W.clsIn K D).isSome = true from hi, ht, if_pos (by simp)]
    exact e
theorem kit_base {K : PySem.W.Frag} {C : Addr} {T : String} {b : Bool} (hm : PySem.W.kitMeta T = true) (e : PySem.W.subIn K (.ref C) (.type T) = some b) : PySem.W.kitOne K (.ref C) (.type T) = some b := by
  unfold PySem.W.kitOne
  rw [if_neg (by simp)]
  show (if PySem.W.kitMeta T = true then PySem.W.subIn K (.ref C) (.type T) else none) = _
  rw [if_pos hm]
  exact e
theorem exm_ref {K : PySem.W.Frag} {C D : Addr} {b : Bool} (hi : PySem.W.isClsIn K D = true) (ht : PySem.W.typeIn K (.ref D) = some (.type "type")) (hb : PySem.W.subIn K (.ref D) (.type "BaseException") = some true) (e : PySem.W.subIn K (.ref C) (.ref D) = some b) : PySem.W.exmOne K (.ref C) (.ref D) = some b := by
  unfold PySem.W.exmOne
  rw [hb, if_pos (by simp)]
  show (if ((PySem.W.clsIn K D).isSome && PySem.W.typeIn K (.ref D) == some (.type "type")) = true then PySem.W.subIn K (.ref C) (.ref D) else none) = _
  rw [show (PySem.W.clsIn K D).isSome = true from hi, ht, if_pos (by simp)]
  exact e
theorem passN {X : Cx} : Passes (L2.CX X.prog X.w) X E0 := fun _ _ _ _ _ _ _ ⟨_, _, _, _, _, _, _, _, _, _, _, _, h⟩ => h.elim
theorem blkOk_in {N : List Str} {sc scope scope2 : Scope} {own : List (Str × Nat)} {X : Cx} {s : Shared} {H : Hp} {cl : List (Str × Addr)} {C : Addr} {fp : List Addr} (hN : X.N = N) (he : X.env.scope = sc) (h : blkC N (relS scope sc) scope2 own = true) :
    BlkOk (X.blk s H scope (compEnvC scope cl C X.env) fp).N (X.blk s H scope (compEnvC scope cl C X.env) fp).env.scope scope2 own := by
  subst hN he
  exact blkOk_by h
theorem i_is_bl {H : Hp} {Q : VK} {b : Bool} (q : Q (.bl false) H) : isP (.bl b) .non H Q := ⟨rfl, q⟩
theorem i_isn_bl {H : Hp} {Q : VK} {b : Bool} (q : Q (.bl true) H) : isNotP (.bl b) .non H Q := ⟨rfl, q⟩
theorem i_int_bl {H : Hp} {Q : VK} {b : Bool} (q : Q (.int (if b then 1 else 0)) H) : rIntP [.bl b] H Q := .inr ⟨b, rfl, q⟩
section
variable {K : PySem.W.Frag} {σ : L2.St} {H : Hp} {Q : VK} {D : Ends} {te : TE} {ta : TA} {i j : Nat} {u v w x : V} {a : Addr} {Qs : L2.St → Hp → Prop}
theorem i_par (q : ta σ H fun vs H1 => ∃ v w, vs = [v, w] ∧ D.nx ((σ.set i (some v)).set j (some w)) H1) : tPar i j ta D σ H := q
theorem i_par2 (q : D.nx ((σ.set i (some v)).set j (some w)) H) : ∃ v' w', [v, w] = [v', w'] ∧ D.nx ((σ.set i (some v')).set j (some w')) H := ⟨v, w, rfl, q⟩
theorem i_aug {ti : TIp} (h : σ[i]? = some (some x)) (q : te σ H fun y H1 => ti x y H1 fun z H2 => D.nx (σ.set i (some z)) H2) : tAug i te ti D σ H := ⟨x, h, q⟩
theorem i_ipI {f : Int → Int → Int} {a b : Int} (q : Q (.int (f a b)) H) : ipI f (.int a) (.int b) H Q := ⟨a, b, rfl, rfl, q⟩
theorem i_gtup2 (h : SqT K H a [u, v]) (q : Qs ((σ.set i (some u)).set j (some v)) H) : gTup K 2 (gCons (gName i) (gCons (gName j) gNil)) (.ref a) σ H Qs := ⟨a, _, rfl, h, rfl, u, _, rfl, v, _, rfl, rfl, q⟩
theorem i_while {c : TT} {tb : TS} (W : Nat → L2.St → Hp → Prop) (m : Nat) (h0 : W m σ H)
    (h : ∀ m σ H, W m σ H → c σ H fun b H1 => if b = true then ∃ N : L2.St → Hp → Prop, (∀ σ' H', N σ' H' → ∃ m', m' < m ∧ W m' σ' H') ∧ tb { D with nx := N, ct := N, bk := D.nx } σ H1 else D.nx σ H1) : tWhile c tb D σ H := ⟨W, ⟨m, h0⟩, h⟩
theorem i_turn {tb : TS} {W : Nat → L2.St → Hp → Prop} {m : Nat} (q : tb { D with nx := fun σ' H' => ∃ m', m' < m ∧ W m' σ' H', ct := fun σ' H' => ∃ m', m' < m ∧ W m' σ' H', bk := D.nx } σ H) :
    ∃ N : L2.St → Hp → Prop, (∀ σ' H', N σ' H' → ∃ m', m' < m ∧ W m' σ' H') ∧ tb { D with nx := N, ct := N, bk := D.nx } σ H := ⟨_, fun _ _ h => h, q⟩
theorem i_lstRg1 (q : te σ H fun x H1 => ∃ n, x = .int n ∧ RgOk 0 n ∧ ∀ q, H1 q = none → Q (.ref q) (upd H1 q (.lst (rgV 0 n)))) : tLstRg (tRg1 te) σ H Q := q
end
end Fg
namespace Fg
open PySem PySem.Spec PyProof.Rows L2
theorem same_upd {H : Hp} {p : Addr} {o : HO} (h : H p = none) : Same H (upd H p o) := fun b x e => by
  rw [upd_ne (ne_of_none e h)]
  exact e
theorem Same.upd {H H' : Hp} {p : Addr} {o : HO} (e : Same H H') (h : H p = none) : Same H (upd H' p o) := fun b x eb => by
  rw [upd_ne (ne_of_none eb h)]
  exact e b x eb
theorem Same.tup {K : PySem.W.Frag} {H H' : Hp} {a : Addr} {xs : List V} (e : Same H H') (h : SqT K H a xs) : SqT K H' a xs := by
  rcases h with (h | ⟨o, h⟩) | h
  · exact .inl (.inl (e _ _ h))
  · exact .inl (.inr ⟨o, e _ _ h⟩)
  · exact .inr h
section
variable {K : PySem.W.Frag} {σ : L2.St} {H : Hp} {Q : VK} {D : Ends} {te tl : TE} {tt : TT} {ta : TA} {tb : TS} {j : Nat} {g : TG} {a : Addr} {xs : List V} {z : List Nat} {vs : List Nat}
/-- for j in range(n) -/
theorem f_rng1 (n : Nat) (ha : ∀ R : List V → Hp → Prop, R [.int (n : Int)] H → ta σ H R) (hn : n ≤ 100000000) (Pv : Nat → L2.St → Hp → Prop) (h0 : Pv 0 σ H)
    (hs : ∀ i σ' H', i < n → Pv i σ' H' → g (.int (i : Int)) σ' H' fun σ2 H2 => tb { D with nx := Pv (i + 1), ct := Pv (i + 1), bk := D.nx } σ2 H2) (hd : ∀ σ' H', Pv n σ' H' → D.nx σ' H') : tFor (iRng1 ta) g tb D σ H := by
  refine ha _ ⟨(n : Int), rfl, by omega, by omega, ?_⟩
  rw [Int.toNat_natCast]
  refine for_range Pv h0 (fun i σ' H' hi p => ?_) hd
  rw [Int.zero_add]
  exact hs i σ' H' hi p
/-- for j in range(lo, n) -/
theorem f_rng2 (lo n : Nat) (ha : ∀ R : List V → Hp → Prop, R [.int (lo : Int), .int (n : Int)] H → ta σ H R) (hn : lo ≤ 100000 ∧ n ≤ 100000000) (Pv : Nat → L2.St → Hp → Prop) (h0 : Pv 0 σ H)
    (hs : ∀ i σ' H', lo + i < n → Pv i σ' H' → g (.int ((lo + i : Nat) : Int)) σ' H' fun σ2 H2 => tb { D with nx := Pv (i + 1), ct := Pv (i + 1), bk := D.nx } σ2 H2) (hd : ∀ σ' H', Pv (n - lo) σ' H' → D.nx σ' H') : tFor (iRng2 ta) g tb D σ H := by
  refine ha _ ⟨(lo : Int), (n : Int), rfl, ⟨by omega, by omega, by omega, by omega⟩, ?_⟩
  have e : ((n : Int) - (lo : Int)).toNat = n - lo := by omega
  rw [e]
  refine for_range Pv h0 (fun i σ' H' hi p => ?_) hd
  rw [← Int.natCast_add]
  exact hs i σ' H' (by omega) p
/-- for i, c in enumerate(text) -/
theorem f_enumS {i1 i2 : Nat} (ha : ∀ R : List V → Hp → Prop, R [S z] H → ta σ H R) (Pv : Nat → L2.St → Hp → Prop) (h0 : Pv 0 σ H)
    (hs : ∀ i c σ' H' T, z[i]? = some c → Pv i σ' H' → H' T = none → tb { D with nx := Pv (i + 1), ct := Pv (i + 1), bk := D.nx } ((σ'.set i1 (some (.int (i : Int)))).set i2 (some (S [c]))) (upd H' T (.tup [.int (i : Int), S [c]]))) (hd : ∀ σ' H', Pv z.length σ' H' → D.nx σ' H') :
    tFor (iEnumP K ta) (gTup K 2 (gCons (gName i1) (gCons (gName i2) gNil))) tb D σ H := by
  have e : (⟨z.toArray⟩ : Str).cps.size = z.length := str_len z
  refine ha _ (.inr ⟨⟨z.toArray⟩, rfl, ?_⟩)
  have w : Walk (Ites ⟨z.toArray⟩) z.length (fun _ => True) (fun i Ha v Hb => ∃ T c, v = .ref T ∧ Ha T = none ∧ Hb = upd Ha T (.tup [.int (i : Nat), S [c]]) ∧ z[i]? = some c) := by
    refine ⟨fun i H' hi _ => by show i < (⟨z.toArray⟩ : Str).cps.size; rw [e]; exact hi, fun H' _ => e.symm, fun i H' x H2 hi _ y => ?_⟩
    obtain ⟨T, c, h1, h2, h3, h4⟩ := y
    exact ⟨T, c, h1, h2, h3, by simpa using h4⟩
  refine for_it w Pv h0 (fun _ _ _ _ _ => True.intro) (fun i x σ' H' H2 hi p y => ?_) hd
  obtain ⟨T, c, rfl, nT, rfl, hc⟩ := y
  exact ⟨T, _, rfl, SqT.of upd_same, rfl, _, _, rfl, _, _, rfl, rfl, hs i c σ' H' T hc p nT⟩
def Lw (H1 : Hp) (Dl : Addr) (l : Nat → List V) (i : Nat) (H' : Hp) : Prop := H1 Dl = none ∧ Same H1 H' ∧ H' Dl = some (.lst (l i))
/-- the kept ones among the first n -/
def kept (f : Nat → Bool) (v : Nat → V) (n : Nat) : List V := ((List.range n).filter f).map v
theorem kept_yes {f : Nat → Bool} {v : Nat → V} {n : Nat} (h : f n = true) : kept f v (n + 1) = kept f v n ++ [v n] := by
  unfold kept
  rw [List.range_succ, List.filter_append, List.map_append, List.filter_cons_of_pos h] <;> rfl
theorem kept_no {f : Nat → Bool} {v : Nat → V} {n : Nat} (h : f n = false) : kept f v (n + 1) = kept f v n := by
  unfold kept
  rw [List.range_succ, List.filter_append, List.map_append, List.filter_cons_of_neg (by rw [h]; decide)]
  simp
theorem kept_len (f : Nat → Bool) (v : Nat → V) (n : Nat) : (kept f v n).length ≤ n := by
  unfold kept
  rw [List.length_map]
  exact Nat.le_trans (List.length_filter_le _ _) (by rw [List.length_range]; exact Nat.le_refl _)
theorem kept_all (v : Nat → V) (n : Nat) : kept (fun _ => true) v n = (List.range n).map v := by
  unfold kept
  rw [List.filter_eq_self.mpr (fun _ _ => rfl)]
theorem lw_turn {H1 H' : Hp} {Dl : Addr} {f : Nat → Bool} {v : Nat → V} {i : Nat} {σ2 : L2.St} (p : Lw H1 Dl (kept f v) i H') (hi : i < 100000)
    (ht : ∀ H2, Same H1 H2 → ∀ QB : Bool → Hp → Prop, (∀ H3, Same H2 H3 → QB (f i) H3) → tt σ2 H2 QB) (he : ∀ H2, Same H1 H2 → f i = true → ∀ QV : VK, (∀ H3, Same H2 H3 → QV (v i) H3) → te σ2 H2 QV) :
    tt σ2 H' fun b H3 => if b = true then te σ2 H3 fun y H4 => ∃ acc, H4 Dl = some (.lst acc) ∧ acc.length < sizeLine ∧ Lw H1 Dl (kept f v) (i + 1) (upd H4 Dl (.lst (acc ++ [y]))) else Lw H1 Dl (kept f v) (i + 1) H3 := by
  obtain ⟨n1, s1, d1⟩ := p
  refine ht H' s1 _ fun H3 s3 => ?_
  cases hf : f i with
  | true =>
    rw [if_pos rfl]
    refine he H3 (s1.trans s3) hf _ fun H4 s4 => ⟨kept f v i, s4 _ _ (s3 _ _ d1), ?_, n1, ?_, ?_⟩
    · exact Nat.lt_of_le_of_lt (kept_len f v i) (Nat.lt_trans hi (by decide))
    · exact Same.upd ((s1.trans s3).trans s4) n1
    · rw [kept_yes hf]; exact upd_same
  | false =>
    rw [if_neg (by decide)]
    exact ⟨n1, s1.trans s3, by rw [kept_no hf]; exact s3 _ _ d1⟩
/-- [te for j in range(n) if tt] -/
theorem c_rng1 (n : Nat) (ha : ∀ R : List V → Hp → Prop, R [.int (n : Int)] H → ta σ H R) (hn : n ≤ 100000) (f : Nat → Bool) (v : Nat → V) (hw : ∀ x, wipe ((wipe σ vs).set j (some x)) vs = wipe σ vs)
    (ht : ∀ i H2, i < n → Same H H2 → ∀ QB : Bool → Hp → Prop, (∀ H3, Same H2 H3 → QB (f i) H3) → tt ((wipe σ vs).set j (some (.int (i : Int)))) H2 QB)
    (he : ∀ i H2, i < n → Same H H2 → f i = true → ∀ QV : VK, (∀ H3, Same H2 H3 → QV (v i) H3) → te ((wipe σ vs).set j (some (.int (i : Int)))) H2 QV)
    (q : ∀ Dl H2, H Dl = none → Same H H2 → H2 Dl = some (.lst (kept f v n)) → Q (.ref Dl) H2) : tLc (iRng1 ta) (gName j) tt te vs σ H Q := by
  refine ha _ ⟨(n : Int), rfl, by omega, by omega, fun Dl nD => ?_⟩
  rw [Int.toNat_natCast]
  refine lc_range (Lw H Dl (kept f v)) ⟨nD, same_upd nD, upd_same⟩ (fun i H' hi p => ?_) (fun H' p => q Dl H' p.1 p.2.1 p.2.2)
  rw [Int.zero_add]
  exact ⟨hw _, lw_turn p (by omega) (fun H2 s2 => ht i H2 hi s2) (fun H2 s2 => he i H2 hi s2)⟩
/-- .. every one -/
theorem c_rng1A (n : Nat) (ha : ∀ R : List V → Hp → Prop, R [.int (n : Int)] H → ta σ H R) (hn : n ≤ 100000) (v : Nat → V) (hw : ∀ x, wipe ((wipe σ vs).set j (some x)) vs = wipe σ vs)
    (he : ∀ i H2, i < n → Same H H2 → ∀ QV : VK, (∀ H3, Same H2 H3 → QV (v i) H3) → te ((wipe σ vs).set j (some (.int (i : Int)))) H2 QV)
    (q : ∀ Dl H2, H Dl = none → Same H H2 → H2 Dl = some (.lst ((List.range n).map v)) → Q (.ref Dl) H2) : tLc (iRng1 ta) (gName j) tYes te vs σ H Q :=
  c_rng1 n ha hn (fun _ => true) v hw (fun i H2 hi s2 QB k => k H2 (L2.Same.refl H2)) (fun i H2 hi s2 _ => he i H2 hi s2) (fun Dl H2 n1 s1 d1 => q Dl H2 n1 s1 (by rw [kept_all] at d1; exact d1))
/-- [te for j in a list if tt] -/
theorem c_lst (ha : ∀ R : VK, R (.ref a) H → tl σ H R) (hx : SqL K H a xs) (hn : xs.length ≤ 100000) (f : Nat → Bool) (v : Nat → V) (hw : ∀ x, wipe ((wipe σ vs).set j (some x)) vs = wipe σ vs)
    (ht : ∀ i x H2, xs[i]? = some x → Same H H2 → ∀ QB : Bool → Hp → Prop, (∀ H3, Same H2 H3 → QB (f i) H3) → tt ((wipe σ vs).set j (some x)) H2 QB)
    (he : ∀ i x H2, xs[i]? = some x → Same H H2 → f i = true → ∀ QV : VK, (∀ H3, Same H2 H3 → QV (v i) H3) → te ((wipe σ vs).set j (some x)) H2 QV)
    (q : ∀ Dl H2, H Dl = none → Same H H2 → H2 Dl = some (.lst (kept f v xs.length)) → Q (.ref Dl) H2) : tLc (iAny K tl) (gName j) tt te vs σ H Q := by
  refine ha _ (.inl ⟨a, xs, rfl, hx, fun Dl nD => ?_⟩)
  refine lc_list (Lw H Dl (kept f v)) ⟨nD, same_upd nD, upd_same⟩ (fun i H' hi p => p.2.1.seq hx) (fun i x H' hi p => ?_) (fun H' p => q Dl H' p.1 p.2.1 p.2.2)
  have hlt := (List.getElem?_eq_some_iff.mp hi).1
  exact ⟨hw _, lw_turn p (by omega) (fun H2 s2 => ht i x H2 hi s2) (fun H2 s2 => he i x H2 hi s2)⟩
end
def LoopG (g : TG) (tb : TS) (D : Ends) (σ : L2.St) : It → Hp → Prop := fun J H1 => tFor (fun _ _ R => R J H1) g tb D σ H1
section
variable {K : PySem.W.Frag} {σ : L2.St} {H : Hp} {D : Ends} {te : TE} {tb : TS} {g : TG} {a : Addr} {xs : List V}
theorem i_for (q : te σ H fun x H1 => (∃ a xs, x = .ref a ∧ SqL K H1 a xs ∧ LoopG g tb D σ (Itl K a) H1) ∨ (∃ a xs, x = .ref a ∧ SqT K H1 a xs ∧ LoopG g tb D σ (Itt K a) H1) ∨ (∃ z, x = .str z ∧ LoopG g tb D σ (Its z) H1)) : tFor (iAny K te) g tb D σ H := q
theorem i_forL {B : Prop} (hx : SqL K H a xs) (Pv : Nat → L2.St → Hp → Prop) (h0 : Pv 0 σ H) (hl : ∀ i σ' H', i ≤ xs.length → Pv i σ' H' → SqL K H' a xs)
    (hs : ∀ i x σ' H', xs[i]? = some x → Pv i σ' H' → g x σ' H' fun σ2 H2 => tb { D with nx := Pv (i + 1), ct := Pv (i + 1), bk := D.nx } σ2 H2) (hd : ∀ σ' H', Pv xs.length σ' H' → D.nx σ' H') :
    (∃ a' xs', V.ref a = .ref a' ∧ SqL K H a' xs' ∧ LoopG g tb D σ (Itl K a') H) ∨ B := .inl ⟨a, xs, rfl, hx, for_list Pv h0 hl hs hd⟩
end
section
variable {K : PySem.W.Frag} {σ : L2.St} {H : Hp} {Q : VK} {D : Ends} {ta : TA} {tb : TS} {g : TG} {a b : Addr} {xs ys : List V}
theorem i_forR (q : ta σ H fun vs H1 => ∃ j : Int, vs = [.int j] ∧ -(2 ^ 62) ≤ j ∧ j < 2 ^ 62 ∧ LoopG g tb D σ (Itr 0 j.toNat) H1) : tFor (iRng1 ta) g tb D σ H := q
theorem i_catL (h1 : H a = some (.lst xs)) (h2 : H b = some (.lst ys)) (hz : xs.length + ys.length ≤ 100000) (q : ∀ p, H p = none → Q (.ref p) (upd H p (.lst (xs ++ ys)))) : addP K (.ref a) (.ref b) H Q :=
  .inr (.inr (.inl ⟨a, b, xs, ys, rfl, rfl, h1, h2, Nat.le_trans hz (by decide), q⟩))
theorem i_slL {lo hi : Option Int} (h : SqL K H a xs) (q : ∀ p, H p = none → Q (.ref p) (upd H p (.lst (cutV xs lo hi)))) : slP K (.ref a) lo hi H Q := .inl ⟨a, xs, rfl, h, q⟩
theorem cutV_to {xs : List V} (k : Nat) : cutV xs none (some (k : Int)) = xs.take k := by
  unfold cutV
  rw [HT.sIx_none, List.drop_zero, Nat.sub_zero, HT.sIx_nat]
  by_cases h : k ≤ xs.length
  · rw [Nat.min_eq_left h]
  · rw [Nat.min_eq_right (by omega), List.take_length, List.take_of_length_le (by omega)]
end
end Fg
namespace Fg
open PySem PySem.Spec PyProof.Rows L2
/-- the promise of the def at f, where no display stands around -/
structure GOk (P : Program) (w : World) (K : PySem.W.Frag) (mg : Str → Option Value) (base : Heap) (CX : CXT) (k : Nat) (f : Addr) (fd : FuncData) (ps : List Str) (sp : Sp) : Prop where
  many : ∀ vs H Q E, sp vs H Q E → vs.length = ps.length
  runs : ∀ (B : Around) (o : List Env) (t : Shared) (H : Hp) (ar : Args) (us : List Value) (vs : List V) (Q : VK) (E : XK),
    B.guards = some [] → Room k B → Env0 P w K mg base B o t H → BindsTo t fd ar (ps.zip us) → Vals vs us →
    sp vs H Q E → codeAny (model P w) B (.call (.ref f) ar) (CR CX o P w H t Q E) t
section
variable {P : Program} {w : World} {K : PySem.W.Frag} {mg : Str → Option Value} {base : Heap} {CX : CXT} {k : Nat} {f : Addr} {fd : FuncData} {ps N : List Str} {sp : Sp} {x q : Str} {st : Stmt}
theorem GOk.of (F : FnOk P w K mg base CX k f fd ps sp) : GOk P w K mg base CX k f fd ps sp :=
  ⟨F.len, fun B o t H ar us vs Q E _ r e b v s => F.run B o t H ar us vs Q E r e b v s⟩
/-- a def's body, walked where no display stands around -/
theorem gok_mk (F : Fun K x q st f fd) (S : FnScope N ps (defScope st)) (many : ∀ vs H Q E, sp vs H Q E → vs.length = ps.length)
    (body : ∀ (cv : Value) (B : Around) (o : List Env) (t : Shared) (H : Hp) (vs : List V) (Q : VK) (E : XK), B.guards = some [] →
      Room k (B.deeper (envOfC q (defScope st) t.heap.objs.size f cv)) → sp vs H Q E →
      ∃ rd, PSs (cxOf CX P w K mg base N q (defScope st) f cv B o t H E) (defBody st) rd ∧
        rd { nx := fun _ H2 => Q .non H2, rt := Q } (start N vs) H) : GOk P w K mg base CX (k + 1) f fd ps sp := by
  obtain ⟨c1, d1, kw1, dc1, pm1, an1, cv1, ct1, sl1, rfl, at1, code1⟩ := F.ex
  refine ⟨many, fun B o t H ar us vs Q E hgu room en bd rv asked => ?_⟩
  have inK : K.In t.heap := en.mod.kin.keeps fun b u e => (en.bs b u e).1
  have nolim : t.heap.NoLimit := en.mod.nolimit.keeps fun b u e => (en.bs b u e).1
  have n1 := many _ _ _ _ asked
  refine codeAny_call_function room.depth (inK _ _ at1) rfl S.co S.gen rfl
    (PySem.W.codeRec_of inK code1) (bd _ _ _ _ ?_)
  refine wpAny_newFunctionEnv_cells S.kind (fun ⟨nm, u⟩ hm => ?_) fun env he t1 made => ?_
  · exact (S.par nm (List.of_mem_zip hm).1).elim .inl fun z => .inr ⟨z, PySem.W.cellsFrom_some _ _ _ (.inl z)⟩
  subst he
  obtain ⟨rd, walked, holds⟩ := body cv1 B o t H vs Q E hgu (room.deeper _) asked
  have I0 := inv_start (CX := CX) (E := E) S room.hd en n1 rv made
  refine ⟨nolim.keeps made.toInCall.keep, codeAny_func (wpAny_mono (walked.run [] t1 (start N vs) H _ I0 holds) (fun fl t2 h2 => ?_) fun _ _ h2 => h2)⟩
  cases fl with
  | brk => obtain ⟨_, _, _, z⟩ := h2; exact z.elim
  | cont => obtain ⟨_, _, _, z⟩ := h2; exact z.elim
  | next =>
    obtain ⟨_, H2, J, z⟩ := h2
    exact ⟨.non, H2, J.os, J.bare, J.base, J.hok, rfl, z⟩
  | ret u =>
    obtain ⟨v, _, H2, J, rv2, z⟩ := h2
    exact ⟨v, H2, J.os, J.bare, J.base, J.hok, rv2, z⟩
end
section
variable {X : Cx} {CX : CXT} {k : Nat} {f : Addr} {fd : FuncData} {ps : List Str} {sp : Sp} {E : XK} {x : Str} {p pos : PySem.Pos} {e : Expr} {es : List Expr} {ta : TA}
theorem run_g (F : GOk X.prog X.w X.K X.mg X.base CX k f fd ps sp) (hgu : X.A.guards = some []) (hr : Room k X.A) (hb : Binds X.K fd ps []) (hx : Passes CX X E) {pins : List (Addr × Obj)} {σ : L2.St} {H : Hp} {s : Shared} {Q : VK} {us : List Value} {vs : List V}
    (I : Inv X pins σ H s) (r : Vals vs us) (h : sp (vs ++ []) H Q E) : wpAny (model X.prog X.w) X.A (call (.ref f) us) (EP X pins σ Q) X.xe s := by
  rw [List.append_nil] at h
  have n1 : us.length = ps.length := by rw [← r.length]; exact F.many _ _ _ _ h
  have b1 := hb s us I.kIn (by rw [List.append_nil]; exact n1)
  rw [List.append_nil] at b1
  refine wpAny_call (codeAny_mono (F.runs X.A X.stack s H ⟨us, []⟩ us vs Q E hgu hr I.env0 b1 r h) fun res t2 h2 => ?_)
  cases res with
  | error z => exact hx pins σ H s z t2 I h2
  | ok fl =>
    cases fl with
    | next => exact h2.elim
    | brk => exact h2.elim
    | cont => exact h2.elim
    | ret u => exact I.after h2
/-- .. and how it stands in the text -/
def GOK (P : Program) (w : World) (K : PySem.W.Frag) (mg : Str → Option Value) (base : Heap) (CX : CXT) (k : Nat) (x : Str) (ps : List Str) (sp : Sp) : Prop :=
  ∃ (f : Addr) (fd : FuncData), GOk P w K mg base CX k f fd ps sp ∧ mg x = some (.ref f) ∧ PySem.W.keepIn K (.ref f) = true ∧ Binds K fd ps []
theorem pe_g (G : GOK X.prog X.w X.K X.mg X.base CX k x ps sp) (hgu : X.A.guards = some []) (hr : Room k X.A) (hx : Passes CX X E) (ha : PA X (e :: es) ta) (hg : Gl X x := by rfl) (hd : (x == ("__debug__" : Str)) = false := by decide)
    (he : starEach (e :: es) X.env = (false, eval e X.env) :: starEach es X.env := by rfl) (hpl : (backTo pos (starEach es X.env)).any (·.1) = false := by rfl) :
    PE X (.Call (.Name x p) (e :: es) [] pos) (tCall sp [] E ta) := by
  obtain ⟨f, fd, F, hm, hk, hb⟩ := G
  exact ⟨fun pins s σ H Q I h => wpAny_Call_Name_kw (ld_glob I hg hm (PySem.W.callWith_K (h₀ := X.base) I.ok.mod.kin hk
    (thn (ha.run pos pins s σ H _ I h) fun us s1 ⟨vs, H1, I1, r, q⟩ => ⟨I1.kIn, run_g F hgu hr hb hx I1 r q⟩) he hpl) hd)⟩
end
/-- one heap in which the script alone may be tracked -/
def SoleAt (K : PySem.W.Frag) (a : Addr) (t : Heap) (P : Program) (w : World) (xs : List V) (H : Hp) : Prop :=
  (∀ b u, H b = some u → b = a ∧ ∃ ob, u = .frz ob (.lst xs)) ∧ SqL K H a xs ∧ HOk P w H t ∧ (H a ≠ none → K.lookup a = none)
theorem law_g {P : Program} {w : World} {K : PySem.W.Frag} {mg mb : Str → Option Value} {CX : CXT} {k : Nat} {fa a : Addr} {fd : FuncData} {x : Str} {sp : Sp} {t : Shared} {vs : List Value} {ns : List Int}
    (inK : K.In t.heap) (nsM : t.heap.Ns mainGlobals mg) (nsB : t.heap.Ns builtinsNs mb) (boot : ∀ y : Str, y ≠ "__name__" → mb y = bootBuiltins y) (lim : t.heap.NoLimit) (noGen : t.gens = #[])
    (script : t.heap.get? a = some { cls := .type "list", data := .seq vs.toArray }) (hni : IntsAre vs ns) (few : ns.length ≤ sizeLine) (room : Room k callerA)
    (F : ∀ base : Heap, K.In base → base.Ns mainGlobals mg → GOk P w K mg base CX k fa fd [x] sp) (bind : ∀ (s : Shared) (u : Value), BindsTo s fd ⟨[u], []⟩ [(x, u)])
    (asked : ∀ H : Hp, Only H → SqL K H a (ns.map V.int) → sp [.ref a] H (fun v _ => v = .bl true) fun _ _ _ => False)
    (noErr : ∀ H e s', CX [] H t (fun _ _ _ => False) e s' → False) :
    codeAny (model P w) callerA (.call (.ref fa) ⟨[.ref a], []⟩) (fun r t2 => r = .ok (.ret (.bool true)) ∧ OldK t.heap t2.heap ∧ t2.os = t.os ∧ AllBare t2.gens) t := by
  have hv := vals_ints hni
  have hlen : vs.length = ns.length := hni.length
  obtain ⟨H, sole, sq, hok, free⟩ : ∃ H, SoleAt K a t.heap P w (ns.map V.int) H := by
    by_cases hk : ∃ o, K.lookup a = some o
    · obtain ⟨o, hk⟩ := hk
      have e1 := inK a o hk
      rw [script] at e1
      cases e1
      exact ⟨fun _ => none, fun b u z => (nomatch z), .inr ⟨_, vs.toArray, _, hk, rfl, rfl, rfl, by rw [List.size_toArray, hlen]; exact few, by simpa using hv⟩, fun b u z => (nomatch z), fun z => absurd rfl z⟩
    · have hn : K.lookup a = none := by
        cases e1 : K.lookup a with
        | none => rfl
        | some o => exact absurd ⟨o, e1⟩ hk
      have at1 : ∀ b u, (if b = a then some (HO.frz { cls := .type "list", data := .seq vs.toArray } (.lst (ns.map V.int))) else none) = some u → b = a ∧ u = HO.frz { cls := .type "list", data := .seq vs.toArray } (.lst (ns.map V.int)) := fun b u z => by
        by_cases hb : b = a
        · rw [if_pos hb] at z; exact ⟨hb, (Option.some.inj z).symm⟩
        · rw [if_neg hb] at z; cases z
      refine ⟨fun b => if b = a then some (HO.frz { cls := .type "list", data := .seq vs.toArray } (.lst (ns.map V.int))) else none, fun b u z => ⟨(at1 b u z).1, _, (at1 b u z).2⟩, .inl (.inr ⟨_, if_pos rfl⟩), fun b u z => ?_, fun _ => hn⟩
      obtain ⟨rfl, rfl⟩ := at1 b u z
      exact ⟨script, by rw [List.length_map]; exact few, vs, _, hv, script⟩
  have only : Only H := fun b => by
    cases e1 : H b with
    | none => exact .inl rfl
    | some u =>
      obtain ⟨_, ob, rfl⟩ := sole b u e1
      exact .inr ⟨ob, _, rfl⟩
  -- the base: what stands, the script hidden if it is tracked
  have hid : ∀ {b : Addr} {o : Obj}, t.heap.get? b = some o → (b = a → H a = none) → (hidT t.heap H).get? b = some o := fun {b o} e1 e2 => hidT_get e1 (by
    cases e3 : H b with
    | none => rfl
    | some u =>
      obtain ⟨rfl, _⟩ := sole b u e3
      rw [e2 rfl] at e3; cases e3)
  have ns : ∀ {b : Addr} {m : Str → Option Value}, t.heap.Ns b m → (hidT t.heap H).Ns b m := fun {b m} ⟨o, es, ep, e1, d1, r1⟩ => ⟨o, es, ep, hid e1 (fun z => by
    subst z
    rw [script] at e1
    cases e1
    cases (show Data.seq vs.toArray _ = Data.dict es ep from d1)), d1, r1⟩
  have inB : K.In (hidT t.heap H) := fun b o e1 => hid (inK b o e1) fun z => by
    subst z
    by_cases e2 : H b = none
    · exact e2
    · rw [free e2] at e1; cases e1
  obtain ⟨mc, l1, l2⟩ := lim
  have en : Env0 P w K mg (hidT t.heap H) callerA [] t H :=
    ⟨rfl, ⟨inB, ns nsM, ⟨mb, ns nsB, boot⟩, ⟨mc, ns l1, l2⟩⟩, fun b o e1 => of_hidT e1, Nat.le_of_eq (hidT_size _ _), trivial,
      fun b hb => absurd (show b ∈ ([] : List Addr) from hb) (by simp), hok, .of_eq noGen⟩
  refine codeAny_mono ((F _ inB (ns nsM)).runs callerA [] t H ⟨[.ref a], []⟩ [.ref a] [.ref a] _ _ rfl room en (bind t (.ref a)) (.cons rfl .nil) (asked H only sq)) fun res t2 h2 => ?_
  cases res with
  | error z => exact (noErr H z t2 h2).elim
  | ok fl =>
    cases fl with
    | next => exact h2.elim
    | brk => exact h2.elim
    | cont => exact h2.elim
    | ret u =>
      obtain ⟨v, H2, os, bare, un, hok2, rv, q⟩ := h2
      have q : v = .bl true := q
      subst q
      cases (show u = Value.bool true from rv)
      refine ⟨rfl, OldK.of_keep fun b o e1 => ?_, os, bare⟩
      cases e2 : H b with
      | none => exact un.keep b o e1 e2 (fun z => absurd (show b ∈ ([] : List Addr) from z) (by simp)) (by simp)
      | some u =>
        obtain ⟨rfl, ob, rfl⟩ := sole b u e2
        obtain ⟨k1, _⟩ := hok _ _ e2
        obtain ⟨k2, _⟩ := hok2 _ _ (un.frzs _ ob _ e2)
        rw [e1] at k1; cases k1
        exact k2
theorem walk_g {l : PySem.W.OpenLaw} {n k : Nat} {q : Program} {loose : List Str} {XP : (Str → Option Value) → Heap → Prop} {YP : World → Heap → Prop} {d : DefRec} {K : Params → PySem.W.Frag} {CX : World → CXT} {sp : World → Sp} {x : Str}
    (hn : l.most = some n) (hn2 : n ≤ sizeLine) (hdf : d.params.defaults = []) (room : Room k callerA) (hY : ∀ (w : World) (h : Heap), YP w h → (K w.params).In h)
    (F : ∀ (w : World) (mg : Str → Option Value) (fa : Addr) (h : Heap), (K w.params).In h → h.Ns mainGlobals mg → mg d.name = some (.ref fa) →
      ∃ fd : FuncData, (∀ (s : Shared) (u : Value), BindsTo s fd ⟨[u], []⟩ [(x, u)]) ∧ ∀ base : Heap, (K w.params).In base → base.Ns mainGlobals mg → GOk l.prog w (K w.params) mg base (CX w) k fa fd [x] (sp w))
    (asked : ∀ (w : World) (H : Hp) (a : Addr) (ns : List Int), ns.length ≤ n → Only H → SqL (K w.params) H a (ns.map V.int) → sp w [.ref a] H (fun v _ => v = .bl true) fun _ _ _ => False)
    (noErr : ∀ (w : World) (H : Hp) (s : Shared) (e : Value) (s' : Shared), CX w [] H s (fun _ _ _ => False) e s' → False) :
    PySem.W.WalkO q loose XP YP l.row.toRowW d [] (fun f vs => PySem.call f vs) :=
  Att.attach_call hn hdf fun w s0 t mg mb fa o pm cd doc a vs ns G Y ho hd hcd hmg hobj hints hlen hg =>
    let ⟨fd, hb, hF⟩ := F w mg fa _ (hY w _ Y) G.T.g hmg
    law_g (hY w _ Y) G.T.g G.T.b G.T.builtins G.T.nolimit hg hobj hints (Nat.le_trans hlen hn2) room hF hb
      (fun H hO hS => asked w H a ns hlen hO hS) fun H e s' => noErr w H t e s'
end Fg
namespace Fg
open PySem PySem.Spec PyProof.Rows L2
/-- a def with defaults dvs keeps its promise -/
def OKD (P : Program) (w : World) (K : PySem.W.Frag) (mg : Str → Option Value) (base : Heap) (CX : CXT) (k : Nat) (x : Str) (ps : List Str) (dvs : List V) (sp : Sp) : Prop :=
  ∃ (f : Addr) (fd : FuncData), FnOk P w K mg base CX k f fd ps sp ∧ mg x = some (.ref f) ∧ PySem.W.keepIn K (.ref f) = true ∧ Binds K fd ps [] ∧ ∃ ds, Vals dvs ds ∧ Binds K fd ps ds
/-- .. how it stands in the text -/
def DefD (K : PySem.W.Frag) (mg : Str → Option Value) (x : Str) (st : Stmt) (ps : List Str) (dvs : List V) : Prop :=
  ∃ (f : Addr) (fd : FuncData), FunD K x x (defArgs st) (defBody st) (defScope st) dvs [] f fd ∧ mg x = some (.ref f) ∧ Binds K fd ps [] ∧ ∃ ds, Vals dvs ds ∧ Binds K fd ps ds
section
variable {P : Program} {w : World} {K : PySem.W.Frag} {mg : Str → Option Value} {base : Heap} {x q m : Str} {st : Stmt} {N ps : List Str} {k : Nat} {sp : Sp} {dvs : List V} {C : Addr} {CX : CXT}
theorem OKD.full (G : OKD P w K mg base CX k x ps dvs sp) : OK P w K mg base CX k x ps sp := by
  obtain ⟨f, fd, F, hm, hk, hb, _⟩ := G
  exact ⟨f, fd, F, hm, hk, hb⟩
theorem FunD.ok0 {f : Addr} {fd : FuncData} {kws : List (Str × V)} (F : FunD K x q (defArgs st) (defBody st) (defScope st) dvs kws f fd) (S : FnScope N ps (defScope st)) (len : ∀ vs H Q E, sp vs H Q E → vs.length = ps.length)
    (body : ∀ (cdv : Value) (A : Around) (outer : List Env) (s : Shared) (H : Hp) (vs : List V) (Q : VK) (E : XK), Room k (A.deeper (envOfC q (defScope st) s.heap.objs.size f cdv)) → sp vs H Q E →
      ∃ t, PSs (cxOf CX0 P w K mg base N q (defScope st) f cdv A outer s H E).nox (defBody st) t ∧ t { nx := fun _ H' => Q .non H', rt := Q } (start N vs) H) : FnOk P w K mg base CX0 (k + 1) f fd ps sp :=
  F.ok S len fun cdv A outer s H vs Q E hr h => let ⟨t, z, e⟩ := body cdv A outer s H vs Q E hr h; ⟨t, z.nox, e⟩
theorem OKD.mk (D : DefD K mg x st ps dvs) (S : FnScope N ps (defScope st)) (len : ∀ vs H Q E, sp vs H Q E → vs.length = ps.length)
    (body : ∀ (f : Addr) (cdv : Value) (A : Around) (outer : List Env) (s : Shared) (H : Hp) (vs : List V) (Q : VK) (E : XK), Room k (A.deeper (envOfC x (defScope st) s.heap.objs.size f cdv)) → sp vs H Q E →
      ∃ t, PSs (cxOf CX0 P w K mg base N x (defScope st) f cdv A outer s H E).nox (defBody st) t ∧ t { nx := fun _ H' => Q .non H', rt := Q } (start N vs) H) : OKD P w K mg base CX0 (k + 1) x ps dvs sp := by
  obtain ⟨f, fd, F, hm, hb, hd⟩ := D
  exact ⟨f, fd, FunD.ok0 F S len fun cdv A outer s H vs Q E hr h => body f cdv A outer s H vs Q E hr h, hm, F.kp, hb, hd⟩
theorem OKD.mkX (D : DefD K mg x st ps dvs) (S : FnScope N ps (defScope st)) (len : ∀ vs H Q E, sp vs H Q E → vs.length = ps.length)
    (body : ∀ (f : Addr) (cdv : Value) (A : Around) (outer : List Env) (s : Shared) (H : Hp) (vs : List V) (Q : VK) (E : XK), Room k (A.deeper (envOfC x (defScope st) s.heap.objs.size f cdv)) → sp vs H Q E →
      ∃ t, PSs (cxOf (L2.CX P w) P w K mg base N x (defScope st) f cdv A outer s H E) (defBody st) t ∧ t { nx := fun _ H' => Q .non H', rt := Q } (start N vs) H) : OKD P w K mg base (L2.CX P w) (k + 1) x ps dvs sp := by
  obtain ⟨f, fd, F, hm, hb, hd⟩ := D
  exact ⟨f, fd, F.ok S len fun cdv A outer s H vs Q E hr h => body f cdv A outer s H vs Q E hr h, hm, F.kp, hb, hd⟩
/-- a method of the class at C as it stands in the text -/
def MetIn (K : PySem.W.Frag) (C : Addr) (m q : Str) (st : Stmt) (ps : List Str) (dvs : List V) : Prop :=
  ∃ (f : Addr) (fd : FuncData), Meth K C m f ∧ FunD K m q (defArgs st) (defBody st) (defScope st) dvs [] f fd ∧ Binds K fd ps [] ∧ ∃ ds, Vals dvs ds ∧ Binds K fd ps ds
/-- .. and it keeps its promise -/
def MOK (P : Program) (w : World) (K : PySem.W.Frag) (mg : Str → Option Value) (base : Heap) (CX : CXT) (k : Nat) (C : Addr) (m : Str) (ps : List Str) (dvs : List V) (sp : Sp) : Prop :=
  ∃ (f : Addr) (fd : FuncData), Meth K C m f ∧ FnOk P w K mg base CX k f fd ps sp ∧ Binds K fd ps [] ∧ ∃ ds, Vals dvs ds ∧ Binds K fd ps ds
theorem MOK.mk (D : MetIn K C m q st ps dvs) (S : FnScope N ps (defScope st)) (len : ∀ vs H Q E, sp vs H Q E → vs.length = ps.length)
    (body : ∀ (f : Addr) (cdv : Value) (A : Around) (outer : List Env) (s : Shared) (H : Hp) (vs : List V) (Q : VK) (E : XK), Room k (A.deeper (envOfC q (defScope st) s.heap.objs.size f cdv)) → sp vs H Q E →
      ∃ t, PSs (cxOf CX0 P w K mg base N q (defScope st) f cdv A outer s H E).nox (defBody st) t ∧ t { nx := fun _ H' => Q .non H', rt := Q } (start N vs) H) : MOK P w K mg base CX0 (k + 1) C m ps dvs sp := by
  obtain ⟨f, fd, hm, F, hb, hd⟩ := D
  exact ⟨f, fd, hm, FunD.ok0 F S len fun cdv A outer s H vs Q E hr h => body f cdv A outer s H vs Q E hr h, hb, hd⟩
theorem MOK.mkX (D : MetIn K C m q st ps dvs) (S : FnScope N ps (defScope st)) (len : ∀ vs H Q E, sp vs H Q E → vs.length = ps.length)
    (body : ∀ (f : Addr) (cdv : Value) (A : Around) (outer : List Env) (s : Shared) (H : Hp) (vs : List V) (Q : VK) (E : XK), Room k (A.deeper (envOfC q (defScope st) s.heap.objs.size f cdv)) → sp vs H Q E →
      ∃ t, PSs (cxOf (L2.CX P w) P w K mg base N q (defScope st) f cdv A outer s H E) (defBody st) t ∧ t { nx := fun _ H' => Q .non H', rt := Q } (start N vs) H) : MOK P w K mg base (L2.CX P w) (k + 1) C m ps dvs sp := by
  obtain ⟨f, fd, hm, F, hb, hd⟩ := D
  exact ⟨f, fd, hm, F.ok S len fun cdv A outer s H vs Q E hr h => body f cdv A outer s H vs Q E hr h, hb, hd⟩
/-- a class whose instances its __init__ makes -/
def MkIn (K : PySem.W.Frag) (mg : Str → Option Value) (x q : Str) (C : Addr) (st : Stmt) (ps : List Str) (dvs : List V) : Prop :=
  ∃ (f : Addr) (fd : FuncData), Mk K C f ∧ mg x = some (.ref C) ∧ FunD K "__init__" q (defArgs st) (defBody st) (defScope st) dvs [] f fd ∧ Binds K fd ps [] ∧ ∃ ds, Vals dvs ds ∧ Binds K fd ps ds
def MkOK (P : Program) (w : World) (K : PySem.W.Frag) (mg : Str → Option Value) (base : Heap) (CX : CXT) (k : Nat) (x : Str) (C : Addr) (ps : List Str) (dvs : List V) (sp : Sp) : Prop :=
  ∃ (f : Addr) (fd : FuncData), Mk K C f ∧ mg x = some (.ref C) ∧ FnOk P w K mg base CX k f fd ps sp ∧ Binds K fd ps [] ∧ ∃ ds, Vals dvs ds ∧ Binds K fd ps ds
theorem MkOK.mk (D : MkIn K mg x q C st ps dvs) (S : FnScope N ps (defScope st)) (len : ∀ vs H Q E, sp vs H Q E → vs.length = ps.length)
    (body : ∀ (f : Addr) (cdv : Value) (A : Around) (outer : List Env) (s : Shared) (H : Hp) (vs : List V) (Q : VK) (E : XK), Room k (A.deeper (envOfC q (defScope st) s.heap.objs.size f cdv)) → sp vs H Q E →
      ∃ t, PSs (cxOf CX0 P w K mg base N q (defScope st) f cdv A outer s H E).nox (defBody st) t ∧ t { nx := fun _ H' => Q .non H', rt := Q } (start N vs) H) : MkOK P w K mg base CX0 (k + 1) x C ps dvs sp := by
  obtain ⟨f, fd, M, hm, F, hb, hd⟩ := D
  exact ⟨f, fd, M, hm, FunD.ok0 F S len fun cdv A outer s H vs Q E hr h => body f cdv A outer s H vs Q E hr h, hb, hd⟩
theorem MkOK.mkX (D : MkIn K mg x q C st ps dvs) (S : FnScope N ps (defScope st)) (len : ∀ vs H Q E, sp vs H Q E → vs.length = ps.length)
    (body : ∀ (f : Addr) (cdv : Value) (A : Around) (outer : List Env) (s : Shared) (H : Hp) (vs : List V) (Q : VK) (E : XK), Room k (A.deeper (envOfC q (defScope st) s.heap.objs.size f cdv)) → sp vs H Q E →
      ∃ t, PSs (cxOf (L2.CX P w) P w K mg base N q (defScope st) f cdv A outer s H E) (defBody st) t ∧ t { nx := fun _ H' => Q .non H', rt := Q } (start N vs) H) : MkOK P w K mg base (L2.CX P w) (k + 1) x C ps dvs sp := by
  obtain ⟨f, fd, M, hm, F, hb, hd⟩ := D
  exact ⟨f, fd, M, hm, F.ok S len fun cdv A outer s H vs Q E hr h => body f cdv A outer s H vs Q E hr h, hb, hd⟩
end
section
variable {X : Cx} {CX : CXT} {k n : Nat} {x m : Str} {ps ks : List Str} {sp : Sp} {dvs : List V} {E : XK} {o e : Expr} {es : List Expr} {kws : List Keyword} {to : TE} {ta tk : TA} {p pos apos : PySem.Pos} {C : Addr}
/-- f(e, ..), the defaults filling up -/
theorem pe_fd (G : OKD X.prog X.w X.K X.mg X.base CX k x ps dvs sp) (hr : Room k X.A) (hx : Passes CX X E) (ha : PA X (e :: es) ta) (hg : Gl X x := by rfl) (hd : (x == ("__debug__" : Str)) = false := by decide)
    (he : starEach (e :: es) X.env = (false, eval e X.env) :: starEach es X.env := by rfl) (hpl : (backTo pos (starEach es X.env)).any (·.1) = false := by rfl) :
    PE X (.Call (.Name x p) (e :: es) [] pos) (tCall sp dvs E ta) := by
  obtain ⟨f, fd, F, hm, hk, _, ds, hv, hb⟩ := G
  exact pe_call F hr hg hm hk hb hv hx ha hd he hpl
theorem pe_m {pl : Sem Bool} (ho : PE X o to) (c : Cls X.K C) (G : MOK X.prog X.w X.K X.mg X.base CX k C m ps dvs sp) (hr : Room k X.A) (hx : Passes CX X E) (ha : PA X (e :: es) ta)
    (hst : starEach (e :: es) X.env = (false, eval e X.env) :: starEach es X.env := by rfl) (hpl : (backTo pos (starEach es X.env)).any (·.1) = false := by rfl)
    (ht : eval (.Call (.Attribute o m apos) (e :: es) [] pos) X.env = (do
      let ov ← eval o X.env
      standAt apos.atName
      let (f, first) ← holding [ov] (getMethod ov m pl)
      callWith pos f first (backTo pos (starEach (e :: es) X.env)) (backToKw pos (keywordEach [] X.env))) := by rfl) :
    PE X (.Call (.Attribute o m apos) (e :: es) [] pos) (tMeth C m sp [] E to ta) := by
  obtain ⟨f, fd, hm, F, hb, _⟩ := G
  exact pe_meth ho c hm F hr hb .nil hx ha hst hpl ht
theorem pe_m0 {pl : Sem Bool} (ho : PE X o to) (c : Cls X.K C) (G : MOK X.prog X.w X.K X.mg X.base CX k C m ps dvs sp) (hr : Room k X.A) (hx : Passes CX X E)
    (ht : eval (.Call (.Attribute o m apos) [] [] pos) X.env = (do
      let ov ← eval o X.env
      standAt apos.atName
      let (f, first) ← holding [ov] (getMethod ov m pl)
      callWith pos f first (backTo pos (starEach [] X.env)) (backToKw pos (keywordEach [] X.env))) := by rfl) :
    PE X (.Call (.Attribute o m apos) [] [] pos) (tMeth C m sp [] E to tNil) := by
  obtain ⟨f, fd, hm, F, hb, _⟩ := G
  exact pe_meth0 ho c hm F hr hb .nil hx ht
/-- C(e, ..), the defaults filling up -/
theorem pe_mkd (G : MkOK X.prog X.w X.K X.mg X.base CX k x C ps dvs sp) (hr : Room (k + 1) X.A) (hx : Passes CX X E) (ha : PA X (e :: es) ta) (hg : Gl X x := by rfl) (hd : (x == ("__debug__" : Str)) = false := by decide)
    (he : starEach (e :: es) X.env = (false, eval e X.env) :: starEach es X.env := by rfl) (hpl : (backTo pos (starEach es X.env)).any (·.1) = false := by rfl) :
    PE X (.Call (.Name x p) (e :: es) [] pos) (tMake C sp dvs E ta) := by
  obtain ⟨f, fd, M, hm, F, _, ds, hv, hb⟩ := G
  exact pe_make M F hr hg hm hb hv hx ha hd he hpl
/-- how it binds with the keywords ks: all parameters are given, in their order -/
def KwIn (K : PySem.W.Frag) (C : Addr) (m q : Str) (st : Stmt) (ps : List Str) (dvs : List V) (n : Nat) (ks : List Str) : Prop :=
  ∃ (f : Addr) (fd : FuncData), Meth K C m f ∧ FunD K m q (defArgs st) (defBody st) (defScope st) dvs [] f fd ∧ KBn K fd ps n ks (fun us ws => us ++ ws) (fun vs zs => vs ++ zs)
def KOK (P : Program) (w : World) (K : PySem.W.Frag) (mg : Str → Option Value) (base : Heap) (CX : CXT) (k : Nat) (C : Addr) (m : Str) (ps : List Str) (n : Nat) (ks : List Str) (sp : Sp) : Prop :=
  ∃ (f : Addr) (fd : FuncData), Meth K C m f ∧ FnOk P w K mg base CX k f fd ps sp ∧ KBn K fd ps n ks (fun us ws => us ++ ws) (fun vs zs => vs ++ zs)
/-- the same def: one promise -/
theorem KOK.of {P : Program} {w : World} {K : PySem.W.Frag} {mg : Str → Option Value} {base : Heap} {q : Str} {st : Stmt} (D : KwIn K C m q st ps dvs n ks) (G : MOK P w K mg base CX k C m ps dvs sp)
    (same : ∀ f g fd gd, Meth K C m f → Meth K C m g → FunD K m q (defArgs st) (defBody st) (defScope st) dvs [] f fd → FnOk P w K mg base CX k g gd ps sp → FnOk P w K mg base CX k f fd ps sp) : KOK P w K mg base CX k C m ps n ks sp := by
  obtain ⟨f, fd, hm, F, hk⟩ := D
  obtain ⟨g, gd, hn, G, _⟩ := G
  exact ⟨f, fd, hm, same f g fd gd hm hn F G, hk⟩
theorem KOK.mkX {P : Program} {w : World} {K : PySem.W.Frag} {mg : Str → Option Value} {base : Heap} {q : Str} {st : Stmt} {N : List Str} (D : KwIn K C m q st ps dvs n ks) (S : FnScope N ps (defScope st)) (len : ∀ vs H Q E, sp vs H Q E → vs.length = ps.length)
    (body : ∀ (f : Addr) (cdv : Value) (A : Around) (outer : List Env) (s : Shared) (H : Hp) (vs : List V) (Q : VK) (E : XK), Room k (A.deeper (envOfC q (defScope st) s.heap.objs.size f cdv)) → sp vs H Q E →
      ∃ t, PSs (cxOf (L2.CX P w) P w K mg base N q (defScope st) f cdv A outer s H E) (defBody st) t ∧ t { nx := fun _ H' => Q .non H', rt := Q } (start N vs) H) : KOK P w K mg base (L2.CX P w) (k + 1) C m ps n ks sp := by
  obtain ⟨f, fd, hm, F, hb⟩ := D
  exact ⟨f, fd, hm, F.ok S len fun cdv A outer s H vs Q E hr h => body f cdv A outer s H vs Q E hr h, hb⟩
end
def spIni2 (C : Addr) (f g : Str) : Sp := sp3 fun x v y H Q _ => ∃ a, x = .ref a ∧ H a = some (exo a C none) ∧ ∀ dx H', H dx = none → dx ≠ a → H' a = some (exo a C (some dx)) → H' dx = some (exd dx [(g, y), (f, v)]) → (∀ b, b ≠ a → b ≠ dx → H' b = H b) → Q .non H'
def OKx2 (P : Program) (w : World) (K : PySem.W.Frag) (mg : Str → Option Value) (base : Heap) (x f g : Str) (C : Addr) : Prop :=
  mg x = some (.ref C) ∧ OexC K C ∧ ∃ (fI : Addr) (fd : FuncData), PySem.W.findIn K (.ref C) "__init__" = some (some (.ref fI)) ∧ PySem.W.typeIn K (.ref fI) = some (.type "function") ∧
    FnOk P w K mg base CX0 1 fI fd ["self", f, g] (spIni2 C f g) ∧ Binds K fd ["self", f, g] []
theorem ini_ok2 {P : Program} {w : World} {K : PySem.W.Frag} {mg : Str → Option Value} {base : Heap} {C fI : Addr} {f g q : Str} {st : Stmt} {fd : FuncData} (F : Fun K "__init__" q st fI fd) (S : FnScope ["self", f, g] ["self", f, g] (defScope st))
    (ox : OexC K C) (noF : PySem.W.findIn K (.ref C) f = some none) (noG : PySem.W.findIn K (.ref C) g = some none)
    (hb : ∀ (cdv : Value) (A : Around) (outer : List Env) (s : Shared) (H : Hp) (E : XK), PSs (cxOf CX0 P w K mg base ["self", f, g] q (defScope st) fI cdv A outer s H E).nox (defBody st) (tSeq (tOst K f (tVar 0) (tVar 1)) (tOst K g (tVar 0) (tVar 2)))) :
    FnOk P w K mg base CX0 1 fI fd ["self", f, g] (spIni2 C f g) := by
  refine F.ok S (fun vs H Q E h => len3 vs H Q E h) fun cdv A outer s H vs Q E hr h => ⟨_, hb cdv A outer s H E, ?_⟩
  obtain ⟨x, v, y, rfl, a, rfl, ha, q⟩ := h
  refine ⟨v, rfl, .ref a, rfl, a, C, rfl, ox, noF, .inl ⟨ha, fun dx n ne => ?_⟩⟩
  refine ⟨y, rfl, .ref a, rfl, a, C, rfl, ox, noG, .inr ⟨dx, _, upd_same, by rw [upd_ne ne, upd_same], by show 1 ≤ 900; decide, ?_⟩⟩
  refine q dx _ n ne (by rw [upd_ne ne.symm, upd_same]) upd_same fun b h1 h2 => by rw [upd_ne h2, upd_ne h1, upd_ne h2]
/-- C(e, ..): an error whose dict, new, holds the two fields, the later one first -/
def tMkE2 (C : Addr) (f g : Str) (ta : TA) : L2.St → Hp → XK → Prop := fun σ H Q => ta σ H fun vs H1 => ∃ v y, vs = [v, y] ∧ ∀ d, H1 d = none → Q (.ref C) (some d) (upd H1 d (.xd [(g, y), (f, v)]))
theorem pmk_E2 {X : Cx} {x f g : Str} {C : Addr} {e : Expr} {es : List Expr} {ta : TA} {p pos : PySem.Pos} {k : Nat} (G : OKx2 X.prog X.w X.K X.mg X.base x f g C) (hr : Room (k + 2) X.A) (ha : PA X (e :: es) ta) (hg : Gl X x := by rfl) (hdb : (x == ("__debug__" : Str)) = false := by decide)
    (he : starEach (e :: es) X.env = (false, eval e X.env) :: starEach es X.env := by rfl) (hpl : (backTo pos (starEach es X.env)).any (·.1) = false := by rfl) :
    PMk X (.Call (.Name x p) (e :: es) [] pos) (tMkE2 C f g ta) := by
  obtain ⟨hm, ox, fI, fd, iC, tI, F, hb⟩ := G
  intro pins s σ H Q I h
  refine pmk_oex (k := 1) (dvs := []) ox iC tI F (hr.mono (by omega)) hb .nil pass0 hg hm (pa_mono ha) hdb he hpl pins s σ H Q I ⟨_, h, fun vs H1 hq => ?_⟩
  obtain ⟨v, y, rfl, q⟩ := hq
  refine ⟨by show 2 ≤ 1000; omega, fun a na => ⟨.ref a, v, y, rfl, a, rfl, upd_same, fun dx H' nd ne h1 h2 h3 => ⟨rfl, dx, [(g, y), (f, v)], h1, h2, ?_, ?_⟩⟩⟩
  · rw [upd_ne ne] at nd; exact nd
  · have n2 : H1 dx = none := by rw [upd_ne ne] at nd; exact nd
    have e1 : upd (del H' a) dx (.xd [(g, y), (f, v)]) = upd H1 dx (.xd [(g, y), (f, v)]) := by
      funext b
      by_cases hb : b = dx
      · rw [hb, upd_same, upd_same]
      · rw [upd_ne hb, upd_ne hb]
        by_cases ha : b = a
        · rw [ha, del_same, na]
        · rw [del_ne ha, h3 b ha hb, upd_ne ha]
    rw [e1]
    exact q dx n2
/-- the wish for an error of the class at C whose dict, new, holds fs -/
def Rzf (E : XK) (H : Hp) (C : Addr) (fs : List (Str × V)) : Prop := ∀ d H', H d = none → Same H H' → H' d = some (.xd fs) → E (.ref C) (some d) H'
theorem Rzf.mono {E : XK} {H H1 : Hp} {C : Addr} {fs : List (Str × V)} (h : Rzf E H C fs) (s : Same H H1) : Rzf E H1 C fs := fun d H' n s' e => h d H' (s.free n) (s.trans s') e
theorem Rzf.at {E : XK} {H : Hp} {C : Addr} {fs : List (Str × V)} (h : Rzf E H C fs) {d : Addr} (n : H d = none) : E (.ref C) (some d) (upd H d (.xd fs)) :=
  h d _ n (fun b o e => by rw [upd_ne (ne_of_none e n)]; exact e) upd_same
section
variable {σ : L2.St} {H : Hp} {Q : XK} {C : Addr} {f g : Str} {ta : TA} {v y : V} {P : V → V → Prop}
theorem i_mkE2 (q : ta σ H fun vs H1 => ∃ v y, vs = [v, y] ∧ ∀ d, H1 d = none → Q (.ref C) (some d) (upd H1 d (.xd [(g, y), (f, v)]))) : tMkE2 C f g ta σ H Q := q
theorem i_ex2 (q : P v y) : ∃ a b, [v, y] = [a, b] ∧ P a b := ⟨v, y, rfl, q⟩
end
theorem GOK.mk {P : Program} {w : World} {K : PySem.W.Frag} {mg : Str → Option Value} {base : Heap} {x : Str} {st : Stmt} {N ps : List Str} {k : Nat} {sp : Sp} (D : DefIn K mg x st ps) (S : FnScope N ps (defScope st)) (len : ∀ vs H Q E, sp vs H Q E → vs.length = ps.length)
    (body : ∀ (f : Addr) (cdv : Value) (A : Around) (outer : List Env) (s : Shared) (H : Hp) (vs : List V) (Q : VK) (E : XK), A.guards = some [] → Room k (A.deeper (envOfC x (defScope st) s.heap.objs.size f cdv)) → sp vs H Q E →
      ∃ t, PSs (cxOf CX0 P w K mg base N x (defScope st) f cdv A outer s H E).nox (defBody st) t ∧ t { nx := fun _ H' => Q .non H', rt := Q } (start N vs) H) : GOK P w K mg base CX0 (k + 1) x ps sp := by
  obtain ⟨f, fd, F, hm, hb⟩ := D
  refine ⟨f, fd, gok_mk F S len fun cdv A outer s H vs Q E hg hr h => ?_, hm, F.kp, hb⟩
  obtain ⟨t, z, e⟩ := body f cdv A outer s H vs Q E hg hr h
  exact ⟨t, z.nox, e⟩
end Fg
namespace Fg
open PySem PySem.Spec PyProof.Rows L2
abbrev dS (l : List Nat) : PyData := .str ⟨l.toArray⟩
mutual
inductive At (H : Hp) : V → PyData → Prop
  | non : At H .non .none
  | bl (b : Bool) : At H (.bl b) (.bool b)
  | int (i : Int) : At H (.int i) (.int i)
  | str (l : List Nat) : l.length ≤ 10000 → At H (S l) (dS l)
  | lst {a : Addr} {xs : List V} {ds : List PyData} : H a = some (.lst xs) → xs.length ≤ 10000 → AtAll H xs ds → At H (.ref a) (.list ds)
  | tup {a : Addr} {xs : List V} {ds : List PyData} : H a = some (.tup xs) → xs.length ≤ 10000 → AtAll H xs ds → At H (.ref a) (.tuple ds)
  | dct {a : Addr} : H a = some (.dK []) → At H (.ref a) (.dict [])
inductive AtAll (H : Hp) : List V → List PyData → Prop
  | nil : AtAll H [] []
  | cons {v : V} {vs : List V} {d : PyData} {ds : List PyData} : At H v d → AtAll H vs ds → AtAll H (v :: vs) (d :: ds)
end
section
variable {H H' : Hp}
mutual
theorem At.mono (s : Same H H') : ∀ (d : PyData) (v : V), At H v d → At H' v d
  | .none, _, h => by cases h; exact .non
  | .bool b, _, h => by cases h; exact .bl b
  | .int i, _, h => by cases h; exact .int i
  | .str x, _, h => by
    cases h with
    | str l hl => exact .str l hl
  | .list ds, _, h => by
    cases h with
    | lst e l a => exact .lst (s _ _ e) l (AtAll.mono s ds _ a)
  | .tuple ds, _, h => by
    cases h with
    | tup e l a => exact .tup (s _ _ e) l (AtAll.mono s ds _ a)
  | .dict kvs, _, h => by
    cases h with
    | dct e => exact .dct (s _ _ e)
theorem AtAll.mono (s : Same H H') : ∀ (ds : List PyData) (vs : List V), AtAll H vs ds → AtAll H' vs ds
  | [], _, h => by cases h; exact .nil
  | d :: ds, _, h => by
    cases h with
    | cons h1 h2 => exact .cons (At.mono s d _ h1) (AtAll.mono s ds _ h2)
end
theorem At.same {v : V} {d : PyData} (h : At H v d) (s : Same H H') : At H' v d := At.mono s d v h
theorem AtAll.same {vs : List V} {ds : List PyData} (h : AtAll H vs ds) (s : Same H H') : AtAll H' vs ds := AtAll.mono s ds vs h
mutual
theorem At.dp (K : PySem.W.Frag) : ∀ (d : PyData) (v : V), At H v d → d.hasDict = false → Dp K H v d
  | .none, _, h, _ => by cases h; exact .non
  | .bool b, _, h, _ => by cases h; exact .bl b
  | .int i, _, h, _ => by cases h; exact .int i
  | .str x, _, h, _ => by cases h; exact .str _
  | .list ds, _, h, n => by
    cases h with
    | lst e l a => exact .lst (.inl (.inl e)) (AtAll.dp K ds _ a n)
  | .tuple ds, _, h, n => by
    cases h with
    | tup e l a => exact .tup (.inl (.inl e)) (AtAll.dp K ds _ a n)
  | .dict kvs, _, h, n => by cases n
theorem AtAll.dp (K : PySem.W.Frag) : ∀ (ds : List PyData) (vs : List V), AtAll H vs ds → PyData.hasDictAll ds = false → DpAll K H vs ds
  | [], _, h, _ => by cases h; exact .nil
  | d :: ds, _, h, n => by
    cases h with
    | cons h1 h2 =>
      have n' : (d.hasDict || PyData.hasDictAll ds) = false := n
      rw [Bool.or_eq_false_iff] at n'
      exact .cons (At.dp K d _ h1 n'.1) (AtAll.dp K ds _ h2 n'.2)
end
theorem AtAll.len : ∀ {vs : List V} {ds : List PyData}, AtAll H vs ds → vs.length = ds.length
  | _, _, .nil => rfl
  | _, _, .cons _ r => congrArg Nat.succ r.len
theorem AtAll.get : ∀ {vs : List V} {ds : List PyData}, AtAll H vs ds → ∀ {i : Nat} {v : V}, vs[i]? = some v → ∃ d, ds[i]? = some d ∧ At H v d
  | _, _, .nil, _, _, e => by simp at e
  | _, _, .cons h r, 0, _, e => by
    cases (show some _ = some _ from e)
    exact ⟨_, rfl, h⟩
  | _, _, .cons h r, i + 1, v, e => r.get (i := i) e
theorem AtAll.at : ∀ {vs : List V} {ds : List PyData}, AtAll H vs ds → ∀ {i : Nat} {d : PyData}, ds[i]? = some d → ∃ v, vs[i]? = some v ∧ At H v d
  | _, _, .nil, _, _, e => by simp at e
  | _, _, .cons h r, 0, _, e => by
    cases (show some _ = some _ from e)
    exact ⟨_, rfl, h⟩
  | _, _, .cons h r, i + 1, v, e => r.at (i := i) e
theorem AtAll.app : ∀ {vs ws : List V} {ds es : List PyData}, AtAll H vs ds → AtAll H ws es → AtAll H (vs ++ ws) (ds ++ es)
  | _, _, _, _, .nil, r => r
  | _, _, _, _, .cons h t, r => .cons h (t.app r)
theorem AtAll.one {v : V} {d : PyData} (h : At H v d) : AtAll H [v] [d] := .cons h .nil
theorem AtAll.take : ∀ {vs : List V} {ds : List PyData}, AtAll H vs ds → ∀ (n : Nat), AtAll H (vs.take n) (ds.take n)
  | _, _, .nil, n => by simp; exact .nil
  | _, _, .cons h r, 0 => .nil
  | _, _, .cons h r, n + 1 => .cons h (r.take n)
theorem AtAll.drop : ∀ {vs : List V} {ds : List PyData}, AtAll H vs ds → ∀ (n : Nat), AtAll H (vs.drop n) (ds.drop n)
  | _, _, .nil, n => by simp; exact .nil
  | _, _, .cons h r, 0 => .cons h r
  | _, _, .cons h r, n + 1 => r.drop n
theorem AtAll.map {α : Type} {f : α → V} {g : α → PyData} (h : ∀ x, At H (f x) (g x)) : ∀ l : List α, AtAll H (l.map f) (l.map g)
  | [] => .nil
  | x :: r => .cons (h x) (AtAll.map h r)
theorem AtAll.rep {v : V} {d : PyData} (h : At H v d) : ∀ n : Nat, AtAll H (List.replicate n v) (List.replicate n d)
  | 0 => .nil
  | n + 1 => .cons h (AtAll.rep h n)
end
structure Ext (A G A' G' : Hp) : Prop where
  aa : Same A A'
  ag : Same A' G'
  gg : Same G G'
  nw : ∀ b, A b = none → A' b ≠ none → G b = none
section
variable {A G A1 G1 A2 G2 H : Hp} {p : Addr} {o o' : HO} {v : V} {d : PyData}
theorem Ext.refl (s : Same A G) : Ext A G A G := ⟨fun _ _ e => e, s, fun _ _ e => e, fun b h1 h2 => absurd h1 h2⟩
theorem Ext.trans (x : Ext A G A1 G1) (y : Ext A1 G1 A2 G2) : Ext A G A2 G2 := by
  refine ⟨x.aa.trans y.aa, y.ag, x.gg.trans y.gg, fun b h1 h2 => ?_⟩
  by_cases h : A1 b = none
  · exact x.gg.free (y.nw b h h2)
  · exact x.nw b h1 h
/-- something new, known -/
theorem Ext.new (x : Ext A G A1 G1) (n : G1 p = none) : Ext A G (upd A1 p o) (upd G1 p o) := by
  have na : A1 p = none := x.ag.free n
  refine ⟨Same.upd x.aa (x.gg.trans (fun _ _ e => e) |>.free n |> fun z => ?_), fun b u e => ?_, Same.upd x.gg (x.gg.free n), fun b h1 h2 => ?_⟩
  · by_cases h : A p = none
    · exact h
    · exact absurd na (by
        intro z
        cases e : A p with
        | none => exact h e
        | some u => rw [x.aa _ _ e] at z; cases z)
  · by_cases hb : b = p
    · rw [hb, upd_same] at e
      rw [hb, upd_same]; exact e
    · rw [upd_ne hb] at e
      rw [upd_ne hb]; exact x.ag _ _ e
  · by_cases hb : b = p
    · rw [hb]; exact x.gg.free n
    · rw [upd_ne hb] at h2
      exact x.nw b h1 h2
/-- something new, hidden -/
theorem Ext.hid (x : Ext A G A1 G1) (n : G1 p = none) : Ext A G A1 (upd G1 p o) :=
  ⟨x.aa, x.ag.trans (same_upd n), x.gg.trans (same_upd n), x.nw⟩
/-- what is hidden, and was not there at first, changes -/
theorem Ext.put (x : Ext A G A1 G1) (n : G p = none) (na : A1 p = none) : Ext A G A1 (upd G1 p o) :=
  ⟨x.aa, fun b u e => by rw [upd_ne (ne_of_none e na)]; exact x.ag _ _ e, Same.upd x.gg n, x.nw⟩
/-- what was hidden is known -/
theorem Ext.show (x : Ext A G A1 G1) (n : G p = none) (sa : Same A G) (e : G1 p = some o) : Ext A G (upd A1 p o) G1 := by
  have na : A p = none := sa.free n
  refine ⟨Same.upd x.aa na, fun b u e1 => ?_, x.gg, fun b h1 h2 => ?_⟩
  · by_cases hb : b = p
    · rw [hb, upd_same] at e1
      rw [hb, e]; exact e1
    · rw [upd_ne hb] at e1
      exact x.ag _ _ e1
  · by_cases hb : b = p
    · rw [hb]; exact n
    · rw [upd_ne hb] at h2
      exact x.nw b h1 h2
/-- what is hidden stays hidden -/
theorem Ext.free (x : Ext A G A1 G1) (n : A p = none) (e : G p ≠ none) : A1 p = none := by
  by_cases h : A1 p = none
  · exact h
  · exact absurd (x.nw p n h) e
theorem Ext.up (x : Ext A G A1 G1) (h : At A1 v d) : At G1 v d := h.same x.ag
theorem Ext.old (x : Ext A G A1 G1) (h : At A v d) : At A1 v d := h.same x.aa
end
section
variable {K : PySem.W.Frag} {σ : L2.St} {A G : Hp} {Q : VK} {te tl : TE} {tt : TT} {ta : TA} {j : Nat} {a : Addr} {xs : List V} {vs : List Nat}
/-- behind i turns: the list at Dl, hidden, holds data -/
def Cw (A G : Hp) (Dl : Addr) (f : Nat → PyData) (i : Nat) (G1 : Hp) : Prop := G Dl = none ∧ ∃ A1 l, Ext A G A1 G1 ∧ A1 Dl = none ∧ G1 Dl = some (.lst l) ∧ AtAll A1 l ((List.range i).map f)
theorem cw_start (s : Same A G) {Dl : Addr} {f : Nat → PyData} (n : G Dl = none) : Cw A G Dl f 0 (upd G Dl (.lst [])) :=
  ⟨n, A, [], (Ext.refl s).hid n, s.free n, upd_same, .nil⟩
theorem cw_turn {Dl : Addr} {f : Nat → PyData} {i : Nat} {G1 : Hp} {σ2 : L2.St} (w : Cw A G Dl f i G1) (hi : i < 10000)
    (he : ∀ A1 G1, Ext A G A1 G1 → ∀ QV : VK, (∀ A2 G2 v, Ext A1 G1 A2 G2 → At A2 v (f i) → QV v G2) → te σ2 G1 QV) :
    tYes σ2 G1 fun b H3 => if b = true then te σ2 H3 fun y H4 => ∃ acc, H4 Dl = some (.lst acc) ∧ acc.length < sizeLine ∧ Cw A G Dl f (i + 1) (upd H4 Dl (.lst (acc ++ [y]))) else Cw A G Dl f (i + 1) H3 := by
  obtain ⟨n, A1, l, x, na, e, al⟩ := w
  refine i_yes ?_
  rw [if_pos rfl]
  refine he A1 G1 x _ fun A2 G2 v y hv => ?_
  have na2 : A2 Dl = none := y.free na (by rw [e]; simp)
  have ll : l.length = i := by rw [al.len]; simp
  refine ⟨l, y.gg _ _ e, Nat.lt_of_le_of_lt (Nat.le_of_eq ll) (Nat.lt_trans hi (by decide)), n, A2, l ++ [v], (x.trans y).put n na2, na2, upd_same, ?_⟩
  rw [List.range_succ, List.map_append]
  exact (al.same y.aa).app (.one hv)
theorem cw_end {Dl : Addr} {f : Nat → PyData} {n : Nat} {G1 : Hp} (w : Cw A G Dl f n G1) (sa : Same A G) (hn : n ≤ 10000) : ∃ A1, Ext A G A1 G1 ∧ At A1 (.ref Dl) (.list ((List.range n).map f)) ∧ ∃ l, G1 Dl = some (.lst l) ∧ A1 Dl = some (.lst l) ∧ AtAll A1 l ((List.range n).map f) ∧ l.length = n := by
  obtain ⟨h, A1, l, x, na, e, al⟩ := w
  have ll : l.length = n := by rw [al.len]; simp
  have al2 := al.same (same_upd (o := .lst l) na)
  exact ⟨_, x.show h sa e, .lst upd_same (by omega) al2, l, e, upd_same, al2, ll⟩
/-- [te for j in a list] -/
theorem c_lstD {ds : List PyData} (sa : Same A G) (ha : ∀ R : VK, R (.ref a) G → tl σ G R) (hx : SqL K G a xs) (hd : AtAll A xs ds) (hn : xs.length ≤ 10000) (f : PyData → PyData) (hw : ∀ x, wipe ((wipe σ vs).set j (some x)) vs = wipe σ vs)
    (he : ∀ x d A1 G1, d ∈ ds → At A1 x d → Ext A G A1 G1 → ∀ QV : VK, (∀ A2 G2 v, Ext A1 G1 A2 G2 → At A2 v (f d) → QV v G2) → te ((wipe σ vs).set j (some x)) G1 QV)
    (q : ∀ Dl A1 G1 l, Ext A G A1 G1 → G1 Dl = some (.lst l) → A1 Dl = some (.lst l) → AtAll A1 l (ds.map f) → l.length = ds.length → Q (.ref Dl) G1) : tLc (iAny K tl) (gName j) tYes te vs σ G Q := by
  have hl := hd.len
  have e1 : (List.range ds.length).map (fun i => f (ds.getD i .none)) = ds.map f := by
    refine List.ext_getElem? fun i => ?_
    rw [List.getElem?_map, List.getElem?_map]
    by_cases h : i < ds.length
    · rw [List.getElem?_range h, Option.map_some, List.getD_eq_getElem?_getD, List.getElem?_eq_getElem h]
      rfl
    · rw [List.getElem?_eq_none (by simpa using h), List.getElem?_eq_none (by omega)]
      rfl
  refine ha _ (.inl ⟨a, xs, rfl, hx, fun Dl nD => ?_⟩)
  refine lc_list (xs := xs) (Cw A G Dl fun i => f (ds.getD i .none)) (cw_start sa nD) (fun i H' hi p => ?_) (fun i x H' hi p => ?_) (fun H' p => ?_)
  · obtain ⟨_, _, _, x, _⟩ := p
    exact x.gg.seq hx
  · have hlt := (List.getElem?_eq_some_iff.mp hi).1
    obtain ⟨d, hd1, hd2⟩ := hd.get hi
    refine ⟨hw _, cw_turn p (by omega) fun A1 G1 y QV k => he x d A1 G1 (List.mem_of_getElem? hd1) (hd2.same y.aa) y QV fun A2 G2 v z hv => k A2 G2 v z ?_⟩
    rw [List.getD_eq_getElem?_getD, hd1]
    exact hv
  · rw [hl] at p
    obtain ⟨A1, y, _, l, e, ea, al, ll⟩ := cw_end p sa (by omega)
    rw [e1] at al
    exact q Dl A1 H' l y e ea al ll
/-- [te for j in a tuple] -/
theorem c_tupD {ds : List PyData} (sa : Same A G) (ha : ∀ R : VK, R (.ref a) G → tl σ G R) (hx : SqT K G a xs) (hd : AtAll A xs ds) (hn : xs.length ≤ 10000) (f : PyData → PyData) (hw : ∀ x, wipe ((wipe σ vs).set j (some x)) vs = wipe σ vs)
    (he : ∀ x d A1 G1, d ∈ ds → At A1 x d → Ext A G A1 G1 → ∀ QV : VK, (∀ A2 G2 v, Ext A1 G1 A2 G2 → At A2 v (f d) → QV v G2) → te ((wipe σ vs).set j (some x)) G1 QV)
    (q : ∀ Dl A1 G1 l, Ext A G A1 G1 → G1 Dl = some (.lst l) → A1 Dl = some (.lst l) → AtAll A1 l (ds.map f) → l.length = ds.length → Q (.ref Dl) G1) : tLc (iAny K tl) (gName j) tYes te vs σ G Q := by
  have hl := hd.len
  have e1 : (List.range ds.length).map (fun i => f (ds.getD i .none)) = ds.map f := by
    refine List.ext_getElem? fun i => ?_
    rw [List.getElem?_map, List.getElem?_map]
    by_cases h : i < ds.length
    · rw [List.getElem?_range h, Option.map_some, List.getD_eq_getElem?_getD, List.getElem?_eq_getElem h]
      rfl
    · rw [List.getElem?_eq_none (by simpa using h), List.getElem?_eq_none (by omega)]
      rfl
  refine ha _ (.inr (.inl ⟨a, xs, rfl, hx, fun Dl nD => ?_⟩))
  refine lc_tup (xs := xs) (Cw A G Dl fun i => f (ds.getD i .none)) (cw_start sa nD) (fun i H' hi p => ?_) (fun i x H' hi p => ?_) (fun H' p => ?_)
  · obtain ⟨_, _, _, x, _⟩ := p
    exact Same.tup x.gg hx
  · have hlt := (List.getElem?_eq_some_iff.mp hi).1
    obtain ⟨d, hd1, hd2⟩ := hd.get hi
    refine ⟨hw _, cw_turn p (by omega) fun A1 G1 y QV k => he x d A1 G1 (List.mem_of_getElem? hd1) (hd2.same y.aa) y QV fun A2 G2 v z hv => k A2 G2 v z ?_⟩
    rw [List.getD_eq_getElem?_getD, hd1]
    exact hv
  · rw [hl] at p
    obtain ⟨A1, y, _, l, e, ea, al, ll⟩ := cw_end p sa (by omega)
    rw [e1] at al
    exact q Dl A1 H' l y e ea al ll
end
section
variable {X : Cx} (K : PySem.W.Frag) {e o value : Expr} {es : List Expr} {te to tv : TE} {ta : TA} {f : Str} {p pos apos cpos tpos pos' : PySem.Pos}
theorem peFld (he : PE X e te) (h : X.K = K := by rfl) (hb : attributeBase e f X.env (eval e X.env) = eval e X.env := by rfl) : PE X (.Attribute e f pos) (tFld K te f) := h ▸ pe_fld he hb
theorem psFld (ho : PE X o to) (hv : PE X value tv) (h : X.K = K := by rfl) (hs : swapsWith value (some (.Attribute o f pos')) pos.line X.env = pure false := by rfl) : PS X (.Assign [.Attribute o f pos'] value pos) (sFld K to tv f) := h ▸ ps_fld ho hv hs
theorem psFldAug {op : Operator} {rd : V → V → Hp → VK → Prop} (ho : PE X o to) (hv : PE X value tv) (hop : InOp X op rd) (h : X.K = K := by rfl) : PS X (.AugAssign (.Attribute o f tpos) op value pos) (sFldAug K to tv rd f) := h ▸ ps_fldaug ho hv hop
def rSplit : V → List V → Hp → VK → Prop := fun x xs H Q => ∃ a b, x = .str a ∧ xs = [.str b] ∧ (b.length == 0) = false ∧ a.length + 2 ≤ sizeLine ∧ rNewStrs (Txt.split a b) H Q
def tSpl (K : PySem.W.Frag) (to : TE) (t : TA) : TE := tBM K "str" rSplit to t
theorem peSplit (ho : PE X o to) (ha : PA X (e :: es) ta) (h : X.K = K := by rfl) (hbase : attributeBase o "split" X.env (eval o X.env) = eval o X.env := by rfl)
    (hfew : ((backTo cpos (starEach (e :: es) X.env)).all (fun x => !x.1) && (backToKw cpos (keywordEach [] X.env)).all (fun x => x.1.isSome)
      && decide ((e :: es).length + ([] : List Keyword).length + (if ([] : List Keyword).isEmpty then 0 else 1) < 30)) = true := by rfl)
    (hline : (apos.endLine == cpos.line) = true := by rfl) (hs : starEach (e :: es) X.env = (false, eval e X.env) :: starEach es X.env := by rfl) (hplain : (backTo cpos (starEach es X.env)).any (·.1) = false := by rfl) :
    PE X (.Call (.Attribute o "split" apos) (e :: es) [] cpos) (tSpl K to ta) := h ▸ pe_bm PySem.F.plainAttrs_str PySem.F.slot_str_split PySem.F.type_str_split mt_split ho ha hbase hfew hline hs hplain
theorem cIsiT (h : X.K = K := by rfl) : CallR X (.builtin "isinstance") (rIsiT K) := h ▸ call_isiT
end
section
variable {K : PySem.W.Frag} {σ : L2.St} {H : Hp} {Q : VK} {Qs : L2.St → Hp → Prop} {D : Ends} {te to tv : TE} {ta : TA} {a C dx : Addr} {fs : List (Str × V)} {f m : Str} {v y : V} {xs : List V} {sp : Sp} {dvs : List V} {E : XK} {z w : Int}
theorem i_fld {P : V → Prop} (h : H a = some (.ins C dx fs)) (c : Cls K C) (n : NoAttr K C f) (l : fs.lookup f = some v) (q : P v) : ∃ a' C dx fs v, V.ref a = .ref a' ∧ H a' = some (.ins C dx fs) ∧ Cls K C ∧ NoAttr K C f ∧ fs.lookup f = some v ∧ P v :=
  ⟨a, C, dx, fs, v, rfl, h, c, n, l, q⟩
theorem i_tfld (q : te σ H fun x H1 => ∃ a C dx fs v, x = .ref a ∧ H1 a = some (.ins C dx fs) ∧ Cls K C ∧ NoAttr K C f ∧ fs.lookup f = some v ∧ Q v H1) : tFld K te f σ H Q := q
theorem i_sfld (q : tv σ H fun y H1 => to σ H1 fun x H2 => ∃ a C dx fs, x = .ref a ∧ H2 a = some (.ins C dx fs) ∧ Cls K C ∧ NoAttr K C f ∧ fs.length < 1000 ∧ D.nx σ (upd H2 a (.ins C dx (putF f y fs)))) : sFld K to tv f D σ H := q
theorem i_put {P : Addr → Addr → Addr → List (Str × V) → Prop} (h : H a = some (.ins C dx fs)) (c : Cls K C) (n : NoAttr K C f) (l : fs.length < 1000) (q : P a C dx fs) :
    ∃ a' C dx fs, V.ref a = .ref a' ∧ H a' = some (.ins C dx fs) ∧ Cls K C ∧ NoAttr K C f ∧ fs.length < 1000 ∧ P a' C dx fs := ⟨a, C, dx, fs, rfl, h, c, n, l, q⟩
theorem i_meth (q : to σ H fun x H1 => ∃ a dx fs, x = .ref a ∧ H1 a = some (.ins C dx fs) ∧ fs.lookup m = none ∧ ta σ H1 fun vs H2 => sp (x :: (vs ++ dvs)) H2 Q E) : tMeth C m sp dvs E to ta σ H Q := q
theorem i_self {P : Prop} (h : H a = some (.ins C dx fs)) (l : fs.lookup m = none) (q : P) : ∃ a' dx fs, V.ref a = .ref a' ∧ H a' = some (.ins C dx fs) ∧ fs.lookup m = none ∧ P := ⟨a, dx, fs, rfl, h, l, q⟩
theorem i_make (q : ta σ H fun vs H1 => ∀ x dx, H1 x = none → H1 dx = none → dx ≠ x → sp (.ref x :: (vs ++ dvs)) (upd (upd H1 dx (.own x)) x (.ins C dx [])) (fun v H2 => v = .non ∧ Q (.ref x) H2) E) : tMake C sp dvs E ta σ H Q := q
theorem i_spl (q : to σ H fun x H1 => tyV K "str" x H1 ∧ ta σ H1 fun xs H2 => rSplit x xs H2 Q) : tSpl K to ta σ H Q := q
/-- the kind of a datum -/
def kindD : PyData → String
  | .none => "NoneType" | .bool _ => "bool" | .int _ => "int" | .str _ => "str" | .list _ => "list" | .tuple _ => "tuple" | .dict _ => "dict"
theorem At.ty {d : PyData} (K : PySem.W.Frag) (h : At H v d) : TyX K H v (.type (kindD d)) := by
  cases h with
  | non => exact .base .non
  | bl b => exact .base (.bl b)
  | int i => exact .base (.int i)
  | str l _ => exact .base (.str _)
  | lst e _ _ => exact .base (.lst e)
  | tup e _ _ => exact .base (.tup e)
  | dct e => exact .base (.dK e)
theorem i_isiD {d : PyData} {t : String} {b : Bool} (h : At H v d) (e : PySem.W.kitOne K (.type (kindD d)) (.type t) = some b) (q : Q (.bl b) H) : rIsi K [v, .ty t] H Q := ⟨_, _, _, _, b, rfl, .ty _, h.ty K, e, q⟩
theorem i_isiT2 {d : PyData} {t u : String} {b : Bool} {tp : Addr} (h : At H v d) (ht : H tp = some (.tup [.ty t, .ty u])) (e : PySem.W.kitAny K (.type (kindD d)) [.type t, .type u] = some b) (q : Q (.bl b) H) : rIsiT K [v, .ref tp] H Q :=
  ⟨v, tp, _, _, _, b, rfl, ht, .cons (.ty _) (.cons (.ty _) .nil), h.ty K, e, q⟩
end
theorem OK.never {P : Program} {w : World} {K : PySem.W.Frag} {mg : Str → Option Value} {base : Heap} {CX : CXT} {k : Nat} {x : Str} {st : Stmt} {ps : List Str} {dvs : List V} (D : DefD K mg x st ps dvs) : OK P w K mg base CX k x ps fun _ _ _ _ => False := by
  obtain ⟨f, fd, F, hm, hb, _⟩ := D
  exact ⟨f, fd, ⟨fun _ _ _ _ h => h.elim, fun _ _ _ _ _ _ _ _ _ _ _ _ _ h => h.elim⟩, hm, F.kp, hb⟩
theorem OK.never0 {P : Program} {w : World} {K : PySem.W.Frag} {mg : Str → Option Value} {base : Heap} {CX : CXT} {k : Nat} {x : Str} {st : Stmt} {ps : List Str} (D : DefIn K mg x st ps) : OK P w K mg base CX k x ps fun _ _ _ _ => False := by
  obtain ⟨f, fd, F, hm, hb⟩ := D
  exact ⟨f, fd, ⟨fun _ _ _ _ h => h.elim, fun _ _ _ _ _ _ _ _ _ _ _ _ _ h => h.elim⟩, hm, F.kp, hb⟩
theorem depth_mem : ∀ {ds : List PyData} {d : PyData}, d ∈ ds → d.depth ≤ PyData.depthAll ds
  | e :: r, d, h => by
    show d.depth ≤ max e.depth (PyData.depthAll r)
    rcases List.mem_cons.mp h with rfl | h
    · exact Nat.le_max_left _ _
    · exact Nat.le_trans (depth_mem h) (Nat.le_max_right _ _)
/-- lists as tuples, at all depths -/
def deepD : PyData → PyData
  | .list ds => .tuple (deepDs ds)
  | .tuple ds => .tuple (deepDs ds)
  | d => d
where deepDs : List PyData → List PyData
  | [] => []
  | d :: r => deepD d :: deepDs r
theorem deepDs_map : ∀ ds : List PyData, deepD.deepDs ds = ds.map deepD
  | [] => rfl
  | d :: r => by rw [List.map_cons, ← deepDs_map r]; rfl
def isSeqD : PyData → Bool
  | .list _ => true | .tuple _ => true | _ => false
def isTupD : PyData → Bool
  | .tuple _ => true | _ => false
def isStrD : PyData → Bool
  | .str _ => true | _ => false
def isIntD : PyData → Bool
  | .int _ => true | .bool _ => true | _ => false
def isBoolD : PyData → Bool
  | .bool _ => true | _ => false
section
variable {K : PySem.W.Frag} {H : Hp} {Q : VK} {v : V} {d : PyData} {tp : Addr}
theorem i_isiSeq (b : Bool) (h : At H v d) (ht : H tp = some (.tup [.ty "list", .ty "tuple"])) (e : isSeqD d = b) (q : Q (.bl b) H) : rIsiT K [v, .ref tp] H Q := by
  subst e
  refine i_isiT2 h ht ?_ q
  cases d <;> simp only [kindD, isSeqD] <;> first
    | exact kitAny_cons (b := true) (kit_ty (by decide +kernel)) (fun z => nomatch z) (fun _ => rfl)
    | exact kitAny_cons (b := false) (kit_ty (by decide +kernel)) (fun _ => kitAny_cons (b := true) (kit_ty (by decide +kernel)) (fun z => nomatch z) (fun _ => rfl)) (fun z => nomatch z)
    | exact kitAny_cons (b := false) (kit_ty (by decide +kernel)) (fun _ => kitAny_cons (b := false) (kit_ty (by decide +kernel)) (fun _ => rfl) (fun z => nomatch z)) (fun z => nomatch z)
theorem i_isiTup (b : Bool) (h : At H v d) (e : isTupD d = b) (q : Q (.bl b) H) : rIsi K [v, .ty "tuple"] H Q := by
  subst e
  refine i_isiD h (kit_ty ?_) q
  cases d <;> (simp only [kindD, isTupD] ; decide +kernel)
theorem i_isiStr (b : Bool) (h : At H v d) (e : isStrD d = b) (q : Q (.bl b) H) : rIsi K [v, .ty "str"] H Q := by
  subst e
  refine i_isiD h (kit_ty ?_) q
  cases d <;> (simp only [kindD, isStrD] ; decide +kernel)
theorem i_isiInt (b : Bool) (h : At H v d) (e : isIntD d = b) (q : Q (.bl b) H) : rIsi K [v, .ty "int"] H Q := by
  subst e
  refine i_isiD h (kit_ty ?_) q
  cases d <;> (simp only [kindD, isIntD] ; decide +kernel)
theorem i_isiBool (b : Bool) (h : At H v d) (e : isBoolD d = b) (q : Q (.bl b) H) : rIsi K [v, .ty "bool"] H Q := by
  subst e
  refine i_isiD h (kit_ty ?_) q
  cases d <;> (simp only [kindD, isBoolD] ; decide +kernel)
theorem At.tupled {ds : List PyData} (h : At H v (.tuple ds)) : ∃ a xs, v = .ref a ∧ H a = some (.tup xs) ∧ xs.length ≤ 10000 ∧ AtAll H xs ds := by
  cases h with
  | tup e l a => exact ⟨_, _, rfl, e, l, a⟩
theorem At.listed {ds : List PyData} (h : At H v (.list ds)) : ∃ a xs, v = .ref a ∧ H a = some (.lst xs) ∧ xs.length ≤ 10000 ∧ AtAll H xs ds := by
  cases h with
  | lst e l a => exact ⟨_, _, rfl, e, l, a⟩
theorem At.strd {x : Str} (h : At H v (.str x)) : v = .str x := by
  cases h; rfl
theorem At.strl {x : Str} (h : At H v (.str x)) : ∃ l : List Nat, v = S l ∧ x = ⟨l.toArray⟩ ∧ l.length ≤ 10000 := by
  cases h with
  | str l hl => exact ⟨l, rfl, rfl, hl⟩
theorem At.intd {i : Int} (h : At H v (.int i)) : v = .int i := by
  cases h; rfl
theorem At.mkTup {a : Addr} {xs : List V} {ds : List PyData} (e : H a = some (.tup xs)) (h : AtAll H xs ds) (l : ds.length ≤ 10000) : At H (.ref a) (.tuple ds) := .tup e (by rw [h.len]; exact l) h
theorem At.mkLst {a : Addr} {xs : List V} {ds : List PyData} (e : H a = some (.lst xs)) (h : AtAll H xs ds) (l : ds.length ≤ 10000) : At H (.ref a) (.list ds) := .lst e (by rw [h.len]; exact l) h
end
section
variable {K : PySem.W.Frag} {σ : L2.St} {H : Hp} {D : Ends} {te : TE} {tb : TS} {g : TG} {a : Addr} {xs : List V} {z : List Nat}
theorem i_forS {A B : Prop} (Pv : Nat → L2.St → Hp → Prop) (h0 : Pv 0 σ H)
    (hs : ∀ i c σ' H', z[i]? = some c → Pv i σ' H' → g (S [c]) σ' H' fun σ2 H2 => tb { D with nx := Pv (i + 1), ct := Pv (i + 1), bk := D.nx } σ2 H2) (hd : ∀ σ' H', Pv z.length σ' H' → D.nx σ' H') :
    A ∨ B ∨ ∃ z', S z = .str z' ∧ LoopG g tb D σ (Its z') H := by
  have e : (⟨z.toArray⟩ : Str).cps.size = z.length := str_len z
  refine .inr (.inr ⟨_, rfl, for_it walk_str Pv h0 (fun _ _ _ _ _ => True.intro) (fun i x σ' H' H2 hi p y => ?_) (by rw [e]; exact hd)⟩)
  obtain ⟨rfl, c, hc, rfl⟩ := y
  exact hs i c σ' _ (by simpa using hc) p
end
section
variable {σ : L2.St} {H : Hp} {Q : VK} {E : XK} {tl : TA} {x y z u : V} {p1 : P1} {p2 : P2} {p3 : P3} {p4 : P4}
theorem i_callD {sp : Sp} {dvs : List V} (q : tl σ H fun vs H1 => sp (vs ++ dvs) H1 Q E) : tCall sp dvs E tl σ H Q := q
theorem i_spD2 (q : p2 x y H Q E) : sp2 p2 ([x] ++ [y]) H Q E := ⟨x, y, rfl, q⟩
theorem i_spM1 (q : p1 x H Q E) : sp1 p1 (x :: ([] ++ [])) H Q E := ⟨x, rfl, q⟩
theorem i_spM2 (q : p2 x y H Q E) : sp2 p2 (x :: ([y] ++ [])) H Q E := ⟨x, y, rfl, q⟩
theorem i_spM3 (q : p3 x y z H Q E) : sp3 p3 (x :: ([y, z] ++ [])) H Q E := ⟨x, y, z, rfl, q⟩
theorem i_spM4 (q : p4 x y z u H Q E) : sp4 p4 (x :: ([y, z, u] ++ [])) H Q E := ⟨x, y, z, u, rfl, q⟩
theorem i_spM3d (q : p3 x y z H Q E) : sp3 p3 (x :: ([y] ++ [z])) H Q E := ⟨x, y, z, rfl, q⟩
end
end Fg
namespace Fg
open PySem PySem.Spec PyProof.Rows L2
section
variable {X : Cx} {pins : List (Addr × Obj)} {σ : L2.St} {H : Hp} {s : Shared}
end
def rStrP : RC := orC (fun xs H Q => ∃ i : Int, xs = [.int i] ∧ i.natAbs.log2 < 1920 ∧ Q (.str (toString i)) H) fun xs H Q => ∃ a, xs = [.str a] ∧ Q (.str a) H
theorem call_strP {X : Cx} : CallR X (.type "str") rStrP := orC_call call_str_int SkE.call_str_str
end Fg
namespace Fg
open PySem PySem.Spec PyProof.Rows L2
theorem FnGOk.mk {P : Program} {w : World} {K : PySem.W.Frag} {mg : Str → Option Value} {base : Heap} {x : Str} {st : Stmt} {N ps : List Str} {k : Nat} {sp : Sp} {f : Addr} {fd : FuncData} (F : Fun K x x st f fd) (S : FnScope N ps (defScope st)) (len : ∀ vs H Q E, sp vs H Q E → vs.length = ps.length)
    (body : ∀ (cdv : Value) (A : Around) (outer : List Env) (s : Shared) (H : Hp) (vs : List V) (Q : VK) (E : XK), A.guards = some [] → Room k (A.deeper (envOfC x (defScope st) s.heap.objs.size f cdv)) → sp vs H Q E →
      ∃ t, PSs (cxOf CX0 P w K mg base N x (defScope st) f cdv A outer s H E).nox (defBody st) t ∧ t { nx := fun _ H' => Q .non H', rt := Q } (start N vs) H) : GOk P w K mg base CX0 (k + 1) f fd ps sp :=
  gok_mk F S len fun cdv A outer s H vs Q E hg hr h => let ⟨t, z, e⟩ := body cdv A outer s H vs Q E hg hr h; ⟨t, z.nox, e⟩
end Fg
namespace Fg
open PySem PySem.Spec PyProof.Rows L2
structure Rp (m : Nat) (d : PyData) : Prop where
  sh : d.showable = true
  lv : d.leavesShort 400 = true
  bk : d.bulk ≤ m
theorem Rp.fits {m : Nat} {d : PyData} (h : Rp m d) (hm : m ≤ 20000) : d.shown.length ≤ sizeLine := by
  have h1 := PyData.shown_le_bulk 400 (by decide) d h.lv
  have h2 : (400 + 2) * d.bulk ≤ 402 * 20000 := Nat.mul_le_mul_left _ (Nat.le_trans h.bk hm)
  have h3 : 402 * 20000 + 400 ≤ sizeLine := by decide
  omega
theorem Rp.mono {m n : Nat} {d : PyData} (h : Rp m d) (k : m ≤ n) : Rp n d := ⟨h.sh, h.lv, Nat.le_trans h.bk k⟩
theorem rp_all {m : Nat} : ∀ {ds : List PyData}, (∀ d ∈ ds, Rp m d) → PyData.showableAll ds = true ∧ PyData.leavesShortAll 400 ds = true ∧ PyData.bulkAll ds ≤ (m + 1) * ds.length
  | [], _ => ⟨rfl, rfl, by simp only [PyData.bulkAll]; exact Nat.zero_le _⟩
  | d :: r, h => by
    have h1 := h d (List.mem_cons_self ..)
    obtain ⟨a, b, c⟩ := rp_all (ds := r) fun x hx => h x (List.mem_cons_of_mem _ hx)
    refine ⟨?_, ?_, ?_⟩
    · simp only [PyData.showableAll, h1.sh, a, Bool.and_self]
    · simp only [PyData.leavesShortAll, h1.lv, b, Bool.and_self]
    · have := h1.bk
      simp only [PyData.bulkAll, List.length_cons, Nat.mul_add, Nat.mul_one]
      omega
theorem Rp.list {m : Nat} {ds : List PyData} (h : ∀ d ∈ ds, Rp m d) : Rp ((m + 1) * ds.length) (.list ds) := by
  obtain ⟨a, b, c⟩ := rp_all h
  exact ⟨by simp only [PyData.showable]; exact a, by simp only [PyData.leavesShort]; exact b, by simp only [PyData.bulk]; exact c⟩
theorem Rp.tuple {m : Nat} {ds : List PyData} (h : ∀ d ∈ ds, Rp m d) : Rp ((m + 1) * ds.length) (.tuple ds) := by
  obtain ⟨a, b, c⟩ := rp_all h
  exact ⟨by simp only [PyData.showable]; exact a, by simp only [PyData.leavesShort]; exact b, by simp only [PyData.bulk]; exact c⟩
theorem Rp.str {m : Nat} {l : List Nat} (h : l.length ≤ m) (hc : ∀ c ∈ l, c < 16 ^ 8) : Rp m (dS l) := by
  refine ⟨by simp only [PyData.showable], ?_, ?_⟩
  · simp only [PyData.leavesShort, List.all_eq_true, decide_eq_true_eq]
    intro c hm
    exact hc c (by simpa using hm)
  · simp only [PyData.bulk]
    have : (⟨l.toArray⟩ : Str).cps.size = l.length := by simp
    omega
theorem Rp.non {m : Nat} : Rp m .none := ⟨rfl, rfl, Nat.zero_le _⟩
theorem Rp.bool {m : Nat} (b : Bool) : Rp m (.bool b) := ⟨rfl, rfl, Nat.zero_le _⟩
theorem Rp.int {m : Nat} {i : Int} (h : i.natAbs < 10 ^ 40) : Rp m (.int i) := by
  refine ⟨?_, ?_, Nat.zero_le _⟩
  · simp only [PyData.showable]
    refine decide_eq_true ?_
    rcases Nat.eq_zero_or_pos i.natAbs with z | z
    · rw [z]; decide
    · refine (Nat.log2_lt (by omega)).mpr (Nat.lt_trans h ?_)
      exact (by decide +kernel : 10 ^ 40 < 2 ^ 1920)
  · have := int_text_length_le10 (a := i) (k := 40) (by decide) h
    simp only [PyData.leavesShort]
    refine decide_eq_true ?_
    show (PyData.shown (.int i)).length ≤ 400
    have e : (PyData.shown (.int i)).length = (toString i).length := by
      show (Str.ofString (toString i)).length = _
      rw [PySem.ofString_length]
    omega
/-- repr of any value that is data -/
def rReprA (K : PySem.W.Frag) : RC := fun xs H Q => ∃ (v : V) (d : PyData), xs = [v] ∧ Dp K H v d ∧ d.showable = true ∧ d.hasDict = false ∧ d.depth ≤ 60 ∧ d.shown.length ≤ sizeLine ∧ Q (.str d.shown) H
theorem cReprA (K : PySem.W.Frag) {X : Cx} (hgu : X.A.guards = some []) (hu : X.A.units + 64 < cLine) (hK : X.K = K := by rfl) : CallR X (.builtin "repr") (rReprA K) := by
  subst hK
  intro pins s σ H xs us Q I r h
  obtain ⟨v, d, rfl, hd, h1, h2, h3, h4, q⟩ := h
  cases r with
  | cons ru rn =>
    cases rn
    cases v with
    | ref a =>
      cases (show _ = Value.ref a from ru)
      obtain ⟨as, rd⟩ := Dp.reads I d (.ref a) (.ref a) hd rfl
      exact repr_of_reads' rd h1 (PyData.noDict_hsm h2) hgu (by omega) (fun b o e => e)
        (fun h' u tk hk => ⟨.str d.shown, H, I.kept (t' := tk) hk, ⟨u, rfl⟩, q⟩) h4
    | non =>
      cases hd
      cases (show _ = Value.none from ru)
      exact PySem.P.repr_of_none ⟨.str (PyData.shown .none), H, I.tok (s.toks + 1), ⟨_, rfl⟩, q⟩
    | bl b =>
      cases hd
      cases (show _ = Value.bool b from ru)
      exact PySem.P.repr_of_bool ⟨.str (PyData.shown (.bool b)), H, I.tok (s.toks + 1), ⟨_, rfl⟩, q⟩
    | int i =>
      cases hd
      obtain ⟨t, rfl⟩ := (show ∃ t, _ = Value.int i t from ru)
      exact PySem.P.repr_of_int (of_decide_eq_true (by simpa only [PyData.showable] using h1)) ⟨.str (PyData.shown (.int i)), H, I.tok (s.toks + 1), ⟨_, rfl⟩, q⟩
    | str x =>
      cases hd
      obtain ⟨t, rfl⟩ := (show ∃ t, _ = Value.str x t from ru)
      exact PySem.P.repr_of_str ⟨.str (PyData.shown (.str x)), H, I.tok (s.toks + 1), ⟨_, rfl⟩, q⟩ h4
    | _ => cases hd
section
variable {K : PySem.W.Frag} {H : Hp} {Q : VK} {v : V} {d : PyData} {m : Nat}
theorem i_reprA (h : At H v d) (r : Rp m d) (hm : m ≤ 20000) (nd : d.hasDict = false) (dp : d.depth ≤ 60) (q : Q (.str d.shown) H) : rReprA K [v] H Q := ⟨v, d, rfl, h.dp K d v nd, r.sh, nd, dp, r.fits hm, q⟩
end
end Fg
namespace Fg
open PySem PySem.Spec PyProof.Rows L2
/-- a special method that stands in the text, with its promise -/
def DOK (P : Program) (w : World) (K : PySem.W.Frag) (mg : Str → Option Value) (base : Heap) (CX : CXT) (k : Nat) (C : Addr) (m : Str) (ps : List Str) (sp : Sp) : Prop :=
  ∃ (f : Addr) (fd : FuncData), Meth K C m f ∧ PySem.W.fnIn K f = true ∧ FnOk P w K mg base CX k f fd ps sp ∧ Binds K fd ps []
section
variable {P : Program} {w : World} {K : PySem.W.Frag} {mg : Str → Option Value} {base : Heap} {q m : Str} {st : Stmt} {N ps : List Str} {k : Nat} {sp : Sp} {C : Addr}
theorem FunD.fnIn {x q : Str} {ag : Arguments} {bd : List Stmt} {sc : Scope} {dvs : List V} {kws : List (Str × V)} {f : Addr} {fd : FuncData} (F : FunD K x q ag bd sc dvs kws f fd) : PySem.W.fnIn K f = true := by
  obtain ⟨⟨_, _, _, _, _, _, _, _, _, _, e, h, _⟩, _⟩ := F
  unfold PySem.W.fnIn
  rw [h, e]
theorem DOK.mk (D : MetIn K C m q st ps []) (S : FnScope N ps (defScope st)) (len : ∀ vs H Q E, sp vs H Q E → vs.length = ps.length)
    (body : ∀ (f : Addr) (cdv : Value) (A : Around) (outer : List Env) (s : Shared) (H : Hp) (vs : List V) (Q : VK) (E : XK), Room k (A.deeper (envOfC q (defScope st) s.heap.objs.size f cdv)) → sp vs H Q E →
      ∃ t, PSs (cxOf CX0 P w K mg base N q (defScope st) f cdv A outer s H E).nox (defBody st) t ∧ t { nx := fun _ H' => Q .non H', rt := Q } (start N vs) H) : DOK P w K mg base CX0 (k + 1) C m ps sp := by
  obtain ⟨f, fd, hm, F, hb, _⟩ := D
  exact ⟨f, fd, hm, FunD.fnIn F, FunD.ok0 F S len fun cdv A outer s H vs Q E hr h => body f cdv A outer s H vs Q E hr h, hb⟩
theorem DOK.mkX (D : MetIn K C m q st ps []) (S : FnScope N ps (defScope st)) (len : ∀ vs H Q E, sp vs H Q E → vs.length = ps.length)
    (body : ∀ (f : Addr) (cdv : Value) (A : Around) (outer : List Env) (s : Shared) (H : Hp) (vs : List V) (Q : VK) (E : XK), Room k (A.deeper (envOfC q (defScope st) s.heap.objs.size f cdv)) → sp vs H Q E →
      ∃ t, PSs (cxOf (L2.CX P w) P w K mg base N q (defScope st) f cdv A outer s H E) (defBody st) t ∧ t { nx := fun _ H' => Q .non H', rt := Q } (start N vs) H) : DOK P w K mg base (L2.CX P w) (k + 1) C m ps sp := by
  obtain ⟨f, fd, hm, F, hb, _⟩ := D
  exact ⟨f, fd, hm, FunD.fnIn F, F.ok S len fun cdv A outer s H vs Q E hr h => body f cdv A outer s H vs Q E hr h, hb⟩
end
section
variable {X : Cx} {CX : CXT} {k : Nat} {f C a : Addr} {fd : FuncData} {ps : List Str} {sp : Sp} {E : XK} {pins : List (Addr × Obj)} {σ : L2.St} {H : Hp} {s : Shared}
end
end Fg
namespace Fg
open PySem PySem.Spec PyProof.Rows L2
abbrev tItO (t : Addr) : Obj := { cls := .type "tuple_iterator", data := .fields #[.ref t, .int 0 0] }
/-- the iterator, at its beginning -/
def TiO (it t : Addr) : HO := .ext fun h => h.get? it = some (tItO t)
/-- a def whose promise speaks of the age of what it makes: n is the heap's size at the call -/
structure NOk (P : Program) (w : World) (K : PySem.W.Frag) (mg : Str → Option Value) (base : Heap) (CX : CXT) (k : Nat) (f : Addr) (fd : FuncData) (ps : List Str) (sp : Nat → Sp) : Prop where
  many : ∀ n vs H Q E, sp n vs H Q E → vs.length = ps.length
  runs : ∀ (B : Around) (o : List Env) (t : Shared) (H : Hp) (ar : Args) (us : List Value) (vs : List V) (Q : VK) (E : XK),
    Room k B → Env0 P w K mg base B o t H → BindsTo t fd ar (ps.zip us) → Vals vs us →
    sp t.heap.objs.size vs H Q E → codeAny (model P w) B (.call (.ref f) ar) (CR CX o P w H t Q E) t
section
variable {P : Program} {w : World} {K : PySem.W.Frag} {mg : Str → Option Value} {base : Heap} {CX : CXT} {k : Nat} {f : Addr} {fd : FuncData} {ps N : List Str} {sp : Nat → Sp} {x q : Str} {st : Stmt} {dvs : List V} {kws : List (Str × V)}
theorem nok_mk (F : FunD K x q (defArgs st) (defBody st) (defScope st) dvs kws f fd) (S : FnScope N ps (defScope st)) (many : ∀ n vs H Q E, sp n vs H Q E → vs.length = ps.length)
    (body : ∀ (cv : Value) (B : Around) (o : List Env) (t : Shared) (H : Hp) (vs : List V) (Q : VK) (E : XK),
      Room k (B.deeper (envOfC q (defScope st) t.heap.objs.size f cv)) → sp t.heap.objs.size vs H Q E →
      ∃ rd, PSs (cxOf CX P w K mg base N q (defScope st) f cv B o t H E) (defBody st) rd ∧
        rd { nx := fun _ H2 => Q .non H2, rt := Q } (start N vs) H) : NOk P w K mg base CX (k + 1) f fd ps sp := by
  obtain ⟨c1, d1, kw1, dc1, pm1, an1, cv1, ct1, sl1, osl1, rfl, at1, code1, _, _⟩ := F.ex
  refine ⟨many, fun B o t H ar us vs Q E room en bd rv asked => ?_⟩
  have inK : K.In t.heap := en.mod.kin.keeps fun b u e => (en.bs b u e).1
  have nolim : t.heap.NoLimit := en.mod.nolimit.keeps fun b u e => (en.bs b u e).1
  have n1 := many _ _ _ _ _ asked
  refine codeAny_call_function room.depth (inK _ _ at1) rfl S.co S.gen rfl
    (PySem.W.codeRec_of inK code1) (bd _ _ _ _ ?_)
  refine wpAny_newFunctionEnv_cells S.kind (fun ⟨nm, u⟩ hm => ?_) fun env he t1 made => ?_
  · exact (S.par nm (List.of_mem_zip hm).1).elim .inl fun z => .inr ⟨z, PySem.W.cellsFrom_some _ _ _ (.inl z)⟩
  subst he
  obtain ⟨rd, walked, holds⟩ := body ct1 B o t H vs Q E (room.deeper _) asked
  have I0 := inv_start (CX := CX) (E := E) S room.hd en n1 rv made
  refine ⟨nolim.keeps made.toInCall.keep, codeAny_func (wpAny_mono (walked.run [] t1 (start N vs) H _ I0 holds) (fun fl t2 h2 => ?_) fun _ _ h2 => h2)⟩
  cases fl with
  | brk => obtain ⟨_, _, _, z⟩ := h2; exact z.elim
  | cont => obtain ⟨_, _, _, z⟩ := h2; exact z.elim
  | next =>
    obtain ⟨_, H2, J, z⟩ := h2
    exact ⟨.non, H2, J.os, J.bare, J.base, J.hok, rfl, z⟩
  | ret u =>
    obtain ⟨v, _, H2, J, rv2, z⟩ := h2
    exact ⟨v, H2, J.os, J.bare, J.base, J.hok, rv2, z⟩
end
/-- __iter__ of the class at C: an iterator over the tuple in the field fl -/
def spIt (K : PySem.W.Frag) (C : Addr) (fl : Str) (n : Nat) : Sp := sp1 fun x H Q _ => ∃ a dx fs t zs, x = .ref a ∧ H a = some (.ins C dx fs) ∧ fs.lookup fl = some (.ref t) ∧ SqT K H t zs ∧ ∀ it, H it = none → n ≤ it → Q (.ref it) (upd H it (TiO it t))
def IOK (P : Program) (w : World) (K : PySem.W.Frag) (mg : Str → Option Value) (base : Heap) (CX : CXT) (k : Nat) (C : Addr) (fl : Str) : Prop :=
  ∃ (f : Addr) (fd : FuncData), Meth K C "__iter__" f ∧ NOk P w K mg base CX k f fd ["self"] (spIt K C fl) ∧ Binds K fd ["self"] []
theorem IOK.mk {P : Program} {w : World} {K : PySem.W.Frag} {mg : Str → Option Value} {base : Heap} {q fl : Str} {st : Stmt} {N : List Str} {k : Nat} {C : Addr} (D : MetIn K C "__iter__" q st ["self"] []) (S : FnScope N ["self"] (defScope st))
    (body : ∀ (f : Addr) (cdv : Value) (A : Around) (outer : List Env) (s : Shared) (H : Hp) (vs : List V) (Q : VK) (E : XK), Room k (A.deeper (envOfC q (defScope st) s.heap.objs.size f cdv)) → spIt K C fl s.heap.objs.size vs H Q E →
      ∃ t, PSs (cxOf CX0 P w K mg base N q (defScope st) f cdv A outer s H E).nox (defBody st) t ∧ t { nx := fun _ H' => Q .non H', rt := Q } (start N vs) H) : IOK P w K mg base CX0 (k + 1) C fl := by
  obtain ⟨f, fd, hm, F, hb, _⟩ := D
  exact ⟨f, fd, hm, nok_mk F S (fun n vs H Q E h => len1 vs H Q E h) fun cv B o t H vs Q E hr h => let ⟨rd, z, e⟩ := body f cv B o t H vs Q E hr h; ⟨rd, z.nox, e⟩, hb⟩
section
variable {X : Cx} {CX : CXT} {k : Nat} {C : Addr} {ps : List Str} {sp : Sp} {E : XK}
end
end Fg
namespace Fg
open PySem PySem.Spec PyProof.Rows L2
section
variable {X : Cx} {CX : CXT} {k : Nat} {f C a : Addr} {fd : FuncData} {x : Str} {ps : List Str} {sp : Sp} {E : XK} {ES : L2.St → XK} {pins : List (Addr × Obj)} {σ : L2.St} {H : Hp} {s : Shared} {dvs : List V} {ds : List Value}
end
structure InsC (K : PySem.W.Frag) (C : Addr) : Prop where
  cl : Cls K C
  ha : PySem.W.findIn K (.ref C) "__class__" = some (some (.builtin "object.__class__"))
  hn : PySem.W.specialIn K (.builtin "object.__class__") "__get__" = some (some (.builtin "getset_descriptor.__get__"))
  ht : PySem.W.takesIn K (.builtin "object.__class__") = some true
  hm : PySem.W.mroIn K C (.type "object") = some true
section
variable {K : PySem.W.Frag} {σ : L2.St} {H : Hp} {Q : VK} {E : XK} {ES : L2.St → XK} {C a dx : Addr} {fs : List (Str × V)} {to te : TE} {ta : TA} {sp : Sp} {c y v : V} {cv : Value} {b : Bool} {d : PyData} {R : It → Hp → Prop}
end
end Fg
namespace Fg
open PySem PySem.Spec PyProof.Rows L2
open L2H (RoomH PinOk cxH inv_startH)
structure FnW (P : Program) (w : World) (K : PySem.W.Frag) (mg : Str → Option Value) (base : Heap) (k : Nat) (f : Addr) (fd : FuncData) (ps : List Str) (sp : Sp) : Prop where
  len : ∀ vs H Q E, sp vs H Q E → vs.length = ps.length
  run : ∀ (A : Around) (outer : List Env) (s : Shared) (H : Hp) (args : Args) (us : List Value) (vs : List V) (Q : VK) (E : XK) (p : Addr × Obj), RoomH k A → PinOk outer H s p → Env0 P w K mg base A outer s H → BindsTo s fd args (ps.zip us) → Vals vs us → sp vs H Q E →
    codeAny (model P w) A (.call (.ref f) args) (CR CX0 outer P w H s Q E) s
section
variable {P : Program} {w : World} {K : PySem.W.Frag} {mg : Str → Option Value} {base : Heap} {N ps : List Str} {k : Nat} {sp : Sp} {x : Str} {st : Stmt}
theorem FnW.mk' {f : Addr} {fd : FuncData} (F : Fun K x x st f fd) (S : FnScope N ps (defScope st)) (len : ∀ vs H Q E, sp vs H Q E → vs.length = ps.length)
    (hb : ∀ (cdv : Value) (A : Around) (outer : List Env) (s : Shared) (H : Hp) (vs : List V) (Q : VK) (E : XK) (p : Addr × Obj), RoomH k (A.deeper (envOfC x (defScope st) s.heap.objs.size f cdv)) → sp vs H Q E →
      ∃ t, PSs (cxH CX0 P w K mg base N x (defScope st) f cdv A outer s H E p) (defBody st) t ∧ t { nx := fun _ H' => Q .non H', rt := Q } (start N vs) H) : FnW P w K mg base (k + 1) f fd ps sp := by
  obtain ⟨oc, od, kV, doc, pm, an, cdv, ct, osl, rfl, lk, hcd⟩ := F.ex
  refine ⟨len, fun A outer s H args us vs Q E p hr hpin e0 hbd r hsp => ?_⟩
  have KX : K.In s.heap := e0.mod.kin.keeps fun b o e => (e0.bs b o e).1
  have lim : s.heap.NoLimit := e0.mod.nolimit.keeps fun b o e => (e0.bs b o e).1
  have hkind : ∀ y ∈ ps.zip us, (defScope st).names.lookup y.1 = some .local ∨ ((defScope st).names.lookup y.1 = some .cell ∧ ((cellsFrom (s.heap.objs.size + 1) (defScope st).names []).lookup y.1).isSome = true) := fun ⟨n, v⟩ hy => by
    rcases S.par n (List.of_mem_zip hy).1 with q | q
    · exact .inl q
    · exact .inr ⟨q, PySem.W.cellsFrom_some _ _ _ (.inl q)⟩
  refine codeAny_call_function hr.depth (KX _ _ lk) rfl S.co S.gen rfl (PySem.W.codeRec_of KX hcd) (hbd _ _ _ _ ?_)
  refine wpAny_newFunctionEnv_cells S.kind hkind fun env he s1 y => ?_
  subst he
  refine ⟨lim.keeps y.toInCall.keep, codeAny_func ?_⟩
  obtain ⟨t, ht, hq⟩ := hb cdv A outer s H vs Q E p (hr.deeper _) hsp
  refine wpAny_mono (ht.run [] s1 (start N vs) H _ (inv_startH S hpin e0 (len _ _ _ _ hsp) r y) hq) (fun fl s' hs => ?_) fun e s' hs => hs
  cases fl with
  | ret u =>
    obtain ⟨v, σ', H', J, rv, q⟩ := hs
    exact ⟨v, H', J.os, J.bare, J.base, J.hok, rv, q⟩
  | next =>
    obtain ⟨σ', H', J, q⟩ := hs
    exact ⟨.non, H', J.os, J.bare, J.base, J.hok, rfl, q⟩
  | brk => exact hs.elim fun _ h => h.elim fun _ h => h.2.elim
  | cont => exact hs.elim fun _ h => h.elim fun _ h => h.2.elim
/-- a def of the text and its promise, within an except suite -/
def OKW (P : Program) (w : World) (K : PySem.W.Frag) (mg : Str → Option Value) (base : Heap) (k : Nat) (x : Str) (ps : List Str) (sp : Sp) : Prop :=
  ∃ (f : Addr) (fd : FuncData), FnW P w K mg base k f fd ps sp ∧ mg x = some (.ref f) ∧ PySem.W.keepIn K (.ref f) = true ∧ Binds K fd ps []
theorem OKW.mk (D : DefIn K mg x st ps) (S : FnScope N ps (defScope st)) (len : ∀ vs H Q E, sp vs H Q E → vs.length = ps.length)
    (body : ∀ (f : Addr) (cdv : Value) (A : Around) (outer : List Env) (s : Shared) (H : Hp) (vs : List V) (Q : VK) (E : XK) (p : Addr × Obj), RoomH k (A.deeper (envOfC x (defScope st) s.heap.objs.size f cdv)) → sp vs H Q E →
      ∃ t, PSs (cxH CX0 P w K mg base N x (defScope st) f cdv A outer s H E p) (defBody st) t ∧ t { nx := fun _ H' => Q .non H', rt := Q } (start N vs) H) : OKW P w K mg base (k + 1) x ps sp := by
  obtain ⟨f, fd, F, hm, hb⟩ := D
  exact ⟨f, fd, FnW.mk' F S len fun cdv A outer s H vs Q E p hr h => body f cdv A outer s H vs Q E p hr h, hm, F.kp, hb⟩
end
section
variable {X : Cx} {k : Nat} {x : Str} {ps : List Str} {sp : Sp} {e : Expr} {es : List Expr} {ta : TA} {p pos : Pos} {a : Addr} {oe : Obj} {pn : List (Addr × Obj)}
end
end Fg
namespace Fg
open PySem PySem.Spec PyProof.Rows L2
section
variable {X : Cx} {CX : CXT} {k : Nat} {f C a : Addr} {fd : FuncData} {ps : List Str} {sp : Sp} {E : XK} {pins : List (Addr × Obj)} {σ : L2.St} {H : Hp} {s : Shared}
def PropIn (K : PySem.W.Frag) (C : Addr) (m q : Str) (st : Stmt) : Prop :=
  ∃ (p g : Addr) (fd : FuncData), PropOf K C m p g ∧ FunD K m q (defArgs st) (defBody st) (defScope st) [] [] g fd ∧ Binds K fd ["self"] []
def POK (P : Program) (w : World) (K : PySem.W.Frag) (mg : Str → Option Value) (base : Heap) (k : Nat) (C : Addr) (m : Str) (sp : Sp) : Prop :=
  ∃ (p g : Addr) (fd : FuncData), PropOf K C m p g ∧ FnOk P w K mg base CX0 k g fd ["self"] sp ∧ Binds K fd ["self"] []
theorem POK.mk {P : Program} {w : World} {K : PySem.W.Frag} {mg : Str → Option Value} {base : Heap} {q m : Str} {st : Stmt} {N : List Str} {k : Nat} {sp : Sp} {C : Addr} (D : PropIn K C m q st) (S : FnScope N ["self"] (defScope st)) (len : ∀ vs H Q E, sp vs H Q E → vs.length = 1)
    (body : ∀ (f : Addr) (cdv : Value) (A : Around) (outer : List Env) (s : Shared) (H : Hp) (vs : List V) (Q : VK) (E : XK), Room k (A.deeper (envOfC q (defScope st) s.heap.objs.size f cdv)) → sp vs H Q E →
      ∃ t, PSs (cxOf CX0 P w K mg base N q (defScope st) f cdv A outer s H E).nox (defBody st) t ∧ t { nx := fun _ H' => Q .non H', rt := Q } (start N vs) H) : POK P w K mg base (k + 1) C m sp := by
  obtain ⟨p, f, fd, hm, F, hb⟩ := D
  exact ⟨p, f, fd, hm, FunD.ok0 F S len fun cdv A outer s H vs Q E hr h => body f cdv A outer s H vs Q E hr h, hb⟩
section
variable {A1 : Around} {t it q : Addr} {zs : List V} {Rs : Result → Shared → Prop}
end
end
section
variable {K : PySem.W.Frag} {σ : L2.St} {H : Hp} {Q : VK} {E : XK} {C a b dx dy t : Addr} {fs gs : List (Str × V)} {te tf : TE} {ta : TA} {sp : Sp} {y : V} {zs : List V} {fl : Str} {d : PyData}
end
section
variable {X : Cx} {CX : CXT} {k : Nat} {C : Addr} {ps : List Str} {sp : Sp} {ES : L2.St → XK}
end
end Fg
namespace Fg
open PySem PySem.Spec PyProof.Rows L2
abbrev kS (l : List Nat) : Key := .inr ⟨l.toArray⟩
theorem kS_inj {l m : List Nat} : kS l = kS m ↔ l = m := by
  constructor
  · intro h
    exact List.toArray_inj (congrArg PySem.Str.cps (Sum.inr.inj h))
  · rintro rfl; rfl
theorem putK_len {κ : Type} [DecidableEq κ] (kvs : List (κ × V)) (k : κ) (v : V) : (putK kvs k v).length ≤ kvs.length + 1 := by
  unfold putK
  split
  · rw [List.length_map]; omega
  · rw [List.length_append, List.length_singleton]; exact Nat.le_refl _
/-- at a a dict of at most n entries, which answers g -/
def TD (n : Nat) (H : Hp) (a : Addr) (g : List Nat → Option V) : Prop := ∃ kvs : List (Key × V), H a = some (.dK kvs) ∧ kvs.length ≤ n ∧ ∀ l, valV kvs (kS l) = g l
def PD (n : Nat) (H : Hp) (a : Addr) (g : Int → Int → Option V) : Prop := ∃ kvs : List (List Key × V), H a = some (.dT kvs) ∧ kvs.length ≤ n ∧ ∀ i j, valV kvs [.inl i, .inl j] = g i j
def setT (g : List Nat → Option V) (k : List Nat) (v : V) : List Nat → Option V := fun l => if l = k then some v else g l
section
variable {n : Nat} {H H' : Hp} {a b : Addr} {g : List Nat → Option V} {f : Int → Int → Option V} {l : List Nat} {v : V} {Q : VK} {i j : Int}
theorem TD.at (h : TD n H a g) (e : H' a = H a) : TD n H' a g := by
  obtain ⟨kvs, h1, h2⟩ := h
  exact ⟨kvs, e.trans h1, h2⟩
theorem PD.at (h : PD n H a f) (e : H' a = H a) : PD n H' a f := by
  obtain ⟨kvs, h1, h2⟩ := h
  exact ⟨kvs, e.trans h1, h2⟩
theorem TD.mono (h : TD n H a g) (s : Same H H') : TD n H' a g := by
  obtain ⟨kvs, h1, h2⟩ := h
  exact ⟨kvs, s _ _ h1, h2⟩
theorem PD.mono (h : PD n H a f) (s : Same H H') : PD n H' a f := by
  obtain ⟨kvs, h1, h2⟩ := h
  exact ⟨kvs, s _ _ h1, h2⟩
theorem TD.some (h : TD n H a g) : ∃ o, H a = some o := by
  obtain ⟨kvs, h1, h2⟩ := h
  exact ⟨_, h1⟩
theorem PD.some (h : PD n H a f) : ∃ o, H a = some o := by
  obtain ⟨kvs, h1, h2⟩ := h
  exact ⟨_, h1⟩
theorem TD.new : TD 0 (upd H a (.dK [])) a (fun _ => none) := ⟨[], upd_same, Nat.le_refl _, fun _ => rfl⟩
theorem PD.new : PD 0 (upd H a (.dT [])) a (fun _ _ => none) := ⟨[], upd_same, Nat.le_refl _, fun _ _ => rfl⟩
theorem td_get {P : V → Prop} (h : TD n H a g) (e : g l = some v) (q : P v) : ∃ a' v', V.ref a = .ref a' ∧ DGet H a' (S l) (some v') ∧ P v' := by
  obtain ⟨kvs, h1, h2, h3⟩ := h
  refine ⟨a, v, rfl, ?_, q⟩
  have := DGet.k (k := kS l) h1
  rw [h3, e] at this
  exact this
theorem td_ask {P : Option V → Prop} (h : TD n H a g) (q : P (g l)) : ∃ a' o, V.ref a = .ref a' ∧ DGet H a' (S l) o ∧ P o := by
  obtain ⟨kvs, h1, h2, h3⟩ := h
  refine ⟨a, g l, rfl, ?_, q⟩
  have := DGet.k (k := kS l) h1
  rw [h3] at this
  exact this
theorem td_put {P : Hp → Prop} (h : TD n H a g) (hn : n ≤ 100000) (q : ∀ o, TD (n + 1) (upd H a o) a (setT g l v) → P (upd H a o)) : ∃ a' H4, V.ref a = .ref a' ∧ DPut H a' (S l) v H4 ∧ P H4 := by
  obtain ⟨kvs, h1, h2, h3⟩ := h
  refine ⟨a, _, rfl, DPut.k (k := kS l) h1 (by rw [sizeLine_eq]; omega), q _ ⟨_, upd_same, Nat.le_trans (putK_len _ _ _) (by omega), fun m => ?_⟩⟩
  rw [valV_put, h3]
  unfold setT
  by_cases e : m = l
  · rw [if_pos e, if_pos (by rw [e])]
  · rw [if_neg e, if_neg (fun z => e (kS_inj.mp z))]
end
section
variable {σ : L2.St} {H : Hp} {Q : VK} {td ty tv : TE} {D : Ends}
theorem i_dget (q : td σ H fun x H1 => ty σ H1 fun y H2 => ∃ a v, x = .ref a ∧ DGet H2 a y (some v) ∧ Q v H2) : tDGet td ty σ H Q := q
theorem i_din (q : ty σ H fun y H1 => td σ H1 fun x H2 => ∃ a o, x = .ref a ∧ DGet H2 a y o ∧ Q (.bl o.isSome) H2) : tDIn ty td σ H Q := q
theorem i_dnotin (q : ty σ H fun y H1 => td σ H1 fun x H2 => ∃ a o, x = .ref a ∧ DGet H2 a y o ∧ Q (.bl (!o.isSome)) H2) : tDNotIn ty td σ H Q := q
theorem i_dput (q : tv σ H fun v H1 => td σ H1 fun x H2 => ty σ H2 fun y H3 => ∃ a H4, x = .ref a ∧ DPut H3 a y v H4 ∧ D.nx σ H4) : sDPut td ty tv D σ H := q
theorem i_dnewK (q : ∀ p, H p = none → Q (.ref p) (upd H p (.dK []))) : tDNewK σ H Q := q
/-- {l: v}, texts -/
theorem i_disp1 {l : List Nat} {v : V} {tk tv : TE} (hk : ∀ H (R : VK), R (S l) H → tk σ H R) (hv : ∀ H (R : VK), R v H → tv σ H R) (q : ∀ p o, H p = none → TD 1 (upd H p o) p (setT (fun _ => none) l v) → Q (.ref p) (upd H p o)) : tDisp [(tk, tv)] σ H Q := by
  intro p np
  refine hk _ _ (hv _ _ ⟨upd_same, [(kS l, v)], rfl, (by decide : 1 ≤ 15), ?_⟩)
  rw [upd_upd]
  refine q p _ np ⟨_, upd_same, Nat.le_refl 1, fun m => ?_⟩
  show valV (putK [] (kS l) v) (kS m) = _
  rw [valV_put]
  unfold setT
  by_cases e : m = l
  · rw [if_pos e, if_pos (by rw [e])]
  · rw [if_neg e, if_neg (fun z => e (kS_inj.mp z))]
    rfl
end
def tTru (K : PySem.W.Frag) (te : TE) : TT := fun σ H Q => te σ H fun x H' => ∃ k, TruV K x H' k ∧ Q k H'
section
variable {K : PySem.W.Frag} {σ : L2.St} {H : Hp} {te : TE} {a : Addr} {xs : List V} {l : List Nat} {P : Bool → Prop} {Q : Bool → Hp → Prop}
theorem i_tru (q : te σ H fun x H' => ∃ k, TruV K x H' k ∧ Q k H') : tTru K te σ H Q := q
theorem i_truL (h : H a = some (.lst xs)) (q : P (!xs.isEmpty)) : ∃ k, TruV K (.ref a) H k ∧ P k := ⟨_, .inl ⟨xs, .inl (.inl h), rfl⟩, q⟩
theorem i_truL0 (h : H a = some (.lst [])) (q : P false) : ∃ k, TruV K (.ref a) H k ∧ P k := ⟨_, .inl ⟨[], .inl (.inl h), rfl⟩, q⟩
theorem i_truL1 (h : H a = some (.lst xs)) (hne : xs ≠ []) (q : P true) : ∃ k, TruV K (.ref a) H k ∧ P k := ⟨_, .inl ⟨xs, .inl (.inl h), by cases xs with
  | nil => exact absurd rfl hne
  | cons _ _ => rfl⟩, q⟩
end
theorem ptTruth (K : PySem.W.Frag) {X : Cx} {e : Expr} {te : TE} (he : PE X e te) (h1 : ∀ whole, isTrue e X.env whole = (do let v ← whole; standAt e.pos; holding [v] (truthy v))) (h : X.K = K := by rfl) : PT X e (tTru K te) := h ▸ pt_truth he h1
end Fg
namespace Fg
open PySem PySem.Spec PyProof.Rows L2
section
variable {σ : L2.St} {H : Hp} {Q : VK} {td ty : TE} {a : Addr} {n : Nat} {g : List Nat → Option V} {l : List Nat}
end
end Fg
namespace Fg
open PySem PySem.Spec PyProof.Rows L2
section
variable {σ : L2.St} {H : Hp} {Q : VK} {a : Addr} {kvs : List (Key × V)} {l : List Nat} {v : V}
end
end Fg
namespace Fg
open PySem PySem.Spec PyProof.Rows L2
theorem eqV_S (m l : List Nat) : eqV (S m) (S l) = decide (m = l) := by
  show ((⟨m.toArray⟩ : Str) == ⟨l.toArray⟩) = _
  rw [Bool.eq_iff_iff]
  simp
theorem inV_S (l : List Nat) : ∀ ms : List (List Nat), inV (S l) (ms.map S) = decide (l ∈ ms)
  | [] => by simp [inV]
  | m :: r => by
    have ih := inV_S l r
    unfold inV at ih ⊢
    rw [List.map_cons, List.any_cons, ih, eqV_S, Bool.eq_iff_iff, Bool.or_eq_true, decide_eq_true_eq, decide_eq_true_eq, decide_eq_true_eq, List.mem_cons]
    exact ⟨fun h => h.imp_left Eq.symm, fun h => h.imp_left Eq.symm⟩
theorem flat_S : ∀ ms : List (List Nat), (ms.map S).all flatV = true
  | [] => rfl
  | m :: r => by rw [List.map_cons, List.all_cons, flat_S r]; rfl
section
variable {K : PySem.W.Frag} {H : Hp} {Q : VK} {p : Addr} {ms : List (List Nat)} {l : List Nat} {v : V}
end
end Fg
namespace Fg
open PySem PySem.Spec PyProof.Rows L2
section
variable {K : PySem.W.Frag} {σ : L2.St} {A G : Hp} {Q : VK} {te tl : TE} {j : Nat} {p dx t C : Addr} {fs : List (Str × V)} {fl : Str} {xs : List V} {vs : List Nat}
theorem i_ne_same {H : Hp} {x : Str} (q : Q (.bl false) H) : neP K (.str x) (.str x) H Q := by
  show neP K (S x.cps.toList) (S x.cps.toList) H Q
  refine i_ne_str ?_
  rw [decide_eq_true rfl]
  exact q
theorem i_eq_same {H : Hp} {x : Str} (q : Q (.bl true) H) : eqP K (.str x) (.str x) H Q := by
  show eqP K (S x.cps.toList) (S x.cps.toList) H Q
  refine i_eq_str ?_
  rw [decide_eq_true rfl]
  exact q
end
end Fg
namespace Fg
open PySem PySem.Spec PyProof.Rows L2
section
variable {K : PySem.W.Frag} {σ : L2.St} {A G H H' : Hp} {Q : VK} {te tl : TE} {j : Nat} {a : Addr} {xs : List V} {vs : List Nat}
theorem atAll_of : ∀ {l : List V} {ds : List PyData}, l.length = ds.length → (∀ (i : Nat) (v : V) (d : PyData), l[i]? = some v → ds[i]? = some d → At H v d) → AtAll H l ds
  | [], [], _, _ => .nil
  | v :: l, d :: ds, h, k => .cons (k 0 v d rfl rfl) (atAll_of (by simpa using h) fun i v d h1 h2 => k (i + 1) v d h1 h2)
  | [], _ :: _, h, _ => by simp at h
  | _ :: _, [], h, _ => by simp at h
/-- all tuples stay -/
def SmT (H H' : Hp) : Prop := ∀ b xs, H b = some (.tup xs) → H' b = some (.tup xs)
theorem Same.smT (s : Same H H') : SmT H H' := fun b xs e => s _ _ e
theorem SmT.trans {H'' : Hp} (s : SmT H H') (t : SmT H' H'') : SmT H H'' := fun b xs e => t _ _ (s _ _ e)
theorem SmT.put {p : Addr} {xs : List V} {o : HO} (e : H p = some (.lst xs)) : SmT H (upd H p o) := fun b ys h => by
  rw [upd_ne (fun z => by rw [z, e] at h; cases h)]
  exact h
mutual
def noL : PyData → Bool
  | .list _ => false
  | .dict _ => false
  | .tuple ds => noLs ds
  | .none => true
  | .bool _ => true
  | .int _ => true
  | .str _ => true
def noLs : List PyData → Bool
  | [] => true
  | d :: r => noL d && noLs r
end
mutual
theorem At.smT (s : SmT H H') : ∀ (d : PyData) (v : V), At H v d → noL d = true → At H' v d
  | .none, _, h, _ => by cases h; exact .non
  | .bool b, _, h, _ => by cases h; exact .bl b
  | .int i, _, h, _ => by cases h; exact .int i
  | .str x, _, h, _ => by
    cases h with
    | str l hl => exact .str l hl
  | .list ds, _, _, n => by cases n
  | .tuple ds, _, h, n => by
    cases h with
    | tup e l a => exact .tup (s _ _ e) l (AtAll.smT s ds _ a n)
  | .dict kvs, _, _, n => by cases n
theorem AtAll.smT (s : SmT H H') : ∀ (ds : List PyData) (vs : List V), AtAll H vs ds → noLs ds = true → AtAll H' vs ds
  | [], _, h, _ => by cases h; exact .nil
  | d :: ds, _, h, n => by
    have n' : (noL d && noLs ds) = true := n
    rw [Bool.and_eq_true] at n'
    cases h with
    | cons a b => exact .cons (At.smT s d _ a n'.1) (AtAll.smT s ds _ b n'.2)
end
theorem At.keep {v : V} {d : PyData} (h : At H v d) (s : SmT H H') (n : noL d = true) : At H' v d := At.smT s d v h n
theorem AtAll.keep {vs : List V} {ds : List PyData} (h : AtAll H vs ds) (s : SmT H H') (n : noLs ds = true) : AtAll H' vs ds := AtAll.smT s ds vs h n
end
end Fg
namespace Fg
open PySem PySem.Spec PyProof.Rows L2
section
variable {K : PySem.W.Frag} {H : Hp} {Q : VK} {a dd D tp : Addr} {fs : List (Str × V)} {cs : List V} {us : List Value} {b : Bool}
end
section
variable {K : PySem.W.Frag} {σ : L2.St} {H : Hp} {Q : VK} {a : Addr} {ns : List Int} {ta : TE}
end
section
variable {X : Cx} (K : PySem.W.Frag) {o e : Expr} {es : List Expr} {to : TE} {ta : TA} {apos cpos : PySem.Pos}
end
section
variable {K : PySem.W.Frag} {σ : L2.St} {H : Hp} {Q : VK} {to : TE} {t : TA} {a : Addr} {ms : List (List Nat)} {l : List Nat} {j : Nat}
end
section
variable {σ : L2.St} {H : Hp} {Q : VK} {a : Addr} {kvs : List (Key × V)} {k : Key} {v : V} {td ty tx : TE}
end
section
variable {K : PySem.W.Frag} {σ : L2.St} {G : Hp} {Q : VK} {te td : TE} {j : Nat} {d : Addr} {kvs : List (Key × V)} {vs : List Nat}
end
end Fg
namespace Fg
open PySem PySem.Spec PyProof.Rows L2
section
variable {X : Cx} {pins : List (Addr × Obj)} {σ : L2.St} {H : Hp} {s : Shared}
end
section
variable {K : PySem.W.Frag} {H : Hp} {Q : VK} {v : V} {d : PyData} {m : Nat}
end
section
variable {K : PySem.W.Frag} {σ : L2.St} {G : Hp} {Q : VK} {te tl : TE} {j : Nat} {a : Addr} {xs : List V} {vs : List Nat}
end
end Fg
namespace Fg
open PySem PySem.Spec PyProof.Rows L2
open L2H (RoomH PinOk cxH inv_startH)
/-- a promise, by the error's address, class, dict -/
abbrev SpX := Addr → Value → Option Addr → Sp
structure FnX (P : Program) (w : World) (K : PySem.W.Frag) (mg : Str → Option Value) (base : Heap) (k : Nat) (f : Addr) (fd : FuncData) (ps : List Str) (sp : SpX) : Prop where
  len : ∀ a cls d vs H Q E, sp a cls d vs H Q E → vs.length = ps.length
  run : ∀ (A : Around) (outer : List Env) (s : Shared) (H : Hp) (args : Args) (us : List Value) (vs : List V) (Q : VK) (E : XK) (a : Addr) (oe : Obj) (cls : Value) (d : Option Addr), A.guards = some [] → RoomH k A → Zc cls d oe → (∃ fv, oe.data = .fields fv) → PinOk outer H s (a, oe) → Env0 P w K mg base A outer s H → BindsTo s fd args (ps.zip us) → Vals vs us →
    sp a cls d vs H Q E → codeAny (model P w) A (.call (.ref f) args) (CR CX0 outer P w H s Q E) s
section
variable {P : Program} {w : World} {K : PySem.W.Frag} {mg : Str → Option Value} {base : Heap} {N ps : List Str} {k : Nat} {sp : SpX} {x : Str} {st : Stmt}
theorem FnX.mk' {f : Addr} {fd : FuncData} (F : Fun K x x st f fd) (S : FnScope N ps (defScope st)) (len : ∀ a cls d vs H Q E, sp a cls d vs H Q E → vs.length = ps.length)
    (hb : ∀ (cdv : Value) (A : Around) (outer : List Env) (s : Shared) (H : Hp) (vs : List V) (Q : VK) (E : XK) (a : Addr) (oe : Obj) (cls : Value) (d : Option Addr), A.guards = some [] → Zc cls d oe → (∃ fv, oe.data = .fields fv) → RoomH k (A.deeper (envOfC x (defScope st) s.heap.objs.size f cdv)) → sp a cls d vs H Q E →
      ∃ t, PSs (cxH CX0 P w K mg base N x (defScope st) f cdv A outer s H E (a, oe)) (defBody st) t ∧ t { nx := fun _ H' => Q .non H', rt := Q } (start N vs) H) : FnX P w K mg base (k + 1) f fd ps sp := by
  obtain ⟨oc, od, kV, doc, pm, an, cdv, ct, osl, rfl, lk, hcd⟩ := F.ex
  refine ⟨len, fun A outer s H args us vs Q E a oe cls d hgu hr hz hf hpin e0 hbd r hsp => ?_⟩
  have KX : K.In s.heap := e0.mod.kin.keeps fun b o e => (e0.bs b o e).1
  have lim : s.heap.NoLimit := e0.mod.nolimit.keeps fun b o e => (e0.bs b o e).1
  have hkind : ∀ y ∈ ps.zip us, (defScope st).names.lookup y.1 = some .local ∨ ((defScope st).names.lookup y.1 = some .cell ∧ ((cellsFrom (s.heap.objs.size + 1) (defScope st).names []).lookup y.1).isSome = true) := fun ⟨n, v⟩ hy => by
    rcases S.par n (List.of_mem_zip hy).1 with q | q
    · exact .inl q
    · exact .inr ⟨q, PySem.W.cellsFrom_some _ _ _ (.inl q)⟩
  refine codeAny_call_function hr.depth (KX _ _ lk) rfl S.co S.gen rfl (PySem.W.codeRec_of KX hcd) (hbd _ _ _ _ ?_)
  refine wpAny_newFunctionEnv_cells S.kind hkind fun env he s1 y => ?_
  subst he
  refine ⟨lim.keeps y.toInCall.keep, codeAny_func ?_⟩
  obtain ⟨t, ht, hq⟩ := hb cdv A outer s H vs Q E a oe cls d hgu hz hf (hr.deeper _) hsp
  refine wpAny_mono (ht.run [] s1 (start N vs) H _ (inv_startH S hpin e0 (len _ _ _ _ _ _ _ hsp) r y) hq) (fun fl s' hs => ?_) fun e s' hs => hs
  cases fl with
  | ret u =>
    obtain ⟨v, σ', H', J, rv, q⟩ := hs
    exact ⟨v, H', J.os, J.bare, J.base, J.hok, rv, q⟩
  | next =>
    obtain ⟨σ', H', J, q⟩ := hs
    exact ⟨.non, H', J.os, J.bare, J.base, J.hok, rfl, q⟩
  | brk => exact hs.elim fun _ h => h.elim fun _ h => h.2.elim
  | cont => exact hs.elim fun _ h => h.elim fun _ h => h.2.elim
/-- a def of the text and its promise -/
def OKXW (P : Program) (w : World) (K : PySem.W.Frag) (mg : Str → Option Value) (base : Heap) (k : Nat) (x : Str) (ps : List Str) (sp : SpX) : Prop :=
  ∃ (f : Addr) (fd : FuncData), FnX P w K mg base k f fd ps sp ∧ mg x = some (.ref f) ∧ PySem.W.keepIn K (.ref f) = true ∧ Binds K fd ps []
theorem OKXW.mk (D : DefIn K mg x st ps) (S : FnScope N ps (defScope st)) (len : ∀ a cls d vs H Q E, sp a cls d vs H Q E → vs.length = ps.length)
    (body : ∀ (f : Addr) (cdv : Value) (A : Around) (outer : List Env) (s : Shared) (H : Hp) (vs : List V) (Q : VK) (E : XK) (a : Addr) (oe : Obj) (cls : Value) (d : Option Addr), A.guards = some [] → Zc cls d oe → (∃ fv, oe.data = .fields fv) → RoomH k (A.deeper (envOfC x (defScope st) s.heap.objs.size f cdv)) → sp a cls d vs H Q E →
      ∃ t, PSs (cxH CX0 P w K mg base N x (defScope st) f cdv A outer s H E (a, oe)) (defBody st) t ∧ t { nx := fun _ H' => Q .non H', rt := Q } (start N vs) H) : OKXW P w K mg base (k + 1) x ps sp := by
  obtain ⟨f, fd, F, hm, hb⟩ := D
  exact ⟨f, fd, FnX.mk' F S len fun cdv A outer s H vs Q E a oe cls d hgu hz hf hr h => body f cdv A outer s H vs Q E a oe cls d hgu hz hf hr h, hm, F.kp, hb⟩
end
theorem uH {k : Nat} {A : Around} (r : RoomH k A) : A.units + 64 < cLine := by have := r.un; omega
section
variable {X : Cx} {k : Nat} {x : Str} {ps : List Str} {sp : SpX} {e : Expr} {es : List Expr} {ta : TA} {p pos : PySem.Pos} {a : Addr} {oe : Obj} {pn : List (Addr × Obj)} {cls : Value} {d : Option Addr}
theorem pe_fX (G : OKXW X.prog X.w X.K X.mg X.base k x ps sp) (hr : Room k X.A) (hgu : X.A.guards = some []) (hz : Zc cls d oe) (hf : ∃ vs, oe.data = .fields vs) (ha : PA (X.suite a ((a, oe) :: pn)) (e :: es) ta) (hg : Gl (X.suite a ((a, oe) :: pn)) x := by rfl) (hd : (x == ("__debug__" : Str)) = false := by decide)
    (he : starEach (e :: es) (X.suite a ((a, oe) :: pn)).env = (false, eval e (X.suite a ((a, oe) :: pn)).env) :: starEach es (X.suite a ((a, oe) :: pn)).env := by rfl) (hpl : (backTo pos (starEach es (X.suite a ((a, oe) :: pn)).env)).any (·.1) = false := by rfl) :
    PE (X.suite a ((a, oe) :: pn)) (.Call (.Name x p) (e :: es) [] pos) (tCall (sp a cls d) [] E0 ta) := by
  obtain ⟨f, fd, F, hm, hk, hb⟩ := G
  refine ⟨fun pins s σ H Q I h => ?_⟩
  refine wpAny_Call_Name_kw (ld_glob I hg hm ?_ hd)
  refine PySem.W.callWith_K (h₀ := X.base) I.ok.mod.kin hk (thn (ha.run pos pins s σ H _ I h) fun us s1 ⟨vs, H1, I1, r, q⟩ => ⟨I1.kIn, ?_⟩) he hpl
  have q : sp a cls d vs H1 Q E0 := by simpa using q
  have hl : us.length = ps.length := by rw [← r.length]; exact F.len _ _ _ _ _ _ _ q
  have b := hb s1 us I1.kIn (by rw [List.append_nil]; exact hl)
  rw [List.append_nil] at b
  have P1 := I1.pin (a, oe) (List.mem_append_left _ List.mem_cons_self)
  have hpin : PinOk (X.suite a ((a, oe) :: pn)).stack H1 s1 (a, oe) := ⟨P1.1, P1.2.1, fun hm => (List.mem_cons.mp (I1.stkSub a hm)).elim P1.2.2.1 P1.2.2.2.1, P1.2.2.2.2⟩
  refine wpAny_call (codeAny_mono (F.run _ _ s1 H1 ⟨us, []⟩ us vs Q E0 a oe cls d hgu (show RoomH k (X.A.mark (some (.ref a))) from ⟨hr.dp, hr.un⟩) hz hf hpin I1.env0 b r q) fun r s' hq => ?_)
  cases r with
  | error e => exact hq.elim
  | ok fl =>
    cases fl with
    | ret u => exact I1.after hq
    | next => exact hq.elim
    | brk => exact hq.elim
    | cont => exact hq.elim
end
section
variable {X : Cx} {a C : Addr} {oe : Obj} {cls : Value} {d : Option Addr} {e : Expr} {te : TE} {pos : PySem.Pos} {n : Str}
theorem pe_xfP (T : XfC X.K C) (hno : PySem.W.findIn X.K (.ref C) n = some none) (hz : Zc cls d oe) (hf : ∃ vs, oe.data = .fields vs) (hp : (a, oe) ∈ X.pn) (he : PE X e te) (hb : attributeBase e n X.env (eval e X.env) = eval e X.env := by rfl) :
    PE X (.Attribute e n pos) (tXf a cls d C n te) := by
  refine ⟨fun pins s σ H Q I h => ?_⟩
  refine attr_of hb (thn (he.run pins s σ H _ I h) fun u s1 hh => ?_)
  obtain ⟨x, H1, I1, rx, ex, ec, dd, fs, v, ed, ea, l, q⟩ := hh
  subst ex
  obtain rfl : u = Value.ref a := rx
  subst ec
  subst ed
  obtain ⟨ha, _⟩ := I1.pin (a, oe) (List.mem_append_left _ hp)
  obtain ⟨vs, hd⟩ := hf
  have hx : ObjOk X.prog X.w H1 s1.heap dd (.xd fs) := I1.hok dd _ ea
  obtain ⟨mA, hns, hr⟩ := hx
  obtain ⟨od, ho, hl⟩ := lookIn_ns hns
  obtain ⟨u, hu, ru⟩ := RelO.some_of (v := v) (o := mA n) (by rw [← l]; exact hr n)
  have J : PySem.W.InstAt s1.heap a oe C (some od) := ⟨ha, hz.1, by unfold PySem.W.notCls; rw [hd] <;> rfl, by rw [hz.2]; exact ho⟩
  exact HandSPX.exc_get I1.kIn J T.ga T.gg T.exC (PySem.W.findObj_own T.hdC hno rfl (by rw [hl, hu])) (handed_of ru) ⟨v, H1, I1.tok _, ru, q⟩
theorem call_isXP (hz : Zc cls d oe) (hf : ∃ vs, oe.data = .fields vs) (hp : (a, oe) ∈ X.pn) : CallR X (.builtin "isinstance") (rIsX X.K a cls d) := by
  intro pins s σ H xs us Q I r h
  obtain ⟨D, dd, fs, c, cv, b, rfl, rfl, rfl, hdd, T, kc, e, q⟩ := h
  obtain ⟨u1, u2, rfl, r1, r2⟩ := vals2 r
  obtain rfl : u1 = Value.ref a := r1
  obtain rfl := kc.eq r2
  obtain ⟨hget, _⟩ := I.pin (a, oe) (List.mem_append_left _ hp)
  obtain ⟨vs, hv⟩ := hf
  have hx : ObjOk X.prog X.w H s.heap dd (.xd fs) := I.hok dd _ hdd
  obtain ⟨mA, ⟨o, es, ep, ho, _⟩, _⟩ := hx
  have J : PySem.W.InstAt s.heap a oe D (some o) := ⟨hget, hz.1, by unfold PySem.W.notCls; rw [hv] <;> rfl, by rw [hz.2]; exact ho⟩
  exact PySem.W.kia_one (PySem.W.kitx_exc T.cl T.hg T.hk T.hs T.ha T.hn T.ht T.hm) I.kIn J e (fun z => nomatch z) fun tk => ⟨.bl b, H, I.tok tk, rfl, q⟩
theorem cIsXP (K : PySem.W.Frag) (hz : Zc cls d oe) (hf : ∃ vs, oe.data = .fields vs) (hp : (a, oe) ∈ X.pn) (h : X.K = K := by rfl) : CallR X (.builtin "isinstance") (rIsX K a cls d) := h ▸ call_isXP hz hf hp
end
end Fg
namespace Fg
open PySem PySem.Spec PyProof.Rows L2
open AutoSeq1 (wpAny_loadPart')
theorem meets_enumT (l : Addr) (items : Array Value) (n : Nat) (dct : Option Addr) (sl : Array (Option Value)) :
    Meets (Builtin.«enumerate.__new__» ⟨[.type "enumerate", .ref l], []⟩) (fun _ R s => s.heap.get? l = some { cls := .type "tuple", dict := dct, data := .seq items n, slots := sl } ∧
      R (.ok (.ret (.ref (s.heap.push { cls := .type "tuple_iterator", data := .fields #[.ref l, .int 0 0] }).objs.size)))
        { s with heap := (s.heap.push { cls := .type "tuple_iterator", data := .fields #[.ref l, .int 0 0] }).push { cls := .type "enumerate", data := .fields #[.none, .bool false, .ref s.heap.objs.size, rawInt 0, .none, .none] } }) :=
  .of_wp fun prog w A R s h => by
    obtain ⟨hp, g, d, tk, os⟩ := s; obtain ⟨hl, h⟩ := h
    have hsub := sub_enumerate
    have hL : Heap.IsTuple (Shared.heap ⟨hp, g, d, tk, os⟩) l items := ⟨_, hl, rfl, n, rfl⟩
    wp_walk using wpAny_loadPart' hl
    refine wpAny_stack_any fun st => wpAny_pure ?_
    split
    · rename_i c _ _ _ _ _
      cases (c == Value.type "enumerate")
      · wp_walk using wpAny_loadPart' hl, wpAny_pyIter_tuple hL
        exact ⟨_, rfl, h⟩
      · wp_walk using wpAny_loadPart' hl, wpAny_pyIter_tuple hL
        exact ⟨_, rfl, h⟩
    · wp_walk using wpAny_loadPart' hl, wpAny_pyIter_tuple hL
      exact ⟨_, rfl, h⟩
section
variable {prog : Program} {w : World} {A : Around} {E : Value → Shared → Prop} {s : Shared}
theorem call_enumT {l : Addr} {items : Array Value} {Q : Value → Shared → Prop} (hL : s.heap.IsTuple l items)
    (h : ∀ h', IsEnum h' (s.heap.objs.size + 1) s.heap.objs.size 0 .none → h'.IsTupleIter s.heap.objs.size l 0 → h'.objs.size = s.heap.objs.size + 2 →
      (∀ b o, s.heap.get? b = some o → h'.get? b = some o) → Q (.ref (s.heap.objs.size + 1)) { s with heap := h' }) :
    wpAny (model prog w) A (call (.type "enumerate") [.ref l]) Q E s := by
  obtain ⟨⟨c, dct, dt, sl⟩, hl, hc, n, hd⟩ := hL
  replace hc : c = .type "tuple" := hc
  replace hd : dt = .seq items n := hd
  subst hc hd
  refine callType_new F.called_enumerate (by decide) (F.typeCall_enumerate_1 _) (F.newCall_enumerate_1 _) (fun obj => F.args_object_init_2 obj _) F.entry_enumerate_new
    (meets_enumT l items n dct sl) ⟨hl, ?_⟩
  have hz : (s.heap.push { cls := .type "tuple_iterator", data := .fields #[.ref l, .int 0 0] }).objs.size = s.heap.objs.size + 1 := Heap.size_push ..
  show _ ∧ _
  rw [hz]
  have he : IsEnum ((s.heap.push { cls := .type "tuple_iterator", data := .fields #[.ref l, .int 0 0] }).push
      { cls := .type "enumerate", data := .fields #[.none, .bool false, .ref s.heap.objs.size, rawInt 0, .none, .none] }) (s.heap.objs.size + 1) s.heap.objs.size 0 .none := by
    have := Heap.get?_push_size (s.heap.push { cls := .type "tuple_iterator", data := .fields #[.ref l, .int 0 0] })
      (o := { cls := .type "enumerate", data := .fields #[.none, .bool false, .ref s.heap.objs.size, rawInt 0, .none, .none] }) rfl
    rw [hz] at this; exact this
  refine ⟨⟨_, he, rfl⟩, h _ he ⟨_, Heap.get?_push_of_some _ (Heap.get?_push_size _ rfl), rfl, rfl⟩ (by rw [Heap.size_push, hz]) fun b o x => Heap.get?_push_of_some _ (Heap.get?_push_of_some _ x)⟩
end
/-- the tuple at a, each item in a new pair with its place -/
def Itet (K : PySem.W.Frag) (a : Addr) : It :=
  ⟨fun i H => ∃ (xs : List V) (x : V), SqT K H a xs ∧ xs[i]? = some x, fun i H v H' => ∃ T x, v = .ref T ∧ H T = none ∧ H' = upd H T (.tup [.int (i : Nat), x]) ∧ ∀ xs, SqT K H a xs → xs[i]? = some x, fun i H => ∃ xs : List V, SqT K H a xs ∧ i = xs.length⟩
theorem turn_enumT {P : Program} {w : World} {K : PySem.W.Frag} {elts : List Expr} {kk : Nat} {tpos : PySem.Pos} (a e it : Addr) :
    Turn P w K (.Tuple elts kk tpos) (Itet K a) [e, it] e (fun i h => (∃ old, IsEnum h e it ((i : Nat) : Int) old) ∧ h.IsTupleIter it a i ∧ e ≠ it) where
  mem := by simp
  obj := fun i h st b hb => by
    obtain ⟨⟨old, he⟩, ⟨o, ho, hc, hd⟩, _⟩ := st
    have e' : b = e ∨ b = it := by simpa using hb
    rcases e' with z | z
    · rw [z]; exact ⟨_, he, fun v q => nomatch q⟩
    · rw [z]; exact ⟨o, ho, fun v q => by rw [hd] at q; cases q⟩
  keep := fun i h h' st k => let ⟨⟨old, he⟩, hi, hne⟩ := st; ⟨⟨old, k e (by simp) _ he⟩, hi.at fun o q => k it (by simp) o q, hne⟩
  item := by
    intro X hP hw hK hc i pins s σ H E I hf st hg
    subst hP hw hK
    obtain ⟨⟨old, he⟩, hit, hne⟩ := st
    obtain ⟨xs, x, hq, hx⟩ := hg
    obtain ⟨its, rv, p, hz⟩ := I.tuple hq
    have pt : s.heap.IsTuple a its.toArray := p
    obtain ⟨u, hu, ru⟩ := rv.get hx
    have hel : e < s.heap.objs.size := Heap.lt_size he
    have hil : it < s.heap.objs.size := by obtain ⟨_, q, _⟩ := hit; exact Heap.lt_size q
    have hai : a ≠ it := fun z => by
      obtain ⟨o1, q1, c1, _⟩ := hit
      obtain ⟨o2, q2, c2, _⟩ := pt
      rw [z, q1] at q2
      cases q2
      rw [c1] at c2
      exact absurd c2 (by simp)
    have hae : e ≠ a := fun z => by
      obtain ⟨o2, q2, c2, _⟩ := pt
      rw [← z] at q2
      have q1 : s.heap.get? e = some _ := he
      rw [q1] at q2
      cases q2
      exact absurd c2 (by simp)
    have hsz : its.toArray.size = xs.length := by rw [List.size_toArray]; exact rv.length.symm
    have D := Draws.tuple (prog := X.prog) (w := X.w) (A := X.A.in1) (I.ok.hd hc) it a hai its.toArray
    refine wpAny_pyNext_enum_itemC D he ⟨hit, pt⟩ (by rw [hsz]; exact (List.getElem?_eq_some_iff.mp hx).1) hne (by simp [hne, hae]) fun y h' tk hy ho hS' hT hsz2 hk => ?_
    have yu : y = u := by
      have e1 : its.toArray[i]? = some u := by simpa using hu
      rw [e1] at hy
      exact (Option.some.inj hy).symm
    subst yu
    refine ⟨_, rfl, wpAny_letOwnedTupleGo_enum (s := { s with heap := h', toks := tk + 1 }) ho fun h2 he2 sb => ?_⟩
    have T2 : h2.get? s.heap.objs.size = some { cls := .type "tuple", data := .seq #[.int i tk, y] } := (sb.2 _ (Nat.ne_of_gt hel)).trans hT
    have new : ObjOk X.prog X.w (upd H s.heap.objs.size (.tup [.int (i : Nat), x])) h2 s.heap.objs.size (.tup [.int (i : Nat), x]) :=
      ⟨by show 2 ≤ sizeLine; decide, [.int i tk, y], .cons ⟨_, rfl⟩ (.cons ru .nil), ⟨_, T2, rfl, _, rfl⟩⟩
    have J : Inv X pins σ (upd H s.heap.objs.size (.tup [.int (i : Nat), x])) { s with heap := h2, toks := tk + 1 } :=
      I.turnedNew (ch := [e, it]) (fun b ob hb q => (sb.2 b (fun z => hb (by simp [z]))).trans (hk b ob (fun z => hb (by simp [z])) (fun z => hb (by simp [z])) q)) hf (Nat.le_refl _) new
    refine ⟨.ref s.heap.objs.size, _, J, rfl, ⟨_, x, rfl, I.hok.fresh (Nat.le_refl _), rfl, fun ys hy => by rw [I.tuple_inj hy hq]; exact hx⟩, ⟨⟨y, ?_⟩, ?_, hne⟩, fun b hb => ?_⟩
    · have e1 : ((i + 1 : Nat) : Int) = (i : Int) + 1 := by omega
      rw [e1]; exact he2
    · exact hS'.1.at fun o q => (sb.2 it (Ne.symm hne)).trans q
    · have hb' : b < s.heap.objs.size := by
        have e' : b = e ∨ b = it := by simpa using hb
        rcases e' with z | z
        · rw [z]; exact hel
        · rw [z]; exact hil
      rw [upd_ne (Nat.ne_of_lt hb')]
      exact (hf b hb).1
  done := by
    intro X hP hw hK hc i pins s σ H E I hf st hg
    subst hP hw hK
    obtain ⟨⟨old, he⟩, hit, hne⟩ := st
    obtain ⟨xs, hq, hx⟩ := hg
    obtain ⟨its, rv, p, hz⟩ := I.tuple hq
    have pt : s.heap.IsTuple a its.toArray := p
    have hai : a ≠ it := fun z => by
      obtain ⟨o1, q1, c1, _⟩ := hit
      obtain ⟨o2, q2, c2, _⟩ := pt
      rw [z, q1] at q2
      cases q2
      rw [c1] at c2
      exact absurd c2 (by simp)
    obtain ⟨f0, f1, f2, f3, f4, f5⟩ := hf it (by simp)
    have hsz : its.toArray.size = i := by rw [List.size_toArray, hx]; exact rv.length.symm
    have D := Draws.tuple (prog := X.prog) (w := X.w) (A := X.A.in1) (I.ok.hd hc) it a hai its.toArray
    exact wpAny_pyNext_enum_endD D he ⟨hsz ▸ hit, pt⟩ fun h' eb => ⟨rfl, I.turned (t' := s.toks) (fun b o hb q => eb b o hb q) f0 f1 f3 f4 f5⟩
  self := fun A i s Q E st h => let ⟨⟨_, he⟩, _⟩ := st; wpAny_pyIter_enum he h
def iEnumT (K : PySem.W.Frag) (ta : TA) : TI := fun σ H R => ta σ H fun vs H1 => ∃ a xs, vs = [.ref a] ∧ SqT K H1 a xs ∧ R (Itet K a) H1
theorem pi_enumT {X : Cx} {e : Expr} {ta : TA} {p pos tpos : PySem.Pos} {elts : List Expr} {kk : Nat} (hg : Gl X "enumerate") (hm : X.mg "enumerate" = none) (ha : PA X [e] ta) (hs : starEach [e] X.env = [(false, eval e X.env)] := by rfl) :
    PI X (.Tuple elts kk tpos) (.Call (.Name "enumerate" p) [e] [] pos) (iEnumT X.K ta) := by
  refine ⟨fun pins s σ H R I h => Call_ (ld_blt I hg hm boot_enumerate (PyProof.Rows.callWith_type1 (thn (ha.run pos pins s σ H _ I h) fun us s1 ⟨vs, H1, J, r1, q1⟩ => ?_) hs rfl))⟩
  have far : ∀ b ∈ [s1.heap.objs.size + 1, s1.heap.objs.size], s1.heap.objs.size ≤ b := fun b hb => by
    rcases List.mem_cons.mp hb with rfl | hb
    · exact Nat.le_succ _
    · rw [List.mem_singleton.mp hb]; exact Nat.le_refl _
  obtain ⟨a, xs, rfl, hq, q⟩ := q1
  cases r1 with
  | cons r rr =>
    cases rr
    cases r
    obtain ⟨its, rv, pl, hz⟩ := J.tuple hq
    refine call_enumT (show s1.heap.IsTuple a its.toArray from pl) fun h' hE hit hsz hk => wpAny_pyIter_enum hE ?_
    have J2 : Inv X pins σ H1 { s1 with heap := h' } := J.kept (t' := s1.toks) hk
    exact ⟨_, _, _, _, H1, rfl, J2, turn_enumT a (s1.heap.objs.size + 1) s1.heap.objs.size, ⟨⟨.none, hE⟩, hit, Nat.succ_ne_self _⟩, fun b hb => J.fpOk (far b hb) (J.hok.fresh (far b hb)), q⟩
theorem piEnumT (K : PySem.W.Frag) {X : Cx} {e : Expr} {ta : TA} {p pos tpos : PySem.Pos} {elts : List Expr} {kk : Nat} (hg : Gl X "enumerate") (hm : X.mg "enumerate" = none) (ha : PA X [e] ta) (h : X.K = K := by rfl) (hs : starEach [e] X.env = [(false, eval e X.env)] := by rfl) :
    PI X (.Tuple elts kk tpos) (.Call (.Name "enumerate" p) [e] [] pos) (iEnumT K ta) := h ▸ pi_enumT hg hm ha hs
/-- for i, x in enumerate(tuple) -/
theorem f_enumT {K : PySem.W.Frag} {σ : L2.St} {H : Hp} {D : Ends} {ta : TA} {tb : TS} {a : Addr} {xs : List V} {i1 i2 : Nat} (ha : ∀ R : List V → Hp → Prop, R [.ref a] H → ta σ H R) (hx : SqT K H a xs) (Pv : Nat → L2.St → Hp → Prop) (h0 : Pv 0 σ H)
    (hl : ∀ i σ' H', i ≤ xs.length → Pv i σ' H' → H' a = H a)
    (hs : ∀ i x σ' H' T, xs[i]? = some x → Pv i σ' H' → H' T = none → tb { D with nx := Pv (i + 1), ct := Pv (i + 1), bk := D.nx } ((σ'.set i1 (some (.int (i : Int)))).set i2 (some x)) (upd H' T (.tup [.int (i : Int), x]))) (hd : ∀ σ' H', Pv xs.length σ' H' → D.nx σ' H') :
    tFor (iEnumT K ta) (gTup K 2 (gCons (gName i1) (gCons (gName i2) gNil))) tb D σ H := by
  refine ha _ ⟨a, xs, rfl, hx, ?_⟩
  have sq : ∀ H', H' a = H a → SqT K H' a xs := fun H' e => by
    rcases hx with (h | ⟨o, h⟩) | h
    · exact .inl (.inl (e.trans h))
    · exact .inl (.inr ⟨o, e.trans h⟩)
    · exact .inr h
  have w : Walk (Itet K a) xs.length (fun H' => H' a = H a) (fun i Ha v Hb => ∃ T x, v = .ref T ∧ Ha T = none ∧ Hb = upd Ha T (.tup [.int (i : Nat), x]) ∧ xs[i]? = some x) := by
    refine ⟨fun i H' hi e => ⟨xs, xs[i], sq H' e, by simp [hi]⟩, fun H' e => ⟨xs, sq H' e, rfl⟩, fun i H' x H2 hi e y => ?_⟩
    obtain ⟨T, x, h1, h2, h3, h4⟩ := y
    exact ⟨T, x, h1, h2, h3, h4 xs (sq H' e)⟩
  refine for_it w Pv h0 (fun i σ' H' hi p => hl i σ' H' hi p) (fun i x σ' H' H2 hi p y => ?_) hd
  obtain ⟨T, c, rfl, nT, rfl, hc⟩ := y
  exact ⟨T, _, rfl, SqT.of upd_same, rfl, _, _, rfl, _, _, rfl, rfl, hs i c σ' H' T hc p nT⟩
end Fg
namespace Fg
open PySem PySem.Spec PyProof.Rows L2
section
variable {K : PySem.W.Frag} {σ : L2.St} {H : Hp} {Q : VK} {te tl : TE} {tt : TT} {g : TG} {ta : TA} {j : Nat} {vs : List Nat} {a : Addr} {xs : List V}
end
end Fg
namespace Fg
open PySem PySem.Spec PyProof.Rows L2
abbrev SG : List Nat := [46, 103, 114, 119]
abbrev DG : List Nat := [48, 49, 50, 51, 52, 53, 54, 55, 56, 57]
def Row (l : List Nat) : Prop := ∀ c ∈ l, c ∈ SG
def rpt (n : Nat) (l : List Nat) : List Nat := (List.replicate n l).flatten
theorem rpt_len (n : Nat) (l : List Nat) : (rpt n l).length = n * l.length := by simp [rpt, List.length_flatten]
theorem rpt_succ (k : Nat) (t : List Nat) : rpt (k + 1) t = t ++ rpt k t := by unfold rpt; rw [List.replicate_succ, List.flatten_cons]
/-- the first lit one -/
def firstLit : List Nat → Nat
  | [] => 46
  | c :: r => if c = 46 then firstLit r else c
/-- a stretch as the reader has it -/
def Sv (n : Nat) (r : List Nat) : HO := .tup [.int (n : Int), if n ≤ 24 then S r else .non]
abbrev Stv := Nat × List Nat
def lcmL (ps : List Stv) : Nat := ps.foldl (fun b p => Nat.lcm b p.1) 1
theorem lcmL_snoc (ps : List Stv) (p : Stv) : lcmL (ps ++ [p]) = Nat.lcm (lcmL ps) p.1 := by
  unfold lcmL
  rw [List.foldl_append]
  rfl
def showN (ps : List Stv) (n : Nat) : List Nat := (List.range n).map fun i => firstLit (ps.map fun p => (rpt (n / p.1) p.2).getD i 0)
theorem showN_len (ps : List Stv) (n : Nat) : (showN ps n).length = n := by simp [showN]
theorem dvd_fold (ps : List Stv) : ∀ b, (b ∣ ps.foldl (fun b p => Nat.lcm b p.1) b) ∧ ∀ p ∈ ps, p.1 ∣ ps.foldl (fun b p => Nat.lcm b p.1) b := by
  induction ps with
  | nil => exact fun b => ⟨Nat.dvd_refl _, by simp⟩
  | cons q r ih =>
    intro b
    obtain ⟨h1, h2⟩ := ih (Nat.lcm b q.1)
    refine ⟨Nat.dvd_trans (Nat.dvd_lcm_left _ _) h1, fun p hp => ?_⟩
    rcases List.mem_cons.mp hp with rfl | hp
    · exact Nat.dvd_trans (Nat.dvd_lcm_right _ _) h1
    · exact h2 p hp
theorem dvd_lcmL {ps : List Stv} {p : Stv} (h : p ∈ ps) : p.1 ∣ lcmL ps := (dvd_fold ps 1).2 p h
theorem fold_pos (ps : List Stv) (h : ∀ p ∈ ps, 1 ≤ p.1) : ∀ b, 1 ≤ b → 1 ≤ ps.foldl (fun b p => Nat.lcm b p.1) b := by
  induction ps with
  | nil => exact fun b hb => hb
  | cons q r ih => exact fun b hb => ih (fun p hp => h p (List.mem_cons_of_mem _ hp)) _ (Nat.lcm_pos hb (h q List.mem_cons_self))
theorem lcmL_pos {ps : List Stv} (h : ∀ p ∈ ps, 1 ≤ p.1) : 1 ≤ lcmL ps := fold_pos ps h 1 (Nat.le_refl _)
def run (z : List Nat) (a : Nat) : List Nat := (z.drop a).takeWhile fun c => decide (c ∈ DG)
def bd (z : List Nat) (a : Nat) : Nat := a + (run z a).length
theorem run_step {z : List Nat} {m c : Nat} (h : z[m]? = some c) (hc : c ∈ DG) : run z m = c :: run z (m + 1) := by
  obtain ⟨hl, rfl⟩ := List.getElem?_eq_some_iff.mp h
  unfold run
  rw [List.drop_eq_getElem_cons hl, List.takeWhile_cons_of_pos (by simpa using hc)]
theorem run_stop {z : List Nat} {m : Nat} (h : ∀ c, z[m]? = some c → c ∉ DG) : run z m = [] := by
  unfold run
  by_cases hl : m < z.length
  · rw [List.drop_eq_getElem_cons hl, List.takeWhile_cons_of_neg (by simpa using h _ (List.getElem?_eq_getElem hl))]
  · rw [List.drop_of_length_le (by omega)]
    rfl
theorem bd_step {z : List Nat} {m c : Nat} (h : z[m]? = some c) (hc : c ∈ DG) : bd z (m + 1) = bd z m := by
  unfold bd
  rw [run_step h hc, List.length_cons]
  omega
theorem bd_stop {z : List Nat} {m : Nat} (h : ∀ c, z[m]? = some c → c ∉ DG) : bd z m = m := by
  unfold bd
  rw [run_stop h]
  rfl
theorem bd_le {z : List Nat} {a : Nat} (h : a ≤ z.length) : bd z a ≤ z.length := by
  unfold bd run
  have := (List.takeWhile_prefix (fun c => decide (c ∈ DG)) (l := z.drop a)).length_le
  rw [List.length_drop] at this
  omega
theorem bd_ge (z : List Nat) (a : Nat) : a ≤ bd z a := Nat.le_add_right _ _
theorem bd_eq {z : List Nat} {a : Nat} : bd z a = a ↔ run z a = [] := by
  unfold bd
  constructor
  · intro h
    exact List.length_eq_zero_iff.mp (by omega)
  · intro h
    rw [h]; rfl
theorem run_digits (z : List Nat) (a : Nat) : ∀ c ∈ run z a, c ∈ DG := fun c hc => by
  unfold run at hc
  generalize z.drop a = l at hc
  induction l with
  | nil => simp at hc
  | cons x r ih =>
    by_cases h : x ∈ DG
    · rw [List.takeWhile_cons_of_pos (by simpa using h)] at hc
      rcases List.mem_cons.mp hc with rfl | hc
      · exact h
      · exact ih hc
    · rw [List.takeWhile_cons_of_neg (by simpa using h)] at hc
      simp at hc
theorem cutN_run {z : List Nat} {a : Nat} (h : a ≤ z.length) : cutN z (some (a : Int)) (some (bd z a : Nat)) = run z a := by
  unfold cutN
  rw [HT.sIx_nat, HT.sIx_nat, Nat.min_eq_left h, Nat.min_eq_left (bd_le h)]
  have e : bd z a - a = (run z a).length := by unfold bd; omega
  rw [e]
  unfold run
  exact (List.prefix_iff_eq_take.mp (List.takeWhile_prefix _)).symm
def num (l : List Nat) : Nat := l.foldl (fun n c => 10 * n + (c - 48)) 0
def within (l : List Nat) (lo hi : Nat) : Bool := decide (1 ≤ l.length) && decide (l.length ≤ 2) && decide (lo ≤ num l) && decide (num l ≤ hi)
theorem within_iff {l : List Nat} {lo hi : Nat} : within l lo hi = true ↔ (1 ≤ l.length ∧ l.length ≤ 2 ∧ lo ≤ num l ∧ num l ≤ hi) := by
  unfold within
  simp only [Bool.and_eq_true, decide_eq_true_eq, and_assoc]
abbrev Res := Except Nat (Stv × Nat)
def rep (s : Stv) (t : Nat) : Stv := (s.1 * t, rpt t s.2)
def beh (s u : Stv) : Stv := (s.1 + u.1, s.2 ++ u.2)
def shown (ps : List Stv) : Stv := (lcmL ps, showN ps (lcmL ps))
def fillTo (p : Stv) (b : Nat) : Stv := (b, p.2 ++ List.replicate (b - p.1) 46)
def isStart (c : Nat) : Bool := decide (c ∈ SG) || decide (c ∈ DG)
def timesOf (r : List Nat) : Nat := if r = [] then 1 else num r
def close (z : List Nat) (t : Nat) : Res → Res
  | .error k => .error k
  | .ok (s, e) => if z[e]? = some 41 then .ok (rep s t, e + 1) else .error e
def item (rp : Option (Nat → Res)) (z : List Nat) (a : Nat) : Res :=
  if (run z a).take 1 = [48] then .error a
  else match z[bd z a]? with
    | none => .error (bd z a)
    | some c =>
      if c ∉ SG ∧ c ≠ 40 then .error (bd z a)
      else if run z a ≠ [] ∧ within (run z a) 2 24 = false then .error a
      else if c ≠ 40 then .ok (rep (1, [c]) (timesOf (run z a)), bd z a + 1)
      else match rp with
        | none => .error (bd z a)
        | some f => close z (timesOf (run z a)) (f (bd z a + 1))
def goOn (k : Stv → Nat → Res) : Res → Res
  | .error k => .error k
  | .ok (s, e) => k s e
def items (ri : Nat → Res) (z : List Nat) : Nat → Nat → Stv → Res
  | 0, a, p => .ok (p, a)
  | f + 1, a, p => match z[a]? with
    | none => .ok (p, a)
    | some c => if isStart c = true then goOn (fun s e => items ri z f e (beh p s)) (ri a) else .ok (p, a)
def filled (z : List Nat) (a : Nat) (p : Stv) : Res :=
  if run z a = [] then .error a
  else if (run z a).take 1 = [48] ∨ within (run z a) (max 1 p.1) 24 = false then .error a
  else .ok (fillTo p (num (run z a)), bd z a)
def partEnd (z : List Nat) (p : Stv) (e : Nat) : Res := if p.1 = 0 then .error e else if z[e]? = some 64 then filled z (e + 1) p else .ok (p, e)
def part (ri : Nat → Res) (z : List Nat) (a : Nat) : Res := goOn (partEnd z) (items ri z (z.length + 1 - a) a (0, []))
def more (rq : Nat → Res) (z : List Nat) : Nat → Nat → List Stv → Res
  | 0, a, ps => .ok (shown ps, a)
  | f + 1, a, ps => if z[a]? = some 38 then goOn (fun s e => more rq z f e (ps ++ [s])) (rq (a + 1)) else .ok (shown ps, a)
def parts (ri : Nat → Res) (z : List Nat) (a : Nat) : Res := goOn (fun s e => more (part ri z) z (z.length + 1 - e) e [s]) (part ri z a)
mutual
/-- an item, so many more may be opened -/
def rdItem (z : List Nat) : Nat → Nat → Res
  | 0 => item none z
  | d + 1 => item (some (rd z d)) z
def rd (z : List Nat) : Nat → Nat → Res
  | d => parts (rdItem z d) z
end
def Gb (s : Stv) (w : Nat) : Prop := s.1 + 1 ≤ 2 ^ (5 * w) ∧ (s.1 ≤ 24 → s.2.length = s.1)
def Gd (z : List Nat) (f : Nat → Res) : Prop := ∀ a s e, a ≤ z.length → f a = .ok (s, e) → a < e ∧ e ≤ z.length ∧ 1 ≤ s.1 ∧ Gb s (e - a)
theorem pow_mono5 {x y : Nat} (h : x ≤ y) : 2 ^ (5 * x) ≤ 2 ^ (5 * y) := Nat.pow_le_pow_right (by decide) (by omega)
theorem pow32 {w : Nat} (h : 1 ≤ w) : 32 ≤ 2 ^ (5 * w) := Nat.le_trans (by decide : 32 ≤ 2 ^ (5 * 1)) (pow_mono5 h)
theorem Gb.small {s : Stv} {w : Nat} (h : s.1 ≤ 24) (hw : 1 ≤ w) (hl : s.2.length = s.1) : Gb s w := ⟨by have := pow32 hw; omega, fun _ => hl⟩
theorem Gb.beh {p s : Stv} {x y : Nat} (hp : Gb p x) (hs : Gb s y) : Gb (beh p s) (x + y) := by
  refine ⟨?_, fun h => ?_⟩
  · show p.1 + s.1 + 1 ≤ _
    rw [Nat.mul_add, Nat.pow_add]
    refine Nat.le_trans ?_ (Nat.mul_le_mul hp.1 hs.1)
    rw [Nat.add_mul, Nat.mul_add]
    omega
  · have h : p.1 + s.1 ≤ 24 := h
    show (p.2 ++ s.2).length = p.1 + s.1
    rw [List.length_append, hp.2 (by omega), hs.2 (by omega)]
theorem Gb.rep {s : Stv} {x y t : Nat} (hs : Gb s x) (h1 : 1 ≤ s.1) (t1 : 1 ≤ t) (t2 : t ≤ 24) (hy : x + 1 ≤ y) : Gb (rep s t) y := by
  refine ⟨?_, fun h => ?_⟩
  · show s.1 * t + 1 ≤ _
    refine Nat.le_trans ?_ (pow_mono5 hy)
    rw [Nat.mul_add, Nat.pow_add]
    have := Nat.mul_le_mul hs.1 (show 24 ≤ 2 ^ (5 * 1) by decide)
    have h2 : s.1 * t ≤ s.1 * 24 := Nat.mul_le_mul_left _ t2
    omega
  · have h : s.1 * t ≤ 24 := h
    have : s.1 ≤ s.1 * t := Nat.le_mul_of_pos_right _ t1
    show (rpt t s.2).length = s.1 * t
    rw [rpt_len, hs.2 (by omega), Nat.mul_comm]
theorem times_ok {r : List Nat} (h : ¬ (r ≠ [] ∧ within r 2 24 = false)) : 1 ≤ timesOf r ∧ timesOf r ≤ 24 ∧ (r ≠ [] → 1 ≤ r.length) := by
  unfold timesOf
  by_cases e : r = []
  · rw [if_pos e]; exact ⟨by decide, by decide, fun z => absurd e z⟩
  · rw [if_neg e]
    have : within r 2 24 = true := by
      cases hw : within r 2 24 with
      | true => rfl
      | false => exact absurd ⟨e, hw⟩ h
    have := within_iff.mp this
    exact ⟨by omega, this.2.2.2, fun _ => this.1⟩
theorem item_gd {z : List Nat} {rp : Option (Nat → Res)} (hp : ∀ f, rp = some f → Gd z f) : Gd z (item rp z) := by
  intro a s e ha h
  unfold item at h
  split at h
  · cases h
  · split at h
    · cases h
    · rename_i c hc
      have hl := (List.getElem?_eq_some_iff.mp hc).1
      have hb := bd_ge z a
      split at h
      · cases h
      · split at h
        · cases h
        · rename_i ht
          obtain ⟨t1, t2, t3⟩ := times_ok ht
          split at h
          · cases h
            refine ⟨by omega, by omega, ?_, ?_⟩
            · show 1 ≤ 1 * _; omega
            · refine Gb.small (by show 1 * _ ≤ 24; omega) (by omega) ?_
              show (rpt _ [c]).length = 1 * _
              rw [rpt_len, List.length_singleton]; omega
          · split at h
            · cases h
            · rename_i f
              have g := hp f rfl
              unfold close at h
              split at h
              · cases h
              · rename_i s' e' hf
                obtain ⟨g1, g2, g3, g4⟩ := g _ _ _ (by omega) hf
                split at h
                · rename_i h41
                  have := (List.getElem?_eq_some_iff.mp h41).1
                  cases h
                  refine ⟨by omega, by omega, Nat.mul_pos g3 t1, g4.rep g3 t1 t2 (by omega)⟩
                · cases h
theorem items_gd {z : List Nat} {ri : Nat → Res} (hi : Gd z ri) {a0 : Nat} : ∀ (f a : Nat) (p s : Stv) (e : Nat), a0 ≤ a → a ≤ z.length → Gb p (a - a0) → items ri z f a p = .ok (s, e) → a ≤ e ∧ e ≤ z.length ∧ Gb s (e - a0) ∧ (s.1 = 0 ∨ a < e ∨ s = p)
  | 0, a, p, s, e, h0, ha, hp, h => by
    unfold items at h
    cases h
    exact ⟨by omega, ha, hp, .inr (.inr rfl)⟩
  | f + 1, a, p, s, e, h0, ha, hp, h => by
    unfold items at h
    split at h
    · cases h
      exact ⟨by omega, ha, hp, .inr (.inr rfl)⟩
    · split at h
      · unfold goOn at h
        split at h
        · cases h
        · rename_i s' e' hf
          obtain ⟨g1, g2, g3, g4⟩ := hi _ _ _ ha hf
          have := items_gd hi (a0 := a0) f e' (beh p s') s e (by omega) g2 (by
            have := hp.beh g4
            rw [show a - a0 + (e' - a) = e' - a0 by omega] at this
            exact this) h
          exact ⟨by omega, this.2.1, this.2.2.1, .inr (.inl (by omega))⟩
      · cases h
        exact ⟨by omega, ha, hp, .inr (.inr rfl)⟩
theorem filled_gd {z : List Nat} {a e : Nat} {p s : Stv} (ha : a ≤ z.length) (hp : p.1 ≤ 24 → p.2.length = p.1) (h : filled z a p = .ok (s, e)) : a < e ∧ e ≤ z.length ∧ 1 ≤ s.1 ∧ s.1 ≤ 24 ∧ s.2.length = s.1 := by
  unfold filled at h
  split at h
  · cases h
  · rename_i hr
    split at h
    · cases h
    · rename_i hw
      have : within (run z a) (max 1 p.1) 24 = true := by
        cases hc : within (run z a) (max 1 p.1) 24 with
        | true => rfl
        | false => exact absurd (.inr hc) hw
      obtain ⟨w1, w2, w3, w4⟩ := within_iff.mp this
      cases h
      refine ⟨by unfold bd; omega, bd_le ha, by show 1 ≤ num _; omega, w4, ?_⟩
      show (p.2 ++ List.replicate _ 46).length = num _
      rw [List.length_append, List.length_replicate, hp (by omega)]
      omega
theorem part_gd {z : List Nat} {ri : Nat → Res} (hi : Gd z ri) : Gd z (part ri z) := by
  intro a s e ha h
  unfold part goOn at h
  split at h
  · cases h
  · rename_i p e' hf
    obtain ⟨g1, g2, g3, g4⟩ := items_gd hi (a0 := a) _ a (0, []) p e' (Nat.le_refl _) ha ⟨by rw [Nat.sub_self]; decide, fun _ => rfl⟩ hf
    unfold partEnd at h
    split at h
    · cases h
    · rename_i hp0
      have hlt : a < e' := by
        rcases g4 with g | g | g
        · exact absurd g hp0
        · exact g
        · rw [g] at hp0; exact absurd rfl hp0
      split at h
      · rename_i h64
        have := (List.getElem?_eq_some_iff.mp h64).1
        obtain ⟨f1, f2, f3, f4, f5⟩ := filled_gd (by omega) g3.2 h
        exact ⟨by omega, f2, f3, Gb.small f4 (by omega) f5⟩
      · cases h
        exact ⟨hlt, g2, by omega, g3⟩
def Gps (ps : List Stv) (w : Nat) : Prop := lcmL ps + 1 ≤ 2 ^ (5 * w) ∧ ∀ p ∈ ps, 1 ≤ p.1 ∧ (p.1 ≤ 24 → p.2.length = p.1)
theorem lcm_le_mul {a b : Nat} (ha : 1 ≤ a) (hb : 1 ≤ b) : Nat.lcm a b ≤ a * b := Nat.le_of_dvd (Nat.mul_pos ha hb) (Nat.lcm_dvd_mul a b)
theorem Gps.snoc {ps : List Stv} {s : Stv} {x y : Nat} (h : Gps ps x) (h1 : 1 ≤ s.1) (hs : Gb s y) : Gps (ps ++ [s]) (x + y) := by
  refine ⟨?_, fun p hp => ?_⟩
  · rw [lcmL_snoc, Nat.mul_add, Nat.pow_add]
    refine Nat.le_trans ?_ (Nat.mul_le_mul h.1 hs.1)
    have := lcm_le_mul (lcmL_pos fun p hp => (h.2 p hp).1) h1
    rw [Nat.add_mul, Nat.mul_add]
    omega
  · rcases List.mem_append.mp hp with hp | hp
    · exact h.2 p hp
    · rw [List.mem_singleton.mp hp]; exact ⟨h1, hs.2⟩
theorem Gps.shown {ps : List Stv} {w : Nat} (h : Gps ps w) : 1 ≤ (shown ps).1 ∧ Gb (shown ps) w :=
  ⟨lcmL_pos fun p hp => (h.2 p hp).1, h.1, fun _ => showN_len _ _⟩
theorem Gps.one {s : Stv} {w : Nat} (h1 : 1 ≤ s.1) (h : Gb s w) : Gps [s] w := by
  refine ⟨?_, fun p hp => ?_⟩
  · show Nat.lcm 1 s.1 + 1 ≤ _
    rw [show Nat.lcm 1 s.1 = s.1 by simp [Nat.lcm]]; exact h.1
  · rw [List.mem_singleton.mp hp]; exact ⟨h1, h.2⟩
theorem Gps.mono {ps : List Stv} {x y : Nat} (h : Gps ps x) (e : x ≤ y) : Gps ps y := ⟨Nat.le_trans h.1 (pow_mono5 e), h.2⟩
theorem more_gd {z : List Nat} {rq : Nat → Res} (hi : Gd z rq) {a0 : Nat} : ∀ (f a : Nat) (ps : List Stv) (s : Stv) (e : Nat), a0 ≤ a → a ≤ z.length → Gps ps (a - a0) → more rq z f a ps = .ok (s, e) → a ≤ e ∧ e ≤ z.length ∧ 1 ≤ s.1 ∧ Gb s (e - a0)
  | 0, a, ps, s, e, h0, ha, hp, h => by
    unfold more at h
    cases h
    exact ⟨by omega, ha, hp.shown⟩
  | f + 1, a, ps, s, e, h0, ha, hp, h => by
    unfold more at h
    split at h
    · rename_i h38
      have hl := (List.getElem?_eq_some_iff.mp h38).1
      unfold goOn at h
      split at h
      · cases h
      · rename_i s' e' hf
        obtain ⟨g1, g2, g3, g4⟩ := hi _ _ _ (by omega) hf
        have := more_gd hi (a0 := a0) f e' (ps ++ [s']) s e (by omega) g2 ((hp.snoc g3 g4).mono (by omega)) h
        exact ⟨by omega, this.2⟩
    · cases h
      exact ⟨by omega, ha, hp.shown⟩
theorem parts_gd {z : List Nat} {ri : Nat → Res} (hi : Gd z ri) : Gd z (parts ri z) := by
  intro a s e ha h
  unfold parts goOn at h
  split at h
  · cases h
  · rename_i s' e' hf
    obtain ⟨g1, g2, g3, g4⟩ := part_gd hi _ _ _ ha hf
    have := more_gd (part_gd hi) (a0 := a) _ e' [s'] s e (by omega) g2 (Gps.one g3 g4) h
    exact ⟨by omega, this.2⟩
theorem rdItem_zero (z : List Nat) : rdItem z 0 = item none z := by unfold rdItem; rfl
theorem rdItem_succ (z : List Nat) (d : Nat) : rdItem z (d + 1) = item (some (rd z d)) z := by conv => lhs; unfold rdItem
theorem rd_eq (z : List Nat) (d : Nat) : rd z d = parts (rdItem z d) z := by unfold rd; rfl
theorem rdItem_gd (z : List Nat) : ∀ d, Gd z (rdItem z d)
  | 0 => by rw [rdItem_zero]; exact item_gd fun f e => nomatch e
  | d + 1 => by
    rw [rdItem_succ]
    refine item_gd fun f e => ?_
    cases e
    rw [rd_eq]
    exact parts_gd (rdItem_gd z d)
theorem rd_gd (z : List Nat) (d : Nat) : Gd z (rd z d) := by rw [rd_eq]; exact parts_gd (rdItem_gd z d)
end Fg
namespace Fg
open PySem PySem.Spec PyProof.Rows L2
theorem range_getD_map {α β : Type} (xs : List α) (d : α) (g : α → β) : (List.range xs.length).map (fun i => g (xs.getD i d)) = xs.map g := by
  refine List.ext_getElem? fun i => ?_
  rw [List.getElem?_map, List.getElem?_map]
  by_cases h : i < xs.length
  · rw [List.getElem?_range h, Option.map_some, List.getD_eq_getElem?_getD, List.getElem?_eq_getElem h]
    rfl
  · rw [List.getElem?_eq_none (by simpa using h), List.getElem?_eq_none (by omega)]
    rfl
def PartsAt (H : Hp) (qs : List Addr) (ps : List Stv) : Prop := qs.length = ps.length ∧ ∀ (i : Nat) (q : Addr) (p : Stv), qs[i]? = some q → ps[i]? = some p → H q = some (Sv p.1 p.2)
theorem PartsAt.mono {H H' : Hp} {qs : List Addr} {ps : List Stv} (h : PartsAt H qs ps) (s : Same H H') : PartsAt H' qs ps := ⟨h.1, fun i q p a b => s _ _ (h.2 i q p a b)⟩
/-- below some thousand bits -/
def Big (n : Nat) : Prop := n < 2 ^ 8600
theorem Big.le {n m : Nat} (h : Big n) (e : m ≤ n) : Big m := Nat.lt_of_le_of_lt e h
theorem Big.div {n : Nat} {a : Int} (h : Big n) (h0 : (0 : Int) < (n : Int)) : CDivW a (n : Int) := wide_div (b := 8600) h0 (by rw [Int.natAbs_natCast]; exact h) (by decide) (by decide)
theorem Big.mul {n m : Nat} (h : Big n) (h' : Big m) : IntMulOk (n : Int) (m : Int) := CMulW.ok (wide_mul (a := 8600) (b := 8600) (by rw [Int.natAbs_natCast]; exact h) (by rw [Int.natAbs_natCast]; exact h') (by decide) (by decide) (by decide))
theorem Gb.big {s : Stv} {w : Nat} (h : Gb s w) (hw : w ≤ 1700) : Big s.1 := Nat.lt_of_lt_of_le (Nat.lt_of_lt_of_le (Nat.lt_succ_self _) h.1) (Nat.pow_le_pow_right (by decide) (by omega))
theorem Gps.big {ps : List Stv} {w : Nat} (h : Gps ps w) (hw : w ≤ 1700) : Big (lcmL ps) := Nat.lt_of_lt_of_le (Nat.lt_of_lt_of_le (Nat.lt_succ_self _) h.1) (Nat.pow_le_pow_right (by decide) (by omega))
theorem lcmL_take {ps : List Stv} (h : ∀ p ∈ ps, 1 ≤ p.1) (i : Nat) : lcmL (ps.take i) ≤ lcmL ps := by
  refine Nat.le_of_dvd (lcmL_pos h) ?_
  conv => rhs; rw [← List.take_append_drop i ps]
  unfold lcmL
  rw [List.foldl_append]
  exact (dvd_fold _ _).1
/-- int(text) -/
def rIntTx : RC := fun xs H Q => ∃ a n, xs = [.str a] ∧ PySem.intText? a = some n ∧ a.length ≤ 640 ∧ Q (.int n) H
theorem call_intTx {X : Cx} : CallR X (.type "int") rIntTx := call_int_str
theorem int1 : ∀ c ∈ DG, PySem.intText? ⟨#[c]⟩ = some ((num [c] : Nat) : Int) := by decide +kernel
theorem int2 : ∀ c ∈ DG, ∀ d ∈ DG, PySem.intText? ⟨#[c, d]⟩ = some ((num [c, d] : Nat) : Int) := by decide +kernel
theorem i_intTx {r : List Nat} {H : Hp} {Q : VK} (h1 : 1 ≤ r.length) (h2 : r.length ≤ 2) (hd : ∀ c ∈ r, c ∈ DG) (q : Q (.int ((num r : Nat) : Int)) H) : rIntTx [S r] H Q := by
  match r, h1, h2, hd, q with
  | [c], _, _, hd, q => exact ⟨_, _, rfl, int1 c (hd c (by simp)), (show 1 ≤ 640 by omega), q⟩
  | [c, d], _, _, hd, q => exact ⟨_, _, rfl, int2 c (hd c (by simp)) d (hd d (by simp)), (show 2 ≤ 640 by omega), q⟩
/-- str(int), of small ones -/
def dec (n : Nat) : List Nat := if n < 10 then [48 + n] else [48 + n / 10, 48 + n % 10]
theorem dec_str : ∀ n : Nat, n < 100 → (toString (n : Int) : Str) = ⟨(dec n).toArray⟩ := by decide +kernel
def rStrS : RC := fun xs H Q => ∃ n : Nat, xs = [.int (n : Int)] ∧ n < 100 ∧ Q (S (dec n)) H
theorem call_strS {X : Cx} : CallR X (.type "str") rStrS := by
  intro pins s σ H xs us Q I rs h
  obtain ⟨n, rfl, hn, q⟩ := h
  refine call_str_int pins s σ H _ us Q I rs ⟨(n : Int), rfl, ?_, ?_⟩
  · have : (n : Int).natAbs = n := Int.natAbs_natCast n
    rw [this]
    by_cases h0 : n = 0
    · subst h0; decide
    · exact Nat.lt_trans ((Nat.log2_lt h0).mpr (Nat.lt_trans hn (by decide : 100 < 2 ^ 7))) (by decide)
  · have e : V.str (toString (n : Int)) = S (dec n) := by unfold S; rw [dec_str n hn]
    rw [e]; exact q
def rpOf (z : List Nat) : Nat → Option (Nat → Res)
  | 0 => none
  | d + 1 => some (rd z d)
theorem rdItem_item (z : List Nat) (d : Nat) : rdItem z d = item (rpOf z d) z := by
  cases d with
  | zero => exact rdItem_zero z
  | succ d => exact rdItem_succ z d
/-- what is no string -/
def NoStr (H : Hp) (x : V) : Prop := x = .non ∨ (∃ b, x = .bl b) ∨ (∃ i, x = .int i) ∨ ∃ a xs, x = .ref a ∧ (H a = some (.tup xs) ∨ H a = some (.lst xs))
theorem NoStr.mono {H H' : Hp} {x : V} (h : NoStr H x) (s : Same H H') : NoStr H' x := by
  rcases h with h | h | h | ⟨a, xs, h, h2⟩
  · exact .inl h
  · exact .inr (.inl h)
  · exact .inr (.inr (.inl h))
  · exact .inr (.inr (.inr ⟨a, xs, h, h2.imp (s _ _) (s _ _)⟩))
end Fg
namespace Fg
open PySem PySem.Spec PyProof.Rows L2
theorem join_sep (sep : List Nat) (ls : List (List Nat)) : Txt.join ⟨sep.toArray⟩ (ls.map fun l => (⟨l.toArray⟩ : Str)) = ⟨(TL.joinL sep ls).toArray⟩ := by
  refine TL.ext_tl ?_
  rw [TL.join_eq, TL.tl_join, List.map_map]
  show TL.joinL sep.toArray.toList (ls.map fun l => l.toArray.toList) = (TL.joinL sep ls).toArray.toList
  simp
theorem i_joinG {K : PySem.W.Frag} {H : Hp} {Q : VK} {p : Addr} {sep : List Nat} {ls : List (List Nat)} (hs : SqL K H p (ls.map S)) (hz : (ls.map List.length).sum + ls.length * sep.length ≤ 100000) (q : Q (S (TL.joinL sep ls)) H) : rJoinP K (S sep) [.ref p] H Q := by
  refine ⟨⟨sep.toArray⟩, p, ls.map fun l => (⟨l.toArray⟩ : Str), rfl, rfl, .inl ?_, ?_, ?_⟩
  · rw [List.map_map]; exact hs
  · rw [List.map_map]
    have e : (ls.map ((·.length) ∘ fun l => (⟨l.toArray⟩ : Str))) = ls.map List.length := List.map_congr_left fun l _ => str_len l
    rw [e, List.length_map]
    have e2 : (⟨sep.toArray⟩ : Str).length = sep.length := str_len sep
    show (ls.map List.length).sum + ls.length * (⟨sep.toArray⟩ : Str).length ≤ _
    rw [e2]
    exact Nat.le_trans hz (by decide)
  · rw [join_sep]; exact q
theorem dec_len (n : Nat) : (dec n).length ≤ 2 := by
  unfold dec
  split <;> simp
end Fg
namespace Fg
open PySem PySem.Spec PyProof.Rows HotX
section
variable {prog : Program} {w : World} {A : Around} {Er : Value → Shared → Prop}
/-- the heap behind «from v» -/
def causeFrom (h : Heap) (a : Addr) (v : Value) : Heap := (h.update a (Obj.mapFields (·.setIfInBounds 3 v))).update a (Obj.mapFields (·.setIfInBounds 4 (.bool true)))
/-- one field of an exception written -/
theorem field_put {h : Heap} {a : Addr} {ob : Obj} {fs : Array Value} (g : h.get? a = some ob) (d : ob.data = .fields fs) (i : Nat) (v : Value) :
    (h.update a (Obj.mapFields (·.setIfInBounds i v))).get? a = some (ob.mapFields (·.setIfInBounds i v)) ∧ (ob.mapFields (·.setIfInBounds i v)).data = .fields (fs.setIfInBounds i v) :=
  have now := Obj.data_mapFields d (·.setIfInBounds i v)
  ⟨Heap.get?_update_self _ g (Obj.isFreed_of_fields now), now⟩
theorem causeFrom_at {h : Heap} {a : Addr} {ob : Obj} {fs : Array Value} {v : Value} (g : h.get? a = some ob) (d : ob.data = .fields fs) :
    (causeFrom h a v).get? a = some ((ob.mapFields (·.setIfInBounds 3 v)).mapFields (·.setIfInBounds 4 (.bool true))) ∧ ((ob.mapFields (·.setIfInBounds 3 v)).mapFields (·.setIfInBounds 4 (.bool true))).data = .fields ((fs.setIfInBounds 3 v).setIfInBounds 4 (.bool true)) :=
  have one := field_put g d 3 v
  field_put one.1 one.2 4 (.bool true)
theorem causeFrom_other {h : Heap} {a b : Addr} {v : Value} (far : a ≠ b) : (causeFrom h a v).get? b = h.get? b :=
  (Heap.get?_update_other _ _ far).trans (Heap.get?_update_other _ _ far)
/-- an exception is no class -/
theorem not_class {st : Shared} {a : Addr} {ob : Obj} {fs : Array Value} {R : Bool → Shared → Prop} (g : st.heap.get? a = some ob) (d : ob.data = .fields fs) (r : R false st) : wpAny (model prog w) A (isType (.ref a)) R Er st := by
  simp only [isType, loadHead]
  exact wpAny_bind (wpAny_loadPart g (by rw [d]; exact wpAny_pure r))
/-- .. its class told -/
theorem class_told {h : Heap} {a : Addr} {ob : Obj} {c : Value} (g : h.get? a = some ob) (k : ob.cls = c) : PySem.W.Looks (model prog w) h (typeOf (.ref a)) c :=
  fun _ _ _ _ kp r => wpAny_typeOf_ref (kp _ _ g) (by rw [k]; exact r)
theorem is_exc {h : Heap} {a : Addr} {ob : Obj} {c : Value} (g : h.get? a = some ob) (k : ob.cls = c) (sub : PySem.W.Looks (model prog w) h (isSubtype c (.type "BaseException")) true) :
    PySem.W.Looks (model prog w) h (isInstance (.ref a) (.type "BaseException")) true := (class_told g k).andThen sub
/-- an exception that is named is taken as it is -/
theorem exc_as_is {msg : String} {st : Shared} {a : Addr} {ob : Obj} {fs : Array Value} {c : Value} {R : Value → Shared → Prop} (g : st.heap.get? a = some ob) (d : ob.data = .fields fs) (k : ob.cls = c)
    (sub : PySem.W.Looks (model prog w) st.heap (isSubtype c (.type "BaseException")) true) (r : R (.ref a) st) : wpAny (model prog w) A (excFromValue (.ref a) msg) R Er st := by
  unfold excFromValue
  unfold isExcClass
  refine wpAny_bind (wpAny_bind (not_class g d (wpAny_pure ?_)))
  rw [if_neg (nofun : ¬ false = true)]
  refine wpAny_bind ((is_exc g k sub).here ?_)
  rw [if_pos rfl]
  exact wpAny_pure r
/-- the two fields of the cause are written, the exception is let go -/
theorem raise_cause {env : Env} {st : Shared} {ex ca : Sem Value} {R : Flow → Shared → Prop} {b : Addr}
    (h : wpAny (model prog w) A ex (fun v s1 => ∃ a ob fs c cb o1 f1, v = .ref a ∧ (s1.heap.get? a = some ob ∧ ob.cls = c ∧ ob.data = .fields fs ∧ fs[1]? = some .none ∧ 4 < fs.size) ∧ b ≠ a ∧ HotAt A b s1.heap ∧ (s1.heap.get? b = some o1 ∧ o1.cls = cb ∧ o1.data = .fields f1) ∧
      (∀ R' : Value → Shared → Prop, R' (.ref b) s1 → wpAny (model prog w) A ca R' Er s1) ∧
      PySem.W.Looks (model prog w) s1.heap (isSubtype c (.type "BaseException")) true ∧ PySem.W.Looks (model prog w) s1.heap (isSubtype cb (.type "BaseException")) true ∧ PySem.W.Looks (model prog w) (causeFrom s1.heap a (.ref b)) (typeOf c) (.type "type") ∧
      Er (.ref a) { s1 with heap := (causeFrom s1.heap a (.ref b)).update a (Obj.mapFields (·.setIfInBounds 2 (.ref b))) }) Er st) :
    wpAny (model prog w) A (raiseStmt env (some ex) (some ca)) R Er st := by
  unfold raiseStmt
  refine wpAny_bind (wpAny_mono h ?_ fun _ _ z => z)
  rintro v s1 ⟨a, ob, fs, c, cb, o1, f1, rfl, ⟨g, k, d, noTb, big⟩, far, hot, ⟨gb, kb, db⟩, told, sub, subB, meta_, wish⟩
  have put3 := field_put g d 3 (.ref b)
  have put4 := field_put put3.1 put3.2 4 (.bool true)
  refine wpAny_bind (wpAny_holding (told _ (wpAny_bind (wpAny_pure ?_))))
  refine wpAny_bind (wpAny_holding (exc_as_is g d k sub ?_))
  have some_ : ¬ ((Value.ref b == Value.none) = true) := by simp
  first
    | rw [if_neg some_]
    | (show wpAny _ _ (if (Value.ref b == Value.none) = true then _ else _) _ _ _; rw [if_neg some_])
  refine wpAny_bind (wpAny_holding (exc_as_is gb db kb subB ?_))
  refine wpAny_bind (wpAny_setField g d (by omega) (wpAny_bind (wpAny_setField put3.1 put3.2 (by rw [set_size]; exact big) ?_)))
  have now : (causeFrom s1.heap a (.ref b)).get? a = some ((ob.mapFields (·.setIfInBounds 3 (.ref b))).mapFields (·.setIfInBounds 4 (.bool true))) := put4.1
  have stillNo : ((fs.setIfInBounds 3 (Value.ref b)).setIfInBounds 4 (Value.bool true))[1]? = some Value.none := set_other (by decide) (set_other (by decide) noTb)
  have cls4 : ((ob.mapFields (·.setIfInBounds 3 (Value.ref b))).mapFields (·.setIfInBounds 4 (.bool true))).cls = c := by
    rw [Obj.cls_mapFields, Obj.cls_mapFields]
    exact k
  have hot4 : HotAt A b (causeFrom s1.heap a (.ref b)) := by
    obtain ⟨z1, oh, fh, z2, z3, z4⟩ := hot
    exact ⟨z1, oh, fh, (causeFrom_other (Ne.symm far)).trans z2, z3, z4⟩
  show wpAny (model prog w) A _ R Er { s1 with heap := causeFrom s1.heap a (.ref b) }
  refine wpAny_bind (not_class now put4.2 ?_)
  rw [if_neg (nofun : ¬ false = true)]
  unfold raisedInstance
  have one := class_told (prog := prog) (w := w) now cls4
  refine wpAny_bind (wpAny_bind (one.here (wpAny_bind (meta_.here ?_))))
  refine wpAny_pure ?_
  have flight : ∀ {R' : Unit → Shared → Prop}, R' () { s1 with heap := causeFrom s1.heap a (.ref b) } → wpAny (model prog w) A (setFlight (.ref a) none) R' Er { s1 with heap := causeFrom s1.heap a (.ref b) } := fun r => by
    unfold setFlight
    refine wpAny_bind (wpAny_field now put4.2 stillNo ?_)
    rw [if_neg (by decide)]
    exact wpAny_pure r
  exact wpAny_bind (flight (raiseNew_hot hot4 far now put4.2 (by rw [set_size, set_size]; omega) wish))
end
end Fg
namespace Fg
open PySem PySem.Spec PyProof.Rows L2 L2H HotX
/-- raise X(..) from why, in an except suite: why is the exception that is handled -/
theorem ps_raiseHF {Z : Cx} {W : WX} {ex : Expr} {t : L2.St → Hp → XK → Prop} {i : Nat} {n : Str} {b : Addr} {ob : Obj} {cb : Value} {db : Option Addr} {np pos : Pos} (hot : Z.A.handled = some (.ref b)) (pinned : (b, ob) ∈ Z.pn) (zn : L2N.Zn cb db ob) (flds : ∃ vs, ob.data = .fields vs)
    (tk : L2.Takes Z W) (made : PMk5 Z ex t) (slot : Z.N[i]? = some n) (kind : Z.env.scope.names.lookup n = some .local) (nd : (n == ("__debug__" : Str)) = false := by decide) :
    PS Z (.Raise (some ex) (some (.Name n np)) pos) (fun _ τ G => Raises Z cb ∧ τ[i]? = some (some (.ref b)) ∧ t τ G fun cls d G' => W cls d τ G') where
  run pn st τ G D J h := by
    obtain ⟨rb, there, want⟩ := h
    obtain ⟨fb, eb⟩ := flds
    have ctx := zn.2.2 fb eb
    show wpAny _ _ (do standAt pos; raiseStmt Z.env (some (do let v ← eval ex Z.env; standAt pos; pure v)) (some (do let v ← eval (.Name n np) Z.env; standAt pos; pure v))) _ _ _
    refine wpAny_bind (wpAny_standAt (raise_cause (b := b) (wpAny_bind (wpAny_mono (made pn st τ G _ J want) ?_ fun _ _ z => z))))
    rintro u s1 ⟨⟨a, oe, vs, sI, G', cls, d, rfl, J1, kp, fresh, g, z, dt, noTb, na, os, ag, r, q⟩, big⟩
    apply wpAny_bind
    apply wpAny_standAt
    apply wpAny_pure
    have size := big a oe vs rfl g dt
    have apart : ∀ y o, sI.heap.get? y = some o → a ≠ y := fun y o e same => by
      rw [← same, fresh] at e
      cases e
    have kp4 : ∀ y o, sI.heap.get? y = some o → (causeFrom s1.heap a (.ref b)).get? y = some o := fun y o e => (causeFrom_other (apart y o e)).trans (kp y o e)
    have atB := (J1.pin (b, ob) (List.mem_append_left _ pinned)).1
    have far : b ≠ a := (apart b ob atB).symm
    have put := causeFrom_at (v := .ref b) g dt
    have last := field_put put.1 put.2 2 (.ref b)
    refine ⟨a, oe, vs, cls, cb, ob, fb, rfl, ⟨g, z.1, dt, noTb, size⟩, far, ⟨hot, ob, fb, kp _ _ atB, eb, ctx⟩, ⟨kp _ _ atB, zn.1, eb⟩, fun R' q' => ?_,
      (r (model Z.prog Z.w) s1.heap (J1.kIn.keeps kp)).1, (rb (model Z.prog Z.w) s1.heap (J1.kIn.keeps kp)).1, (r (model Z.prog Z.w) (causeFrom s1.heap a (.ref b)) (J1.kIn.keeps kp4)).2, tk _ _ ?_⟩
    · obtain ⟨m, names, loc⟩ := J1.loc
      obtain ⟨u, rel, stands⟩ := loc i n _ slot there (.inl kind)
      rcases stands with ⟨_, held⟩ | ⟨cellK, _⟩
      · cases (rel : u = Value.ref b)
        exact wpAny_bind (wpAny_Name (wpAny_loadName_local J1.ok.kind kind (names.keeps kp) held (wpAny_bind (wpAny_standAt (wpAny_pure q')))) nd)
      · exfalso
        rcases cellK with y | y
        · have y : Z.env.scope.names.lookup n = some .cell := y
          rw [kind] at y; cases y
        · have y : Z.env.scope.names.lookup n = some .free := y
          rw [kind] at y; cases y
    · refine XE.new J1 (fun y o e => ?_) fresh last.1 ⟨?_, ?_⟩ last.2 (set_other (by decide) (set_other (by decide) (set_other (by decide) noTb))) na os ag q
      · exact (Heap.get?_update_other _ _ (apart y o e)).trans (kp4 y o e)
      · simp only [Obj.cls_mapFields]
        exact z.1
      · simp only [HandSPX.dict_mapFields]
        exact z.2.1
end Fg
namespace Fg
open PySem PySem.Spec PyProof.Rows L2 L2H HotX
section
variable {P : Program} {w : World} {K : PySem.W.Frag} {mg : Str → Option Value} {base : Heap} {C fI : Addr} {f g q x : Str}
/-- its __init__ while an error is handled -/
theorem ini_ok2H {sd : Stmt} {fd : FuncData} (F : Fun K "__init__" q sd fI fd) (S : FnScope ["self", f, g] ["self", f, g] (defScope sd))
    (ox : OexC K C) (noF : PySem.W.findIn K (.ref C) f = some none) (noG : PySem.W.findIn K (.ref C) g = some none)
    (body : ∀ (cdv : Value) (A : Around) (fs : List Env) (st : Shared) (G : Hp) (Er : XK) (p : Addr × Obj), PSs (cxH CX0 P w K mg base ["self", f, g] q (defScope sd) fI cdv A fs st G Er p) (defBody sd) (tSeq (tOst K f (tVar 0) (tVar 1)) (tOst K g (tVar 0) (tVar 2)))) :
    FnH P w K mg base CX0 1 fI fd ["self", f, g] (spIni2 C f g) := by
  obtain ⟨_, _, _, _, _, _, cdv, _, _, rfl, found, code⟩ := F.ex
  refine fn_ofH found code S (fun xs G R Er h => len3 xs G R Er h) fun A fs st G xs R Er p _ _ h => ⟨_, body cdv A fs st G Er p, ?_⟩
  obtain ⟨_, v, y, rfl, a, rfl, fresh, go⟩ := h
  refine ⟨v, rfl, .ref a, rfl, a, C, rfl, ox, noF, .inl ⟨fresh, fun dx free ne => ?_⟩⟩
  have atA : (upd (upd G dx (exd dx [(f, v)])) a (exo a C (some dx))) dx = some (exd dx [(f, v)]) := (upd_ne ne).trans upd_same
  refine ⟨y, rfl, .ref a, rfl, a, C, rfl, ox, noG, .inr ⟨dx, _, upd_same, atA, by show 1 ≤ 900; decide, ?_⟩⟩
  exact go dx _ free ne ((upd_ne ne.symm).trans upd_same) upd_same fun b n1 n2 => ((upd_ne n2).trans (upd_ne n1)).trans (upd_ne n2)
def OKx2H (P : Program) (w : World) (K : PySem.W.Frag) (mg : Str → Option Value) (base : Heap) (x f g : Str) (C : Addr) : Prop :=
  (mg x = some (.ref C) ∧ OexC K C) ∧ ∃ (fI : Addr) (fd : FuncData), (PySem.W.findIn K (.ref C) "__init__" = some (some (.ref fI)) ∧ PySem.W.typeIn K (.ref fI) = some (.type "function")) ∧
    FnH P w K mg base CX0 1 fI fd ["self", f, g] (spIni2 C f g) ∧ Binds K fd ["self", f, g] []
end
theorem pmk_E2H {Z : Cx} {x f g : Str} {C : Addr} {e : Expr} {es : List Expr} {ta : TA} {p pos : PySem.Pos} {k : Nat} (def_ : OKx2H Z.prog Z.w Z.K Z.mg Z.base x f g C) (room : RoomH (k + 2) Z.A) (hot : HotC Z) (args : PA Z (e :: es) ta) (gl : Gl Z x := by rfl)
    (nd : (x == ("__debug__" : Str)) = false := by decide)
    (plain : starEach (e :: es) Z.env = (false, eval e Z.env) :: starEach es Z.env := by rfl)
    (nost : (backTo pos (starEach es Z.env)).any (·.1) = false := by rfl) :
    PMk5 Z (.Call (.Name x p) (e :: es) [] pos) (tMkE2 C f g ta) := by
  obtain ⟨⟨here, ox⟩, fI, fd, ⟨find, ty⟩, F, binds⟩ := def_
  intro pn st τ G Q J h
  refine pmk5_oexH (k := 1) ox find ty F (room.mono (by omega)) hot binds pass0 gl here (pa_mono args) nd plain nost pn st τ G Q J ⟨_, h, ?_⟩
  rintro vs G1 ⟨v, y, rfl, go⟩
  refine ⟨by show 2 ≤ 1000; omega, fun a free => ⟨.ref a, v, y, rfl, a, rfl, upd_same, fun dx G2 nd2 ne at1 at2 same => ⟨rfl, dx, [(g, y), (f, v)], at1, at2, ?_, ?_⟩⟩⟩
  · rwa [upd_ne ne] at nd2
  · rw [upd_ne ne] at nd2
    have all : upd (del G2 a) dx (.xd [(g, y), (f, v)]) = upd G1 dx (.xd [(g, y), (f, v)]) := by
      funext b
      by_cases h1 : b = dx
      · rw [h1, upd_same, upd_same]
      · rw [upd_ne h1, upd_ne h1]
        by_cases h2 : b = a
        · rw [h2, del_same, free]
        · rw [del_ne h2, same b h2 h1, upd_ne h2]
    rw [all]
    exact go dx nd2
/-- a class that can be raised, told of the written part alone -/
def RsK (K : PySem.W.Frag) (cls : Value) : Prop := PySem.W.subIn K cls (.type "BaseException") = some true ∧ PySem.W.typeIn K cls = some (.type "type")
/-- ps_raiseHF, its reading free of the suite's own parts -/
theorem ps_raiseHK {Z : Cx} {W : WX} {ex : Expr} {t : L2.St → Hp → XK → Prop} {i : Nat} {n : Str} {b : Addr} {ob : Obj} {cb : Value} {db : Option Addr} {np pos : PySem.Pos} (K : PySem.W.Frag) (hot : Z.A.handled = some (.ref b)) (pinned : (b, ob) ∈ Z.pn) (zn : L2N.Zn cb db ob)
    (flds : ∃ vs, ob.data = .fields vs) (tk : L2.Takes Z W) (made : PMk5 Z ex t) (slot : Z.N[i]? = some n) (kind : Z.env.scope.names.lookup n = some .local) (same : Z.K = K := by rfl) (nd : (n == ("__debug__" : Str)) = false := by decide) :
    PS Z (.Raise (some ex) (some (.Name n np)) pos) (fun _ τ G => RsK K cb ∧ τ[i]? = some (some (.ref b)) ∧ t τ G fun cls d G' => W cls d τ G') := by
  subst same
  exact ⟨fun pn st τ G D J h => (ps_raiseHF hot pinned zn flds tk made slot kind nd).run pn st τ G D J ⟨raises_own h.1.1 h.1.2, h.2⟩⟩
end Fg
namespace Fg
open PySem PySem.Spec PyProof.Rows L2 L2H HotX
/-- the context of an except suite that may raise, with its own end of errors -/
abbrev suiteXE (Z : Cx) (a : Addr) (pl : List (Addr × Obj)) (xe : Value → Shared → Prop) : Cx := { Z with A := Z.A.mark (some (.ref a)), calm := false, pn := pl, xe := xe }
section
variable {Z : Cx} {pl : List (Addr × Obj)} {τ : L2.St} {G : Hp} {st : Shared} {a T : Addr} {oa oT : Obj} {fa fT : Array Value}
theorem suiteXE_of {a : Addr} {p1 p2 : List (Addr × Obj)} {xe : Value → Shared → Prop} (J : Inv (Z.suite a p1) p2 τ G st) : Inv (suiteXE Z a p1 xe) p2 τ G st := Inv.unwish (X := suiteXE Z a p1 xe) (E := fun _ _ => False) J
theorem unsuiteXE {a : Addr} {q : Addr × Obj} {p2 : List (Addr × Obj)} {xe : Value → Shared → Prop} (J : Inv (suiteXE Z a (q :: (Z.pn ++ pl)) xe) p2 τ G st) (ok : Z.Ok) : Inv Z pl τ G st := by
  have back : Inv (Z.suite a (q :: (Z.pn ++ pl))) p2 τ G st := J.wish fun _ _ => False
  exact Inv.unsuite (X := Z) (a := a) (q := q) (pn' := p2) back ok
/-- what has fields is no frame -/
theorem no_frame {B h : Heap} {l : List Env} (ff : h.FunFrames B l) (g : h.get? a = some oa) (d : oa.data = .fields fa) : a ∉ frs l := fun m => by
  obtain ⟨_, ob, gb, other⟩ := ff.mem m
  rw [g] at gb
  cases gb
  exact other _ d
theorem in_frs (hf : Z.env.frame = some Z.env.locals) : Z.env.locals ∈ frs (Z.env :: Z.outer) ∧ ∀ b ∈ Z.fs, b ∈ frs (Z.env :: Z.outer) :=
  ⟨List.mem_filterMap.mpr ⟨Z.env, List.mem_cons_self, hf⟩, fun b m => by
    obtain ⟨en, inn, eq⟩ := List.mem_filterMap.mp m
    exact List.mem_filterMap.mpr ⟨en, List.mem_cons_of_mem _ inn, eq⟩⟩
/-- a thing with fields may be pinned -/
theorem pin_one (hf : Z.env.frame = some Z.env.locals) (g : st.heap.get? a = some oa) (d : oa.data = .fields fa) (no : a ∉ frs (Z.env :: Z.outer)) (n : G a = none) :
    st.heap.get? a = some oa ∧ G a = none ∧ a ≠ Z.env.locals ∧ a ∉ Z.fs ∧ ∀ v, oa.data ≠ .cell v := by
  obtain ⟨f1, f2⟩ := in_frs hf
  refine ⟨g, n, fun y => no (y ▸ f1), fun m => no (f2 a m), fun v y => ?_⟩
  rw [d] at y
  cases y
theorem pins_two (ok : Z.Ok) (J : Inv Z pl τ G st) (p1 : st.heap.get? a = some oa ∧ G a = none ∧ a ≠ Z.env.locals ∧ a ∉ Z.fs ∧ ∀ v, oa.data ≠ .cell v) (p2 : st.heap.get? T = some oT ∧ G T = none ∧ T ≠ Z.env.locals ∧ T ∉ Z.fs ∧ ∀ v, oT.data ≠ .cell v) :
    Inv (Z.suite a ((a, oa) :: (T, oT) :: (Z.pn ++ pl))) [] τ G st := by
  refine ⟨J.ok.suite _ _, J.os, J.bare, J.base, J.loc, J.cell, J.free, J.freeC, ?_, J.hok, J.len⟩
  intro p m
  have m : p ∈ (a, oa) :: (T, oT) :: (Z.pn ++ pl) := by simpa using m
  simp only [List.mem_cons] at m
  rcases m with rfl | rfl | m
  · exact p1
  · exact p2
  · exact J.pin p m
/-- a heap without two things -/
theorem two_out (h : Heap) (a T : Addr) : ∃ g : Heap, (∀ b o, g.get? b = some o → h.get? b = some o ∧ b ≠ a ∧ b ≠ T) ∧ ∀ b o, b ≠ a → b ≠ T → h.get? b = some o → g.get? b = some o := by
  obtain ⟨g, keep, drop⟩ := restrict h fun b => decide (b ≠ a ∧ b ≠ T)
  refine ⟨g, fun b o e => ?_, fun b o n1 n2 e => ?_⟩
  · by_cases y : b ≠ a ∧ b ≠ T
    · exact ⟨by rw [← keep b (decide_eq_true y)]; exact e, y⟩
    · have := drop b (decide_eq_false y)
      rw [e] at this
      cases this
  · rw [keep b (decide_eq_true ⟨n1, n2⟩)]
    exact e
end
/-- behind the suite's name what flies across goes on -/
def wUn (i : Nat) (W : WX) : WX := fun cls d τ G => W cls d (τ.set i none) G
section
variable {Z : Cx} {a0 : Addr} {o0 : Obj} {pl : List (Addr × Obj)} {i : Nat} {n : Str} {upos : Pos} {W : WX} {xe R : Value → Shared → Prop}
/-- the suite's end when u flies out of it: the name goes, u goes on -/
abbrev goesOut (Z : Cx) (a0 : Addr) (n : Str) (upos : Pos) (R : Value → Shared → Prop) (u : Value) (s1 : Shared) : Prop :=
  wpAny (model Z.prog Z.w) (Z.A.mark (some (.ref a0))) (do bindName Z.env n .none; unbindBehindTheSuite Z.env n upos)
    (fun _ s2 => wpAny (model Z.prog Z.w) (Z.A.mark (some (.ref a0))) (PySem.passOn "try.except-as" u Z.env : Sem Flow) (fun _ _ => False) (notedBy (model Z.prog Z.w) (Z.A.mark (some (.ref a0))) Z.env R) s2)
    (fun y s2 => wpAny (model Z.prog Z.w) (Z.A.mark (some (.ref a0))) (setFlight u none) (fun _ s3 => notedBy (model Z.prog Z.w) (Z.A.mark (some (.ref a0))) Z.env R y s3) (notedBy (model Z.prog Z.w) (Z.A.mark (some (.ref a0))) Z.env R) s2) s1
/-- .. once it is noted -/
theorem held_goes {B : Heap} {a : Addr} {cls : Value} {d : Option Addr} {sI s' : Shared} {h3 : Heap} {τ : L2.St} {G : Hp} (hs : Z.stack = Z.env :: Z.outer) (hf : Z.env.frame = some Z.env.locals) (hex : Z.ex = []) (ok : Z.Ok)
    (nodup : Z.N.Nodup) (slot : Z.N[i]? = some n) (kind : Z.env.kindOf n = some .local) (tk : L2.Takes Z W) (note : ∀ x s, Z.xe x s → notedBy (model Z.prog Z.w) (Z.A.mark (some (.ref a0))) Z.env R x s)
    (J : Inv Z pl τ G sI) (ground : ∀ b o, sI.heap.get? b = some o → b ∉ frs Z.stack → B.get? b = some o) (fl : HandSPX.HeldZ B (Z.env :: Z.outer) a (Zc cls d) Z.env.locals h3) (J3 : Inv Z pl τ G { s' with heap := h3 }) (na : G a = none) (want : W cls d (τ.set i none) G) :
    goesOut Z a0 n upos R (.ref a) { s' with heap := h3 } := by
  have frames : (Z.A.mark (some (.ref a0))).frames = some (Z.env :: Z.outer) := (ok.frames).trans (by rw [hs])
  obtain ⟨_, aB, ff, oa, fa, T, oT, fT, ga, za, da, a1, TB, Tn, gT, dT, t3⟩ := id fl
  have nT : G T = none := (J.inGround ground).gone TB
  have aOff := no_frame ff ga da
  have tOff := no_frame ff gT dT
  have S3 := pins_two ok J3 (pin_one hf ga da aOff na) (pin_one hf gT dT tOff nT)
  refine gone_ok (X := Z.suite a ((a, oa) :: (T, oT) :: (Z.pn ++ pl))) S3 nodup slot kind fun s6 S6 => ?_
  generalize τ.set i none = τ6 at *
  have rest : ∀ p ∈ Z.pn ++ pl, p ∈ (Z.suite a ((a, oa) :: (T, oT) :: (Z.pn ++ pl))).pn ++ [] := fun p m => by
    rw [List.append_nil]
    exact List.mem_cons_of_mem _ (List.mem_cons_of_mem _ m)
  have J6 : Inv Z pl τ6 G s6 := ⟨ok, S6.os, S6.bare, S6.base, S6.loc, S6.cell, S6.free, S6.freeC, fun p m => S6.pin p (rest p m), S6.hok, S6.len⟩
  have ga6 := (S6.pin (a, oa) (List.mem_append_left [] List.mem_cons_self)).1
  have gT6 := (S6.pin (T, oT) (List.mem_append_left [] (List.mem_cons_of_mem (a, oa) List.mem_cons_self))).1
  have apart : ∀ b o, sI.heap.get? b = some o → b ≠ a ∧ b ≠ T := fun b o e => by
    by_cases m : b ∈ frs (Z.env :: Z.outer)
    · exact ⟨fun y => aOff (y ▸ m), fun y => tOff (y ▸ m)⟩
    · have inB := ground b o e (by rw [hs]; exact m)
      refine ⟨fun y => ?_, fun y => ?_⟩
      · rw [y, aB] at inB; cases inB
      · rw [y, TB] at inB; cases inB
  have apart0 : ∀ b o, Z.s_0.heap.get? b = some o → b ≠ a ∧ b ≠ T := fun b o e => by
    obtain ⟨o1, e1⟩ := J.base.there b o e (by simp [hex])
    exact apart b o1 e1
  obtain ⟨g, inG, ofG⟩ := two_out s6.heap a T
  have I6 : Inv Z pl τ6 G { s6 with heap := g } := J6.less (fun b o e => (inG b o e).1) ofG ⟨oa, fa, ga6, da⟩ ⟨oT, fT, gT6, dT⟩ na nT apart0 fun p m => apart p.1 p.2 (J.pin p m).1
  have hidden : ∀ b, b = a ∨ b = T → (PySem.W.hideAll g (frs Z.stack)).get? b = none := fun b y => by
    cases e : (PySem.W.hideAll g (frs Z.stack)).get? b with
    | none => rfl
    | some o =>
      have out := (inG b o (PySem.W.of_hideAll _ e)).2
      exact absurd y (by simp [out.1, out.2])
  have ff6 : s6.heap.FunFrames (PySem.W.hideAll g (frs Z.stack)) (Z.env :: Z.outer) := by
    rw [← hs]
    exact funFrames_none J6.stack fun b m => PySem.W.hideAll_none _ m
  have traced : HandSPX.TracedZ s6.heap (PySem.W.hideAll g (frs Z.stack)) a (Zc cls d) (rawInt Z.env.locals) := ⟨oa, fa, T, oT, fT, ga6, za, da, a1, hidden T (.inr rfl), Tn, gT6, dT, t3⟩
  have on : wpAny (model Z.prog Z.w) (Z.A.mark (some (.ref a0))) (setFlight (.ref a) Z.env.frame) (fun _ s7 => wpAny (model Z.prog Z.w) (Z.A.mark (some (.ref a0))) (throw (.ref a) : Sem Flow) (fun _ _ => False) (notedBy (model Z.prog Z.w) (Z.A.mark (some (.ref a0))) Z.env R) s7)
      (notedBy (model Z.prog Z.w) (Z.A.mark (some (.ref a0))) Z.env R) s6 := by
    rw [hf]
    refine HandSPX.setFlight_anyZ (fun b o e => (inG b o (PySem.W.of_hideAll _ e)).1) ff6 traced fun h7 m1 m2 m3 up7 => ?_
    have held7 : HandSPX.HeldZ (PySem.W.hideAll g (frs Z.stack)) (Z.env :: Z.outer) a (Zc cls d) Z.env.locals h7 := ⟨m1, hidden a (.inl rfl), m2, m3⟩
    rw [← hs] at held7
    have up : g.UpToSlots h7 := (Heap.UpToSlots.of_keeps fun b o e => (inG b o e).1).trans up7
    exact wpAny_throw (note _ _ (tk _ _ ⟨a, _, { s6 with heap := g }, pl, τ6, G, cls, d, rfl, I6, fun b o e m => PySem.W.hideAll_get _ e m, up, .inr (.inr held7), na, rfl, J6.bare, want⟩))
  unfold PySem.passOn
  refine wpAny_bind (wpAny_field ga6 da a1 ?_)
  have isRef : ¬ ((Value.ref T == Value.none) = true) := nofun
  rw [if_neg isRef]
  first
    | exact wpAny_bind (wpAny_pure (wpAny_bind on))
    | exact wpAny_bind on
theorem as_gone {u : Value} {s' : Shared} (hs : Z.stack = Z.env :: Z.outer) (hf : Z.env.frame = some Z.env.locals) (hex : Z.ex = []) (ok : Z.Ok)
    (nodup : Z.N.Nodup) (slot : Z.N[i]? = some n) (kind : Z.env.kindOf n = some .local) (tk : L2.Takes Z W) (note : ∀ x s, Z.xe x s → notedBy (model Z.prog Z.w) (Z.A.mark (some (.ref a0))) Z.env R x s)
    (out : L2.XE (suiteXE Z a0 ((a0, o0) :: (Z.pn ++ pl)) xe) (wUn i W) u s') :
    wpAny (model Z.prog Z.w) (Z.A.mark (some (.ref a0))) (noteFrame u Z.env) (fun _ s1 => goesOut Z a0 n upos R u s1) (notedBy (model Z.prog Z.w) (Z.A.mark (some (.ref a0))) Z.env R) s' := by
  have frames : (Z.A.mark (some (.ref a0))).frames = some (Z.env :: Z.outer) := (ok.frames).trans (by rw [hs])
  obtain ⟨a, B, sI, _, τ, G, cls, d, rfl, J1, ground, up, sky, na, os, ag, want⟩ := out
  have J : Inv Z pl τ G sI := unsuiteXE J1 ok
  replace sky : L2.Sky B (Z.env :: Z.outer) a (Zc cls d) Z.env.locals s'.heap := hs ▸ sky
  have fin : ∀ h3, HandSPX.HeldZ B (Z.env :: Z.outer) a (Zc cls d) Z.env.locals h3 → s'.heap.UpToSlots h3 → goesOut Z a0 n upos R (.ref a) { s' with heap := h3 } := fun h3 fl up3 =>
    held_goes hs hf hex ok nodup slot kind tk note J ground fl (J.landed ground fl.1 (up.trans up3) os ag) na want
  rcases sky with ⟨b1, b2, b3, ob, fs, b4, b5, b6, b7⟩ | fly | held
  · exact HandSPX.look_newZ Zc.steady frames b3 hf b4 b1 b2 b6 b7 b5 fin
  · exact HandSPX.looks_onZ Zc.steady frames hf fly fin
  · exact HandSPX.againZ hf held.2.2.2 (fin s'.heap held (Heap.UpToSlots.refl _))
end
/-- what the clause 'except (x1, x2) as n' wishes of an exception of the body: slot i is n's; the suite may raise -/
def wTA (K : PySem.W.Frag) (c1 c2 : Value) (i : Nat) (ts : Addr → Value → Option Addr → TS) (W : WX) (D : Ends) : WX := fun cls d τ G =>
  ∃ b, PySem.W.exmAny K cls [c1, c2] = some b ∧
    (b = true → ∀ a, G a = none → ts a cls d { nx := fun τ' G' => D.nx (τ'.set i none) G', rt := D.rt, bk := fun τ' G' => D.bk (τ'.set i none) G', ct := fun τ' G' => D.ct (τ'.set i none) G' } (τ.set i (some (.ref a))) G) ∧
    (b = false → W cls d τ G)
theorem fly_push {B h : Heap} {l : List Env} {a : Addr} {Zp : Obj → Prop} {o : Obj} (fl : HandSPX.FlyingZ B l a Zp h) : HandSPX.FlyingZ B l a Zp (h.push o) := by
  have more : ∀ {b : Addr} {u : Obj}, h.get? b = some u → (h.push o).get? b = some u := fun e => Heap.get?_push_of_some _ e
  obtain ⟨inB, aB, ff, oa, fa, T, oT, fT, ga, za, da, a1, TB, Tn, gT, dT, t3⟩ := fl
  exact ⟨fun b u e => more (inB b u e), aB, ff.of_keeps fun b u e _ => ⟨u, more e, rfl⟩, oa, fa, T, oT, fT, more ga, za, da, a1, TB, Tn, more gT, dT, t3⟩
section
variable {Z : Cx} {x1 x2 n : Str} {c1 c2 : Value} {i : Nat} {body suite : List Stmt} {b0 : Stmt} {np1 np2 pos hpos tpos : Pos} {tb : WX → TS} {ts : Addr → Value → Option Addr → TS} {W : WX}
theorem ps_try_tupAsX {cx0} (hs : Z.stack = Z.env :: Z.outer) (hf : Z.env.frame = some Z.env.locals) (hex : Z.ex = []) (nodup : Z.N.Nodup) (slot : Z.N[i]? = some n) (kind : Z.env.kindOf n = some .local)
    (gl1 : Gl Z x1) (nd1 : (x1 == ("__debug__" : Str)) = false) (m1 : Z.mg x1 = some c1) (gl2 : Gl Z x2) (nd2 : (x2 == ("__debug__" : Str)) = false) (m2 : Z.mg x2 = some c2)
    (pass : ∀ v : Option Value, PassesOwnAt (model Z.prog Z.w) (Z.A.mark v) Z.A Z.env Z.xe) (tk : L2.Takes Z W)
    (bodyOk : ∀ (V : WX) (pl : List (Addr × Obj)) (xe : Value → Shared → Prop), L2N.Takes (Z.tr pl xe) V → PassesOwn (model Z.prog Z.w) Z.A Z.env xe → PSs (Z.tr pl xe) body (tb V))
    (suiteOk : ∀ (a : Addr) (ob : Obj) (cls : Value) (d : Option Addr) (pl : List (Addr × Obj)) (xe : Value → Shared → Prop), L2N.Zn cls d ob → (∃ vs, ob.data = .fields vs) → L2.Takes (suiteXE Z a ((a, ob) :: pl) xe) (wUn i W) → HotC (suiteXE Z a ((a, ob) :: pl) xe) →
      PSs (suiteXE Z a ((a, ob) :: pl) xe) (b0 :: suite) (ts a cls d))
    (st1 : starEach [.Name x1 np1, .Name x2 np2] Z.env = (false, eval (.Name x1 np1) Z.env) :: starEach [.Name x2 np2] Z.env := by rfl)
    (st2 : starEach [.Name x2 np2] Z.env = (false, eval (.Name x2 np2) Z.env) :: starEach [] Z.env := by rfl) :
    PS Z (.Try body [.ExceptHandler (some (.Tuple [.Name x1 np1, .Name x2 np2] cx0 tpos)) (some n) (b0 :: suite) hpos] [] [] pos) (fun D τ G => tb (wTA Z.K c1 c2 i ts W D) D τ G) where
  run pl st τ G D J h := by
    have ok := J.ok
    have frames : Z.A.frames = some (Z.env :: Z.outer) := (ok.frames).trans (by rw [hs])
    have walk := bodyOk (wTA Z.K c1 c2 i ts W D) (Z.pn ++ pl) (fun e s1 => wpAny (model Z.prog Z.w) Z.A (noteFrame e Z.env) (fun _ s2 => wpAny (model Z.prog Z.w) Z.A (setFlight e none) (fun _ s3 =>
      wpAny (model Z.prog Z.w) Z.A (handleBy e Z.env [.ExceptHandler (some (.Tuple [.Name x1 np1, .Name x2 np2] cx0 tpos)) (some n) (b0 :: suite) hpos]) (SP Z pl D) Z.xe s3) Z.xe s2) Z.xe s1)
    refine wpAny_Try_except (wpAny_mono ((walk ?_ PassesOwn.looking).run [] st τ G D (J.toTry _) h) ?_ fun _ _ z => z)
    · rintro u s' ⟨a, B, sI, _, τ1, G1, cls, d, rfl, J1, ground, up, sky, na, os, ag, b, test, yes, no⟩
      have JI : Inv Z pl τ1 G1 sI := J1.ofTry ok
      replace sky : L2.Sky B (Z.env :: Z.outer) a (L2N.Zn cls d) Z.env.locals s'.heap := hs ▸ sky
      show wpAny (model Z.prog Z.w) Z.A (noteFrame (.ref a) Z.env) _ _ _
      refine L2N.Sky.land L2N.Zn.steady frames hf sky fun h3 fl3 up3 => ?_
      have J3 : Inv Z pl τ1 G1 { s' with heap := h3 } := JI.landed ground fl3.1 (up.trans up3) os ag
      obtain ⟨o3, f3, g3, z3, d3⟩ := fl3.there
      have off := no_frame fl3.2.2.1 g3 d3
      have pin := pin_one (st := { s' with heap := h3 }) hf g3 d3 off na
      have S3 := J3.suite g3 d3 na pin.2.2.1 pin.2.2.2.1
      have fl4 := fly_push (o := { cls := .type "tuple", data := .seq [c1, c2].toArray }) fl3
      have up4 : s'.heap.UpToSlots (h3.push { cls := .type "tuple", data := .seq [c1, c2].toArray }) := up3.trans (Heap.UpToSlots.of_keeps fun b o e => Heap.get?_push_of_some _ e)
      have J4 : Inv Z pl τ1 G1 { s' with heap := h3.push { cls := .type "tuple", data := .seq [c1, c2].toArray } } := JI.landed ground fl4.1 (up.trans up4) os ag
      have told : PySem.W.Looks (model Z.prog Z.w) (h3.push { cls := .type "tuple", data := .seq [c1, c2].toArray }) (typeOf (.ref a)) cls := class_told (Heap.get?_push_of_some _ g3) z3.1
      have asked := PySem.W.exm_tup2 (M := model Z.prog Z.w) (tp := h3.objs.size) J4.kIn told (Heap.get?_push_size _ rfl) test
      refine wpAny_handleBy_cons (codeAny_handlers_test (wpAny_Tuple_spliced ?_)) (by rintro ⟨⟩)
      rw [st1, st2]
      refine Calls.spliced_cons (ld_glob (X := Z.suite a ((a, o3) :: (Z.pn ++ pl))) S3 gl1 m1 ?_ nd1)
      refine Calls.spliced_cons (ld_glob (X := Z.suite a ((a, o3) :: (Z.pn ++ pl))) S3 gl2 m2 ?_ nd2)
      refine Calls.spliced_nil ⟨by show 2 ≤ sizeLine; decide, asked.here ?_⟩
      match b, yes, no with
      | true, yes, _ =>
        refine codeAny_handlers_suite_as (HandSPX.lands_againZ fl4 fun h5 fl5 up5 => ?_)
        have J5 : Inv Z pl τ1 G1 { s' with heap := h5 } := JI.landed ground fl5.1 ((up.trans up4).trans up5) os ag
        obtain ⟨o5, f5, g5, z5, d5⟩ := fl5.there
        have S5 := J5.suite g5 d5 na pin.2.2.1 pin.2.2.2.1
        refine store_ok (X := Z.suite a ((a, o5) :: (Z.pn ++ pl))) (v := .ref a) S5 nodup slot (.inl kind) rfl (fun s6 S6 => ?_) (.inr kind)
        have hot : ∀ xe, HotC (suiteXE Z a ((a, o5) :: (Z.pn ++ pl)) xe) := fun xe => ⟨(a, o5), ⟨rfl, f5, d5, z5.2.2 f5 d5⟩, List.mem_cons_self⟩
        refine wpAny_mono ((suiteOk a o5 cls d (Z.pn ++ pl) _ z5 ⟨f5, d5⟩ (fun u2 s2 out => as_gone (upos := hpos) hs hf hex ok nodup slot kind tk (pass (some (.ref a))) out) (hot _)).run [] s6 _ G1 _ (suiteXE_of S6) (yes rfl a na)) ?_ fun _ _ z => z
        intro f s7 reached
        match f, reached with
        | .next, ⟨τ6, G6, S6, q6⟩ => exact gone_ok (unsuiteXE S6 ok) nodup slot kind fun s8 J8 => ⟨_, G6, J8, q6⟩
        | .brk, ⟨τ6, G6, S6, q6⟩ => exact gone_ok (unsuiteXE S6 ok) nodup slot kind fun s8 J8 => ⟨_, G6, J8, q6⟩
        | .cont, ⟨τ6, G6, S6, q6⟩ => exact gone_ok (unsuiteXE S6 ok) nodup slot kind fun s8 J8 => ⟨_, G6, J8, q6⟩
        | .ret u, ⟨v6, τ6, G6, S6, r6, q6⟩ => exact gone_ok (unsuiteXE S6 ok) nodup slot kind fun s8 J8 => ⟨v6, _, G6, J8, r6, q6⟩
      | false, _, no =>
        show wpAny _ Z.A (handleBy (.ref a) Z.env []) _ _ _
        refine wpAny_handleBy_nil ?_
        obtain ⟨_, _, _, oa, fa, T, _, _, ga, _, da, a1, _⟩ := id fl4
        unfold PySem.passOn
        refine wpAny_bind (wpAny_field ga da a1 ?_)
        have isRef : ¬ ((Value.ref T == Value.none) = true) := nofun
        rw [if_neg isRef]
        have on : wpAny (model Z.prog Z.w) Z.A (setFlight (.ref a) Z.env.frame) (fun _ s4 => wpAny (model Z.prog Z.w) Z.A (throw (.ref a) : Sem Flow) (SP Z pl D) Z.xe s4) Z.xe { s' with heap := h3.push { cls := .type "tuple", data := .seq [c1, c2].toArray } } := by
          rw [hf]
          refine HandSPX.setFlight_upZ (flyingZ_imp (fun o z => z.zc) fl4) fun h5 held up5 => ?_
          rw [← hs] at held
          exact wpAny_throw (tk _ _ ⟨a, B, sI, pl, τ1, G1, cls, d, rfl, JI, ground, (up.trans up4).trans up5, .inr (.inr held), na, os, ag, no rfl⟩)
        first
          | exact wpAny_bind (wpAny_pure (wpAny_bind on))
          | exact wpAny_bind on
    · intro f s1 reached
      match f, reached with
      | .next, ⟨τ6, G6, J6, q⟩ => exact wpAny_execs_nil ⟨τ6, G6, J6.ofTry ok, q⟩
      | .brk, ⟨τ6, G6, J6, q⟩ => exact ⟨τ6, G6, J6.ofTry ok, q⟩
      | .cont, ⟨τ6, G6, J6, q⟩ => exact ⟨τ6, G6, J6.ofTry ok, q⟩
      | .ret u, ⟨v, τ6, G6, J6, r, q⟩ => exact ⟨v, τ6, G6, J6.ofTry ok, r, q⟩
end
end Fg
namespace Fg
open PySem PySem.Spec PyProof.Rows L2
/-- at d: a written dict with these texts as keys, and their values -/
def WDk (K : PySem.W.Frag) (w : World) (d : Addr) (kvs : List (List Nat × V)) : Prop :=
  ∃ es n, KDict K w d es n ∧ ∀ l : List Nat, ∃ r, PySem.W.nsIn K d ⟨l.toArray⟩ = some r ∧ (kvs.lookup l = none ∧ r = none ∨ ∃ v u, kvs.lookup l = some v ∧ r = some u ∧ RelV v u)
inductive DRel : List DictEntry → List (List Nat × V) → Prop where
  | nil : DRel [] []
  | cons {h : Int} {x : Str} {t : Tok} {u : Value} {l : List Nat} {v : V} {r : List DictEntry} {kr : List (List Nat × V)} : x = ⟨l.toArray⟩ → RelV v u → DRel r kr → DRel (⟨h, .str x t, u⟩ :: r) ((l, v) :: kr)
theorem arr_inj {l m : List Nat} : ((⟨l.toArray⟩ : Str) == ⟨m.toArray⟩) = (l == m) := by
  rw [Bool.eq_iff_iff, beq_iff_eq, beq_iff_eq]
  constructor
  · intro h
    injection h with h
    simpa using congrArg Array.toList h
  · rintro rfl; rfl
theorem DRel.plain {es : List DictEntry} {kvs : List (List Nat × V)} (h : DRel es kvs) : es.any (·.refKey) = false := by
  induction h with
  | nil => rfl
  | cons _ _ _ ih =>
    rw [List.any_cons, ih]
    rfl
theorem DRel.find {es : List DictEntry} {kvs : List (List Nat × V)} (h : DRel es kvs) (l : List Nat) :
    (kvs.lookup l = none ∧ es.find? (·.key.isStr ⟨l.toArray⟩) = none) ∨ ∃ v e, kvs.lookup l = some v ∧ es.find? (·.key.isStr ⟨l.toArray⟩) = some e ∧ RelV v e.val := by
  induction h with
  | nil => exact .inl ⟨rfl, rfl⟩
  | @cons hh x t u m v r kr ex rv _ ih =>
    subst ex
    have e : (Value.str ⟨m.toArray⟩ t).isStr ⟨l.toArray⟩ = (l == m) := by
      show ((⟨m.toArray⟩ : Str) == ⟨l.toArray⟩) = _
      rw [arr_inj, Bool.eq_iff_iff, beq_iff_eq, beq_iff_eq]
      exact eq_comm
    cases hb : l == m with
    | true => exact .inr ⟨v, _, by rw [List.lookup_cons, hb], List.find?_cons_of_pos (by show (Value.str ⟨m.toArray⟩ t).isStr ⟨l.toArray⟩ = true; rw [e, hb]), rv⟩
    | false =>
      rw [List.lookup_cons, hb, List.find?_cons_of_neg (by show ¬ (Value.str ⟨m.toArray⟩ t).isStr ⟨l.toArray⟩ = true; rw [e, hb]; decide)]
      exact ih
theorem wdk_mk {K : PySem.W.Frag} {w : World} {d : Addr} {es : Array DictEntry} {n : Nat} {kvs : List (List Nat × V)} (hl : K.lookup d = some ⟨.type "dict", none, .dict es n, #[]⟩) (low : (d == sysModules) = false) (lit : PySem.W.KeysLit w.params es.toList) (dr : DRel es.toList kvs) : WDk K w d kvs := by
  refine ⟨es, n, ⟨hl, lit, low⟩, fun l => ?_⟩
  unfold PySem.W.nsIn
  rw [hl]
  dsimp only
  rcases dr.find l with ⟨h1, h2⟩ | ⟨v, e, h1, h2, rv⟩
  · rw [h2, dr.plain]
    exact ⟨none, rfl, .inl ⟨h1, rfl⟩⟩
  · rw [h2]
    exact ⟨some e.val, rfl, .inr ⟨v, _, h1, rfl, rv⟩⟩
def inWP (K : PySem.W.Frag) (w : World) (neg : Bool) : R2 := fun x y H Q => ∃ l d kvs, x = S l ∧ y = .ref d ∧ WDk K w d kvs ∧ Q (.bl (neg.xor (kvs.lookup l).isSome)) H
def ixWP (K : PySem.W.Frag) (w : World) : R2 := fun x y H Q => ∃ d l kvs v, x = .ref d ∧ y = S l ∧ WDk K w d kvs ∧ kvs.lookup l = some v ∧ Q v H
theorem wdk_some {K : PySem.W.Frag} {w : World} {d : Addr} {es : Array DictEntry} {l : List Nat} {kvs : List (List Nat × V)} {r : Option Value} (h : kvs.lookup l = none ∧ r = none ∨ ∃ v u, kvs.lookup l = some v ∧ r = some u ∧ RelV v u) : r.isSome = (kvs.lookup l).isSome := by
  rcases h with ⟨h1, rfl⟩ | ⟨v, u, h1, rfl, _⟩ <;> rw [h1] <;> rfl
section
variable {X : Cx} (K : PySem.W.Frag) (w : World)
theorem opInW (h : X.K = K := by rfl) (hw : X.w = w := by rfl) : OpR X (compareOp .In) (inWP K w false) := by
  subst h
  subst hw
  rintro pins s σ H x y v u Q I rx ry ⟨l, d, kvs, rfl, rfl, ⟨es, n, D, hn⟩, q⟩
  obtain ⟨r, e, hr⟩ := hn l
  refine op_in_kd D pins s σ H _ _ v u Q I rx ry ⟨_, r, rfl, rfl, e, ?_⟩
  rw [wdk_some (K := X.K) (w := X.w) (d := d) (es := es) hr]
  simpa using q
theorem opNotInW (h : X.K = K := by rfl) (hw : X.w = w := by rfl) : OpR X (compareOp .NotIn) (inWP K w true) := by
  subst h
  subst hw
  rintro pins s σ H x y v u Q I rx ry ⟨l, d, kvs, rfl, rfl, ⟨es, n, D, hn⟩, q⟩
  obtain ⟨r, e, hr⟩ := hn l
  refine op_notIn_kd D pins s σ H _ _ v u Q I rx ry ⟨_, r, rfl, rfl, e, ?_⟩
  rw [wdk_some (K := X.K) (w := X.w) (d := d) (es := es) hr]
  simpa using q
theorem ixW (h : X.K = K := by rfl) (hw : X.w = w := by rfl) : IxR X (ixWP K w) := by
  subst h
  subst hw
  rintro a b pins s σ H x y v u Q I rx ry ⟨d, l, kvs, vv, rfl, rfl, ⟨es, n, D, hn⟩, e0, q⟩ hs
  obtain ⟨r, e, hr⟩ := hn l
  rcases hr with ⟨h1, _⟩ | ⟨v', u', h1, rfl, rv⟩
  · rw [h1] at e0; cases e0
  · rw [h1] at e0; cases e0
    exact ix_kdict a b pins s σ H _ _ v u Q I rx ry ⟨_, _, _, rfl, rfl, ⟨es, n, u', D.at_, D.lit, e, rv⟩, q⟩ hs
variable {e o : Expr} {es : List Expr} {te to : TE} {ta : TA} {pos apos cpos : Pos}
def tExtL (K : PySem.W.Frag) (to : TE) (t : TA) : TE := tBM K "list" rExtend to t
theorem peExtL (ho : PE X o to) (ha : PA X (e :: es) ta) (h : X.K = K := by rfl) (hbase : attributeBase o "extend" X.env (eval o X.env) = eval o X.env := by rfl)
    (few : ((backTo cpos (starEach (e :: es) X.env)).all (fun x => !x.1) && (backToKw cpos (keywordEach [] X.env)).all (fun x => x.1.isSome) && decide ((e :: es).length + ([] : List Keyword).length + (if ([] : List Keyword).isEmpty then 0 else 1) < 30)) = true := by rfl)
    (line : (apos.endLine == cpos.line) = true := by rfl) (st : starEach (e :: es) X.env = (false, eval e X.env) :: starEach es X.env := by rfl) (plain : (backTo cpos (starEach es X.env)).any (·.1) = false := by rfl) :
    PE X (.Call (.Attribute o "extend" apos) (e :: es) [] cpos) (tExtL K to ta) := h ▸ pe_bm PySem.F.plainAttrs_list PySem.F.slot_list_extend PySem.F.type_list_extend mt_extend ho ha hbase few line st plain
end
section
variable {K : PySem.W.Frag} {w : World} {H : Hp} {Q : VK} {l : List Nat} {d : Addr} {kvs : List (List Nat × V)} {σ : L2.St} {te : TE} {ta : TA}
theorem i_inW (h : WDk K w d kvs) (q : Q (.bl (kvs.lookup l).isSome) H) : inWP K w false (S l) (.ref d) H Q := ⟨l, d, kvs, rfl, rfl, h, by simpa using q⟩
theorem i_notInW (h : WDk K w d kvs) (q : Q (.bl (!(kvs.lookup l).isSome)) H) : inWP K w true (S l) (.ref d) H Q := ⟨l, d, kvs, rfl, rfl, h, by simpa using q⟩
theorem i_ixW {v : V} (h : WDk K w d kvs) (e : kvs.lookup l = some v) (q : Q v H) : ixWP K w (.ref d) (S l) H Q := ⟨d, l, kvs, v, rfl, rfl, h, e, q⟩
theorem i_ext (q : te σ H fun x H1 => tyV K "list" x H1 ∧ ta σ H1 fun xs H2 => rExtend x xs H2 Q) : tExtL K te ta σ H Q := q
end
end Fg
namespace Fg
open PySem PySem.Spec PyProof.Rows L2
section
variable {X : Cx} {x : Str} {c : Value} {body suite : List Stmt} {b₀ : Stmt} {np pos pos' : Pos} {tb : WX → TS} {ts : Addr → Value → Option Addr → TS} {Wout : WX}
end
section
variable {P : Program} {w : World} {K : PySem.W.Frag} {mg : Str → Option Value} {base : Heap}
theorem fun_okXN {x qual : Str} {st : Stmt} {f : Addr} {fd : FuncData} {N ps : List Str} {k : Nat} {sp : Sp} (F : Fun K x qual st f fd) (S : FnScope N ps (defScope st)) (len : ∀ vs H Q E, sp vs H Q E → vs.length = ps.length)
    (hbody : ∀ (cdv : Value) (A : Around) (outer : List Env) (s : Shared) (H : Hp) (vs : List V) (Q : VK) (E : XK), Room k (A.deeper (envOfC qual (defScope st) s.heap.objs.size f cdv)) → sp vs H Q E →
      ∃ t, PSs (cxOf (L2N.CX P w) P w K mg base N qual (defScope st) f cdv A outer s H E) (defBody st) t ∧ t { nx := fun _ H' => Q .non H', rt := Q } (start N vs) H) : FnOk P w K mg base (L2N.CX P w) (k + 1) f fd ps sp := by
  obtain ⟨oc, od, kV, doc, pm, an, cdv, ct, osl, rfl, lk, hcd⟩ := F.ex
  exact fn_of lk hcd S len fun A outer s H vs Q E hr hsp => hbody cdv A outer s H vs Q E hr hsp
end
/-- C(e, ..) of an own class: the error's context is none -/
theorem pmk_oexN {X : Cx} {CX : CXT} {x : Str} {e : Expr} {es : List Expr} {ta : TA} {p pos : PySem.Pos} {C fI : Addr} {k : Nat} {fd : FuncData} {ps : List Str} {sp : Sp} {ds : List Value} {dvs : List V} (T : OexC X.K C) (iC : PySem.W.findIn X.K (.ref C) "__init__" = some (some (.ref fI))) (tI : PySem.W.typeIn X.K (.ref fI) = some (.type "function"))
    (F1 : FnOk X.prog X.w X.K X.mg X.base CX k fI fd ps sp) (hr : Room (k + 1) X.A) (hb : Binds X.K fd ps ds) (hd : Vals dvs ds) (hx : Passes CX X (fun _ _ _ => False)) (hg : Gl X x) (hm : X.mg x = some (.ref C)) (ha : PA X (e :: es) ta)
    (hdb : (x == ("__debug__" : Str)) = false := by decide) (he : starEach (e :: es) X.env = (false, eval e X.env) :: starEach es X.env := by rfl) (hpl : (backTo pos (starEach es X.env)).any (·.1) = false := by rfl) :
    L2N.PMk X (.Call (.Name x p) (e :: es) [] pos) (tMkO C sp dvs ta) := by
  intro pins s σ H Q I h
  obtain ⟨nm, q, N, bs, bm, sn, sub, ab, col, dd, k0, k1, k2, k3, k5, hC, hbm⟩ := T.cls
  refine wpAny_Call_Name_kw (ld_glob I hg hm ?_ hdb)
  refine PySem.W.callWith_K (h₀ := X.base) I.ok.mod.kin T.kC (thn (ha.run pos pins s σ H _ I h) fun us s1 ⟨vs, H1, I1, r1, hz, q1⟩ => ⟨I1.kIn, ?_⟩) he hpl
  show wpAny _ _ (call (.ref C) us) _ _ _
  obtain ⟨hp, g, dr, tk, os⟩ := s1
  generalize ha0 : hp.objs.size + 1 = a0
  have hsz : hp.objs.size ≤ a0 := by rw [← ha0]; exact Nat.le_succ _
  have hn : H1 a0 = none := I1.hok.fresh hsz
  have hq := q1 a0 hn
  generalize hh2 : (hp.push (PySem.W.kdv_tup us)).push (PySem.HandSPX.excO C hp.objs.size) = hp2
  have kk : ∀ b o, hp.get? b = some o → hp2.get? b = some o := fun b o e => by rw [← hh2]; exact Heap.get?_push_of_some _ (Heap.get?_push_of_some _ e)
  have hget : hp2.get? a0 = some (PySem.HandSPX.excO C hp.objs.size) := by rw [← hh2, ← ha0]; heap_get
  have I2 : Inv X pins σ (upd H1 a0 (exo a0 C none)) ⟨hp2, g, dr, tk, os⟩ := I1.laid (t' := tk) (a := a0) (o := exo a0 C none) (h' := hp2) kk hsz (exo_ok hget)
  have r2 : Vals (V.ref a0 :: (vs ++ dvs)) (Value.ref a0 :: (us ++ ds)) := .cons rfl (r1.append hd)
  have hl : (Value.ref a0 :: us ++ ds).length = ps.length := by
    have e := r2.length
    rw [F1.len _ _ _ _ hq] at e
    exact e.symm
  have hus : us.length ≤ sizeLine := by
    rw [← Paired.length r1, sizeLine_eq]
    omega
  refine wpAny_call ?_
  refine PySem.HandSPX.call_own F.excBase_ValueError (fun Y => PySem.HandSPX.refsVE_contains Y bm hbm) (I1.kIn _ _ hC) (PySem.W.looks_findIn I1.kIn iC) (fun self => PySem.W.bind_fn I1.kIn self tI) hus ?_
  rw [hh2, ha0]
  refine codeAny_mono (F1.run _ X.stack _ _ ⟨Value.ref a0 :: us, []⟩ (Value.ref a0 :: (us ++ ds)) _ _ (fun _ _ _ => False) (hr.make C us []) (I2.env0.make C us []) (hb _ (Value.ref a0 :: us) I2.kIn hl) r2 hq) fun r s' hq' => ?_
  cases r with
  | error er => exact hx pins σ _ _ er s' I2 hq'
  | ok fl =>
    cases fl with
    | ret u =>
      obtain ⟨v, H2, os2, bare2, un2, hok2, rv, ev, d, fs, ea, ed, hd1, q2⟩ := hq'
      subst ev
      obtain ⟨h2, g2, d2, t2, os'⟩ := s'
      obtain ⟨t0, G, J, kG, ge, hoe, na⟩ := mk_end0 (d2 := d2) (t2 := t2) I1 hsz kk un2 hok2 os2 bare2 ea ed hd1
      exact ⟨rv, a0, _, _, ⟨G, g2, d2, t2, os'⟩, _, .ref C, some d, rfl, J, kG, ge, hoe, ⟨rfl, rfl, fun vs hv => by cases hv; rfl⟩, rfl, rfl, na, rfl, bare2, raises_own T.exC T.tyC, q2⟩
    | next => exact False.elim hq'
    | brk => exact False.elim hq'
    | cont => exact False.elim hq'
end Fg
namespace Fg
open PySem PySem.Spec PyProof.Rows L2
section
variable {P : Program} {w : World} {K : PySem.W.Frag} {mg : Str → Option Value} {base : Heap} {x : Str} {st : Stmt} {N ps : List Str} {k : Nat} {sp : Sp}
theorem OK.mkXN (D : DefIn K mg x st ps) (S : FnScope N ps (defScope st)) (len : ∀ vs H Q E, sp vs H Q E → vs.length = ps.length)
    (body : ∀ (f : Addr) (cdv : Value) (A : Around) (outer : List Env) (s : Shared) (H : Hp) (vs : List V) (Q : VK) (E : XK), Room k (A.deeper (envOfC x (defScope st) s.heap.objs.size f cdv)) → sp vs H Q E →
      ∃ t, PSs (cxOf (L2N.CX P w) P w K mg base N x (defScope st) f cdv A outer s H E) (defBody st) t ∧ t { nx := fun _ H' => Q .non H', rt := Q } (start N vs) H) : OK P w K mg base (L2N.CX P w) (k + 1) x ps sp := by
  obtain ⟨f, fd, F, hm, hb⟩ := D
  exact ⟨f, fd, fun_okXN F S len fun cdv A outer s H vs Q E hr h => body f cdv A outer s H vs Q E hr h, hm, F.kp, hb⟩
end
theorem pmk_EN {X : Cx} {x f : Str} {C : Addr} {e : Expr} {ta : TA} {p pos : Pos} {k : Nat} (G : OKx X.prog X.w X.K X.mg X.base x f C) (hr : Room (k + 2) X.A) (ha : PA X [e] ta) (hg : Gl X x := by rfl) (hdb : (x == ("__debug__" : Str)) = false := by decide)
    (he : starEach [e] X.env = (false, eval e X.env) :: starEach [] X.env := by rfl) (hpl : (backTo pos (starEach [] X.env)).any (·.1) = false := by rfl) :
    L2N.PMk X (.Call (.Name x p) [e] [] pos) (tMkE C f ta) := by
  obtain ⟨hm, ox, noF, fI, fd, iC, tI, F, hb⟩ := G
  intro pins s σ H Q I h
  refine pmk_oexN (k := 1) (dvs := []) ox iC tI F (hr.mono (by omega)) hb .nil pass0 hg hm (pa_mono ha) hdb he hpl pins s σ H Q I ⟨_, h, fun vs H1 hq => ?_⟩
  obtain ⟨v, rfl, q⟩ := hq
  refine ⟨by show 1 ≤ 1000; omega, fun a na => ⟨.ref a, v, rfl, a, rfl, upd_same, fun dx nd ne => ⟨rfl, dx, [(f, v)], upd_same, ?_, ?_, ?_⟩⟩⟩
  · rw [upd_ne ne, upd_same]
  · rw [upd_ne ne] at nd; exact nd
  · have n2 : H1 dx = none := by rw [upd_ne ne] at nd; exact nd
    have e1 : upd (del (upd (upd (upd H1 a (exo a C none)) dx (exd dx [(f, v)])) a (exo a C (some dx))) a) dx (.xd [(f, v)]) = upd H1 dx (.xd [(f, v)]) := by
      funext b
      by_cases hb : b = dx
      · rw [hb, upd_same, upd_same]
      · rw [upd_ne hb, upd_ne hb]
        by_cases ha : b = a
        · rw [ha, del_same, na]
        · rw [del_ne ha, upd_ne ha, upd_ne hb, upd_ne ha]
    rw [e1]
    exact q dx n2
theorem ps_raisePN {X : Cx} {W : WX} {e : Expr} {t : L2.St → Hp → XK → Prop} {pos : Pos} (hc : X.calm = true) (tk : L2N.Takes X W) (he : L2N.PMk X e t) : PS X (.Raise (some e) none pos) (tRaiseP t W) := L2N.ps_raise hc tk he
end Fg
namespace Fg
open PySem PySem.Spec PyProof.Rows L2
section
variable {K : PySem.W.Frag} {σ : L2.St} {H : Hp} {Q : VK} {te tl : TE} {tt : TT} {j : Nat} {z : List Nat} {vs : List Nat}
theorem c_str (ha : ∀ R : VK, R (S z) H → tl σ H R) (hn : z.length ≤ 100000) (f : Nat → Bool) (v : Nat → V) (hw : ∀ x, wipe ((wipe σ vs).set j (some x)) vs = wipe σ vs)
    (ht : ∀ i c H2, z[i]? = some c → Same H H2 → ∀ QB : Bool → Hp → Prop, (∀ H3, Same H2 H3 → QB (f i) H3) → tt ((wipe σ vs).set j (some (S [c]))) H2 QB)
    (he : ∀ i c H2, z[i]? = some c → Same H H2 → f i = true → ∀ QV : VK, (∀ H3, Same H2 H3 → QV (v i) H3) → te ((wipe σ vs).set j (some (S [c]))) H2 QV)
    (q : ∀ Dl H2, H Dl = none → Same H H2 → H2 Dl = some (.lst (kept f v z.length)) → Q (.ref Dl) H2) : tLc (iAny K tl) (gName j) tt te vs σ H Q := by
  have e : (⟨z.toArray⟩ : Str).cps.size = z.length := str_len z
  refine ha _ (.inr (.inr ⟨_, rfl, fun Dl nD => ?_⟩))
  refine lc_it walk_str (Lw H Dl (kept f v)) ⟨nD, same_upd nD, upd_same⟩ (fun _ _ _ _ => True.intro) (fun i x H' H2 hi p y => ?_) (fun H' p => q Dl H' p.1 p.2.1 (by rw [e] at p; exact p.2.2))
  obtain ⟨rfl, c, hc, rfl⟩ := y
  have hc' : z[i]? = some c := by simpa using hc
  have hlt := (List.getElem?_eq_some_iff.mp hc').1
  exact ⟨hw _, lw_turn p (by omega) (fun H2 s2 => ht i c H2 hc' s2) (fun H2 s2 => he i c H2 hc' s2)⟩
/-- the signs that are kept -/
theorem c_strF (P : Nat → Bool) (ha : ∀ R : VK, R (S z) H → tl σ H R) (hn : z.length ≤ 100000) (hw : ∀ x, wipe ((wipe σ vs).set j (some x)) vs = wipe σ vs)
    (ht : ∀ c H2, c ∈ z → Same H H2 → ∀ QB : Bool → Hp → Prop, (∀ H3, Same H2 H3 → QB (P c) H3) → tt ((wipe σ vs).set j (some (S [c]))) H2 QB)
    (he : ∀ c H2, c ∈ z → Same H H2 → ∀ QV : VK, (∀ H3, Same H2 H3 → QV (S [c]) H3) → te ((wipe σ vs).set j (some (S [c]))) H2 QV)
    (q : ∀ Dl H2, H Dl = none → Same H H2 → H2 Dl = some (.lst ((z.filter P).map fun c => S [c])) → Q (.ref Dl) H2) : tLc (iAny K tl) (gName j) tt te vs σ H Q := by
  have key : ∀ n, n ≤ z.length → kept (fun i => P (z.getD i 0)) (fun i => S [z.getD i 0]) n = ((z.take n).filter P).map fun c => S [c] := fun n => by
    induction n with
    | zero => intro _; rfl
    | succ n ih =>
      intro hn
      have hg : z[n]? = some (z.getD n 0) := by rw [List.getD_eq_getElem?_getD, List.getElem?_eq_getElem (by omega)]; rfl
      have tk : z.take (n + 1) = z.take n ++ [z.getD n 0] := by rw [List.take_succ, hg]; rfl
      rw [tk, List.filter_append, List.map_append, ← ih (by omega)]
      cases hp : P (z.getD n 0) with
      | true => rw [kept_yes (f := fun i => P (z.getD i 0)) hp, List.filter_cons_of_pos hp]; rfl
      | false => rw [kept_no (f := fun i => P (z.getD i 0)) hp, List.filter_cons_of_neg (by rw [hp]; decide)]; simp
  have gd : ∀ {i c}, z[i]? = some c → z.getD i 0 = c := fun h => by rw [List.getD_eq_getElem?_getD, h]; rfl
  refine c_str ha hn (fun i => P (z.getD i 0)) (fun i => S [z.getD i 0]) hw (fun i c H2 hc s QB k => ht c H2 (List.mem_of_getElem? hc) s QB (by rw [gd hc] at k; exact k))
    (fun i c H2 hc s _ QV k => he c H2 (List.mem_of_getElem? hc) s QV (by rw [gd hc] at k; exact k)) fun Dl H2 n s e => q Dl H2 n s ?_
  rw [key _ (Nat.le_refl _), List.take_length] at e
  exact e
end
end Fg
namespace Fg
open PySem PySem.Spec PyProof.Rows L2
inductive Fin where
  | bad (k : Nat)
  | done (s : Stv)
abbrev Fr := Nat × List Stv × Stv
theorem items_fuel {z : List Nat} {ri : Nat → Res} (hi : Gd z ri) : ∀ (f f' a : Nat) (p : Stv), a ≤ z.length → z.length + 1 ≤ f + a → z.length + 1 ≤ f' + a → items ri z f a p = items ri z f' a p
  | 0, _, a, _, ha, h, _ => by omega
  | _ + 1, 0, a, _, ha, _, h => by omega
  | f + 1, f' + 1, a, p, ha, h, h' => by
    unfold items
    split
    · rfl
    · split
      · cases hr : ri a with
        | error k => rfl
        | ok se =>
          obtain ⟨s, e⟩ := se
          obtain ⟨g1, g2, _, _⟩ := hi a s e ha hr
          exact items_fuel hi f f' e (beh p s) g2 (by omega) (by omega)
      · rfl
theorem more_fuel {z : List Nat} {rq : Nat → Res} (hi : Gd z rq) : ∀ (f f' a : Nat) (ps : List Stv), a ≤ z.length → z.length + 1 ≤ f + a → z.length + 1 ≤ f' + a → more rq z f a ps = more rq z f' a ps
  | 0, _, a, _, ha, h, _ => by omega
  | _ + 1, 0, a, _, ha, _, h => by omega
  | f + 1, f' + 1, a, ps, ha, h, h' => by
    unfold more
    split
    · rename_i h38
      have hl := (List.getElem?_eq_some_iff.mp h38).1
      cases hr : rq (a + 1) with
      | error k => rfl
      | ok se =>
        obtain ⟨s, e⟩ := se
        obtain ⟨g1, g2, _, _⟩ := hi (a + 1) s e (by omega) hr
        exact more_fuel hi f f' e (ps ++ [s]) g2 (by omega) (by omega)
    · rfl
theorem items_succ (ri : Nat → Res) (z : List Nat) (f a : Nat) (p : Stv) : items ri z (f + 1) a p = match z[a]? with
    | none => .ok (p, a)
    | some c => if isStart c = true then goOn (fun s e => items ri z f e (beh p s)) (ri a) else .ok (p, a) := by
  conv => lhs; unfold items
  try (generalize z[a]? = o; cases o <;> rfl)
theorem more_succ (rq : Nat → Res) (z : List Nat) (f a : Nat) (ps : List Stv) : more rq z (f + 1) a ps = if z[a]? = some 38 then goOn (fun s e => more rq z f e (ps ++ [s])) (rq (a + 1)) else .ok (shown ps, a) := by
  conv => lhs; unfold more
  try rfl
def F (z : List Nat) (a : Nat) : Nat := z.length + 1 - a
def rItems (z : List Nat) (d a : Nat) (p : Stv) : Res := items (rdItem z d) z (F z a) a p
def rMore (z : List Nat) (d a : Nat) (ps : List Stv) : Res := more (Fg.part (rdItem z d) z) z (F z a) a ps
theorem rItems_eq {z : List Nat} {d a : Nat} {p : Stv} (ha : a ≤ z.length) : rItems z d a p = match z[a]? with
    | none => .ok (p, a)
    | some c => if isStart c = true then goOn (fun s e => rItems z d e (beh p s)) (rdItem z d a) else .ok (p, a) := by
  have e : F z a = z.length - a + 1 := by unfold F; omega
  unfold rItems
  rw [e, items_succ]
  cases hz : z[a]? with
  | none => rfl
  | some c =>
    dsimp only
    by_cases hs : isStart c = true
    · rw [if_pos hs, if_pos hs]
      cases hr : rdItem z d a with
      | error k => rfl
      | ok se =>
        obtain ⟨s, e'⟩ := se
        obtain ⟨g1, g2, _, _⟩ := rdItem_gd z d a s e' ha hr
        exact items_fuel (rdItem_gd z d) (z.length - a) (F z e') e' _ g2 (by omega) (by unfold F; omega)
    · rw [if_neg hs, if_neg hs]
theorem rMore_eq {z : List Nat} {d a : Nat} {ps : List Stv} (ha : a ≤ z.length) : rMore z d a ps = if z[a]? = some 38 then goOn (fun s e => rMore z d e (ps ++ [s])) (Fg.part (rdItem z d) z (a + 1)) else .ok (shown ps, a) := by
  have e : F z a = z.length - a + 1 := by unfold F; omega
  unfold rMore
  rw [e, more_succ]
  by_cases hs : z[a]? = some 38
  · rw [if_pos hs, if_pos hs]
    have hl := (List.getElem?_eq_some_iff.mp hs).1
    cases hr : Fg.part (rdItem z d) z (a + 1) with
    | error k => rfl
    | ok se =>
      obtain ⟨s, e'⟩ := se
      obtain ⟨g1, g2, _, _⟩ := part_gd (rdItem_gd z d) (a + 1) s e' (by omega) hr
      exact more_fuel (part_gd (rdItem_gd z d)) (z.length - a) (F z e') e' _ g2 (by omega) (by unfold F; omega)
  · rw [if_neg hs, if_neg hs]
theorem rPart_eq (z : List Nat) (d a : Nat) : Fg.part (rdItem z d) z a = goOn (partEnd z) (rItems z d a (0, [])) := rfl
theorem rd_more (z : List Nat) (d a : Nat) : rd z d a = goOn (fun s e => rMore z d e [s]) (Fg.part (rdItem z d) z a) := by rw [rd_eq]; rfl
/-- what the whole text tells -/
def told (z : List Nat) : Fin := match rd z 6 0 with
  | .error k => .bad k
  | .ok (s, e) => if e < z.length then .bad e else .done s
end Fg
namespace Fg
open PySem PySem.Spec PyProof.Rows L2
abbrev Sg := Nat × Nat
/-- what stands in a group, of items of a level -/
def Gr : Nat → Type
  | 0 => Empty
  | d + 1 => List (List (Sg ⊕ (Nat × Gr d)) × Nat)
abbrev ItG (G : Type) := Sg ⊕ (Nat × G)
abbrev PtG (G : Type) := List (ItG G) × Nat
section
variable {G : Type} (sg : G → Stv) (wg : G → List Nat) (vg : G → Prop)
def stI : ItG G → Stv
  | .inl (t, c) => rep (1, [c]) (max 1 t)
  | .inr (t, g) => rep (sg g) (max 1 t)
def stIs (is : List (ItG G)) : Stv := is.foldl (fun p i => beh p (stI sg i)) (0, [])
def stP (p : PtG G) : Stv := if 0 < p.2 then fillTo (stIs sg p.1) p.2 else stIs sg p.1
def stPs (ps : List (PtG G)) : Stv := shown (ps.map (stP sg))
def wN (t : Nat) : List Nat := if 0 < t then dec t else []
def wI : ItG G → List Nat
  | .inl (t, c) => wN t ++ [c]
  | .inr (t, g) => wN t ++ ([40] ++ (wg g ++ [41]))
def wIs (is : List (ItG G)) : List Nat := (is.map (wI wg)).flatten
def wF (f : Nat) : List Nat := if 0 < f then 64 :: dec f else []
def wP (p : PtG G) : List Nat := wIs wg p.1 ++ wF p.2
def wPs (ps : List (PtG G)) : List Nat := TL.joinL [38] (ps.map (wP wg))
def vI : ItG G → Prop
  | .inl (t, c) => c ∈ SG ∧ (t = 0 ∨ (2 ≤ t ∧ t ≤ 24))
  | .inr (t, g) => 2 ≤ t ∧ t ≤ 24 ∧ vg g
def vP (p : PtG G) : Prop := p.1 ≠ [] ∧ (∀ i ∈ p.1, vI vg i) ∧ (p.2 = 0 ∨ ((stIs sg p.1).1 ≤ p.2 ∧ p.2 ≤ 24))
def vPs (ps : List (PtG G)) : Prop := ps ≠ [] ∧ ∀ p ∈ ps, vP sg vg p
end
def stG : (d : Nat) → Gr d → Stv
  | 0, _ => (0, [])
  | d + 1, ps => stPs (stG d) ps
def wG : (d : Nat) → Gr d → List Nat
  | 0, _ => []
  | d + 1, ps => wPs (wG d) ps
def vG : (d : Nat) → Gr d → Prop
  | 0, _ => False
  | d + 1, ps => vPs (stG d) (vG d) ps
def Pos (s : Stv) : Prop := 1 ≤ s.1 ∧ (s.1 ≤ 24 → s.2.length = s.1)
section
variable {G : Type} {sg : G → Stv} {wg : G → List Nat} {vg : G → Prop}
theorem Pos.rep {s : Stv} {t : Nat} (h : Pos s) (ht : 1 ≤ t) : Pos (rep s t) := by
  refine ⟨Nat.mul_pos h.1 ht, fun e => ?_⟩
  have e : s.1 * t ≤ 24 := e
  have : s.1 ≤ s.1 * t := Nat.le_mul_of_pos_right _ ht
  show (rpt t s.2).length = s.1 * t
  rw [rpt_len, h.2 (by omega), Nat.mul_comm]
theorem stI_pos (hg : ∀ g, vg g → Pos (sg g)) {i : ItG G} (h : vI vg i) : Pos (stI sg i) := by
  cases i with
  | inl x => exact Pos.rep (s := (1, [x.2])) ⟨Nat.le_refl _, fun _ => rfl⟩ (by omega)
  | inr x => exact (hg _ h.2.2).rep (by omega)
theorem foldl_beh (is : List (ItG G)) : ∀ p : Stv, is.foldl (fun p i => beh p (stI sg i)) p = beh p (stIs sg is) := by
  induction is with
  | nil => intro p; show p = beh p (0, []); simp [beh]
  | cons i r ih =>
    intro p
    unfold stIs
    rw [List.foldl_cons, List.foldl_cons, ih, ih]
    simp [beh, Nat.add_assoc]
theorem stIs_cons (i : ItG G) (r : List (ItG G)) : stIs sg (i :: r) = beh (stI sg i) (stIs sg r) := by
  conv => lhs; unfold stIs
  rw [List.foldl_cons, foldl_beh]
  simp [beh]
theorem stIs_len (hg : ∀ g, vg g → Pos (sg g)) : ∀ {is : List (ItG G)}, (∀ i ∈ is, vI vg i) → ((stIs sg is).1 ≤ 24 → (stIs sg is).2.length = (stIs sg is).1) ∧ (is ≠ [] → 1 ≤ (stIs sg is).1)
  | [], _ => ⟨fun _ => rfl, fun h => absurd rfl h⟩
  | i :: r, h => by
    rw [stIs_cons]
    have h1 := stI_pos hg (h i List.mem_cons_self)
    have h2 := stIs_len hg (is := r) fun i hi => h i (List.mem_cons_of_mem _ hi)
    refine ⟨fun e => ?_, fun _ => Nat.le_trans h1.1 (Nat.le_add_right _ _)⟩
    have e : (stI sg i).1 + (stIs sg r).1 ≤ 24 := e
    show ((stI sg i).2 ++ (stIs sg r).2).length = (stI sg i).1 + (stIs sg r).1
    rw [List.length_append, h1.2 (by omega), h2.1 (by omega)]
theorem stP_pos (hg : ∀ g, vg g → Pos (sg g)) {p : PtG G} (h : vP sg vg p) : Pos (stP sg p) := by
  obtain ⟨h1, h2, h3⟩ := h
  have hs := stIs_len hg h2
  unfold stP
  by_cases hf : 0 < p.2
  · rw [if_pos hf]
    have h4 : (stIs sg p.1).1 ≤ p.2 ∧ p.2 ≤ 24 := h3.resolve_left (by omega)
    refine ⟨hf, fun _ => ?_⟩
    show ((stIs sg p.1).2 ++ List.replicate _ 46).length = p.2
    rw [List.length_append, List.length_replicate, hs.1 (by omega)]
    omega
  · rw [if_neg hf]
    exact ⟨hs.2 h1, hs.1⟩
theorem stPs_pos (hg : ∀ g, vg g → Pos (sg g)) {ps : List (PtG G)} (h : vPs sg vg ps) : Pos (stPs sg ps) := by
  refine ⟨lcmL_pos fun p hp => ?_, fun _ => showN_len _ _⟩
  obtain ⟨q, hq, rfl⟩ := List.mem_map.mp hp
  exact (stP_pos hg (h.2 q hq)).1
end
theorem stG_pos : ∀ d (g : Gr d), vG d g → Pos (stG d g)
  | 0, g, h => nomatch g
  | d + 1, ps, h => stPs_pos (stG_pos d) h
def Tx (z : List Nat) (a : Nat) (w : List Nat) : Prop := ∀ i < w.length, z[a + i]? = w[i]?
theorem Tx.left {z u v : List Nat} {a : Nat} (h : Tx z a (u ++ v)) : Tx z a u := fun i hi => by
  rw [h i (by rw [List.length_append]; omega), List.getElem?_append_left hi]
theorem Tx.right {z u v : List Nat} {a : Nat} (h : Tx z a (u ++ v)) : Tx z (a + u.length) v := fun i hi => by
  rw [Nat.add_assoc, h (u.length + i) (by rw [List.length_append]; omega), List.getElem?_append_right (by omega)]
  congr 1
  omega
theorem Tx.head {z r : List Nat} {a c : Nat} (h : Tx z a (c :: r)) : z[a]? = some c := h 0 (by rw [List.length_cons]; omega)
theorem Tx.tail {z r : List Nat} {a c : Nat} (h : Tx z a (c :: r)) : Tx z (a + 1) r := fun i hi => by
  rw [Nat.add_assoc, Nat.add_comm 1 i, h (i + 1) (by rw [List.length_cons]; omega)]
  rfl
theorem Tx.le {z w : List Nat} {a : Nat} (h : Tx z a w) (ha : a ≤ z.length) : a + w.length ≤ z.length := by
  by_cases hw : w.length = 0
  · omega
  · have := h (w.length - 1) (by omega)
    rw [List.getElem?_eq_getElem (show w.length - 1 < w.length by omega)] at this
    have := (List.getElem?_eq_some_iff.mp this).1
    omega
theorem run_tx {z : List Nat} : ∀ {u : List Nat} {a : Nat}, (∀ c ∈ u, c ∈ DG) → Tx z a u → (∀ c, z[a + u.length]? = some c → c ∉ DG) → run z a = u
  | [], a, _, _, h => run_stop (by simpa using h)
  | c :: r, a, hd, ht, h => by
    rw [run_step ht.head (hd c List.mem_cons_self), run_tx (fun c hc => hd c (List.mem_cons_of_mem _ hc)) ht.tail (by
      intro c' hc'
      exact h c' (by rw [List.length_cons, ← hc']; congr 1; omega))]
theorem dec_facts : ∀ t : Nat, t ≤ 24 → (∀ c ∈ dec t, c ∈ DG) ∧ (1 ≤ t → (dec t).take 1 ≠ [48]) ∧ num (dec t) = t ∧ 1 ≤ (dec t).length ∧ (dec t).length ≤ 2 := by decide
section
variable {G : Type} {sg : G → Stv} {wg : G → List Nat} {vg : G → Prop} {z : List Nat} {k : Nat}
/-- groups are read -/
def GrOk (sg : G → Stv) (wg : G → List Nat) (vg : G → Prop) (z : List Nat) (k : Nat) : Prop := ∀ g, vg g → ∀ a, Tx z a (wg g) → z[a + (wg g).length]? = some 41 → ∃ f, rpOf z k = some f ∧ f a = .ok (sg g, a + (wg g).length)
theorem item_tx (hg : GrOk sg wg vg z k) {i : ItG G} {a : Nat} (hv : vI vg i) (ht : Tx z a (wI wg i)) : rdItem z k a = .ok (stI sg i, a + (wI wg i).length) := by
  rw [rdItem_item]
  -- the number ahead
  have numb : ∀ (t c : Nat) (r : List Nat), (t = 0 ∨ (2 ≤ t ∧ t ≤ 24)) → c ∉ DG → Tx z a (wN t ++ (c :: r)) → run z a = wN t ∧ bd z a = a + (wN t).length ∧ z[bd z a]? = some c ∧ Tx z (bd z a + 1) r ∧ ¬ (run z a).take 1 = [48] ∧ ¬ (run z a ≠ [] ∧ within (run z a) 2 24 = false) ∧ timesOf (run z a) = max 1 t := fun t c r h hc htx => by
    have h0 : z[a + (wN t).length]? = some c := htx.right.head
    have hr : run z a = wN t := by
      refine run_tx (fun x hx => ?_) htx.left (fun x hx => by rw [h0] at hx; cases hx; exact hc)
      unfold wN at hx
      split at hx
      · exact (dec_facts t (by omega)).1 x hx
      · simp at hx
    have hb : bd z a = a + (wN t).length := by unfold bd; rw [hr]
    refine ⟨hr, hb, by rw [hb, h0], by rw [hb]; exact htx.right.tail, ?_, ?_, ?_⟩
    · rw [hr]
      unfold wN
      split
      · exact (dec_facts t (by omega)).2.1 (by omega)
      · simp
    · rw [hr]
      unfold wN
      split
      · obtain ⟨_, _, h3, h4, h5⟩ := dec_facts t (by omega)
        have : within (dec t) 2 24 = true := within_iff.mpr ⟨h4, h5, by omega, by omega⟩
        rw [this]; simp
      · simp
    · rw [hr]
      unfold wN timesOf
      split
      · obtain ⟨_, _, h3, h4, h5⟩ := dec_facts t (by omega)
        rw [if_neg (fun e => by rw [e] at h4; exact absurd h4 (by decide)), h3]
        omega
      · rw [if_pos rfl]; omega
  cases i with
  | inl x =>
    obtain ⟨t, c⟩ := x
    obtain ⟨hc, h⟩ := hv
    have hd : c ∉ DG := by
      revert hc
      simp only [List.mem_cons, List.not_mem_nil, or_false]
      omega
    have h40 : c ≠ 40 := fun e => by subst e; revert hc; decide
    obtain ⟨n1, n2, n3, n4, n5, n6, n7⟩ := numb t c [] h hd ht
    unfold item
    rw [if_neg n5, n3]
    dsimp only
    rw [if_neg (fun z => z.1 hc), if_neg n6, if_pos h40, n7, n2]
    show Except.ok (stI sg (.inl (t, c)), _) = _
    have : (wI wg (.inl (t, c))).length = (wN t).length + 1 := by show (wN t ++ [c]).length = _; rw [List.length_append]; rfl
    rw [this, Nat.add_assoc]
  | inr x =>
    obtain ⟨t, g⟩ := x
    obtain ⟨h1, h2, h3⟩ := hv
    obtain ⟨n1, n2, n3, n4, n5, n6, n7⟩ := numb t 40 (wg g ++ [41]) (.inr ⟨h1, h2⟩) (by decide) ht
    obtain ⟨f, e1, e2⟩ := hg g h3 (bd z a + 1) n4.left n4.right.head
    unfold item
    rw [if_neg n5, n3]
    dsimp only
    rw [if_neg (fun z => z.2 rfl), if_neg n6, if_neg (fun z => z rfl), n7, e1]
    dsimp only
    rw [e2]
    unfold close
    dsimp only
    rw [if_pos n4.right.head]
    have : (wI wg (.inr (t, g))).length = (wN t).length + 1 + (wg g).length + 1 := by
      show (wN t ++ ([40] ++ (wg g ++ [41]))).length = _
      simp only [List.length_append, List.length_singleton]
      omega
    rw [this, n2]
    show Except.ok (stI sg (.inr (t, g)), _) = _
    congr 2
    omega
theorem wI_start {i : ItG G} (hv : vI vg i) : ∃ c r, wI wg i = c :: r ∧ isStart c = true := by
  have key : ∀ (t : Nat) (x : Nat) (r : List Nat), (t = 0 ∨ (2 ≤ t ∧ t ≤ 24)) → (t = 0 → isStart x = true) → ∃ c r', wN t ++ (x :: r) = c :: r' ∧ isStart c = true := fun t x r h hx => by
    unfold wN
    split
    · obtain ⟨d1, _, _, h4, _⟩ := dec_facts t (by omega)
      cases hd : dec t with
      | nil => rw [hd] at h4; exact absurd h4 (by decide)
      | cons c r' =>
        refine ⟨c, _, rfl, ?_⟩
        have := d1 c (by rw [hd]; exact List.mem_cons_self)
        unfold isStart
        rw [decide_eq_true this, Bool.or_true]
    · exact ⟨x, r, rfl, hx (by omega)⟩
  cases i with
  | inl x =>
    refine key x.1 x.2 [] hv.2 fun _ => ?_
    unfold isStart
    rw [decide_eq_true hv.1]
    rfl
  | inr x => exact key x.1 40 _ (.inr ⟨hv.1, hv.2.1⟩) fun e => by have := hv.1; omega
theorem items_tx (hg : GrOk sg wg vg z k) : ∀ {is : List (ItG G)} {a : Nat} (p : Stv), a ≤ z.length → (∀ i ∈ is, vI vg i) → Tx z a (wIs wg is) → rItems z k a p = rItems z k (a + (wIs wg is).length) (is.foldl (fun p i => beh p (stI sg i)) p)
  | [], a, p, ha, _, _ => rfl
  | i :: r, a, p, ha, hv, ht => by
    have hi := hv i List.mem_cons_self
    have e : wIs wg (i :: r) = wI wg i ++ wIs wg r := by unfold wIs; rw [List.map_cons, List.flatten_cons]
    rw [e] at ht ⊢
    obtain ⟨c, r', hc, hs⟩ := wI_start (wg := wg) hi
    have hz : z[a]? = some c := by have := ht.left; rw [hc] at this; exact this.head
    rw [rItems_eq ha, hz]
    dsimp only
    rw [if_pos hs, item_tx hg hi ht.left]
    show rItems z k (a + (wI wg i).length) (beh p (stI sg i)) = _
    rw [items_tx hg _ (Tx.le ht.left ha) (fun i hi => hv i (List.mem_cons_of_mem _ hi)) ht.right, List.length_append, List.foldl_cons, Nat.add_assoc]
/-- what may stand behind a part -/
def Beh (o : Option Nat) : Prop := o = none ∨ o = some 38 ∨ o = some 41
theorem part_tx (hg : GrOk sg wg vg z k) (hpos : ∀ g, vg g → Pos (sg g)) {p : PtG G} {a : Nat} (ha : a ≤ z.length) (hv : vP sg vg p) (ht : Tx z a (wP wg p)) (hb : Beh z[a + (wP wg p).length]?) : Fg.part (rdItem z k) z a = .ok (stP sg p, a + (wP wg p).length) := by
  obtain ⟨h1, h2, h3⟩ := hv
  have hs := stIs_len hpos h2
  have hne := hs.2 h1
  rw [rPart_eq]
  unfold wP at ht hb ⊢
  have he : a + (wIs wg p.1).length ≤ z.length := Tx.le ht.left ha
  rw [items_tx hg (0, []) ha h2 ht.left]
  have eI : p.1.foldl (fun p i => beh p (stI sg i)) (0, []) = stIs sg p.1 := rfl
  rw [eI, rItems_eq he]
  have htr := ht.right
  unfold stP
  unfold wF at htr hb ⊢
  by_cases hf : 0 < p.2
  · rw [if_pos hf] at htr hb ⊢
    have hz := htr.head
    rw [hz]
    dsimp only
    rw [if_neg (by decide)]
    show partEnd z (stIs sg p.1) (a + (wIs wg p.1).length) = _
    unfold partEnd
    rw [if_neg (by omega), hz, if_pos rfl]
    have h4 : (stIs sg p.1).1 ≤ p.2 ∧ p.2 ≤ 24 := h3.resolve_left (by omega)
    obtain ⟨d1, d2, d3, d4, d5⟩ := dec_facts p.2 h4.2
    have hr : run z (a + (wIs wg p.1).length + 1) = dec p.2 := run_tx d1 htr.tail (fun c hc => by
      have e : a + (wIs wg p.1).length + 1 + (dec p.2).length = a + (wIs wg p.1 ++ 64 :: dec p.2).length := by rw [List.length_append, List.length_cons]; omega
      rw [e] at hc
      rcases hb with hb | hb | hb <;> rw [hb] at hc <;> cases hc <;> decide)
    unfold filled
    have w1 : within (dec p.2) (max 1 (stIs sg p.1).1) 24 = true := within_iff.mpr ⟨d4, d5, by omega, by omega⟩
    rw [hr, if_neg (fun e => by rw [e] at d4; exact absurd d4 (by decide)), if_neg (fun e => e.elim (d2 hf) (fun e => by rw [w1] at e; cases e)), d3, if_pos hf]
    have e : bd z (a + (wIs wg p.1).length + 1) = a + (wIs wg p.1 ++ 64 :: dec p.2).length := by unfold bd; rw [hr, List.length_append, List.length_cons]; omega
    rw [e]
  · rw [if_neg hf] at hb ⊢
    rw [if_neg hf, List.append_nil] at *
    rcases hb with hb | hb | hb
    all_goals
      rw [hb]
      show partEnd z (stIs sg p.1) (a + (wIs wg p.1).length) = _
      unfold partEnd
      rw [if_neg (by omega), hb, if_neg (by decide)]
theorem more_tx (hg : GrOk sg wg vg z k) (hpos : ∀ g, vg g → Pos (sg g)) : ∀ {ps : List (PtG G)} {a : Nat} (acc : List Stv), a ≤ z.length → (∀ p ∈ ps, vP sg vg p) → Tx z a (ps.flatMap fun p => 38 :: wP wg p) → (z[a + (ps.flatMap fun p => 38 :: wP wg p).length]? = none ∨ z[a + (ps.flatMap fun p => 38 :: wP wg p).length]? = some 41) →
    rMore z k a acc = .ok (shown (acc ++ ps.map (stP sg)), a + (ps.flatMap fun p => 38 :: wP wg p).length)
  | [], a, acc, ha, _, _, he => by
    rw [rMore_eq ha, if_neg (fun e => by
      have he : z[a]? = none ∨ z[a]? = some 41 := he
      rcases he with h | h <;> rw [h] at e <;> cases e), List.map_nil, List.append_nil]
    rfl
  | p :: r, a, acc, ha, hv, ht, he => by
    rw [List.flatMap_cons] at ht he ⊢
    have h0 := ht.left
    have hr := ht.right
    rw [rMore_eq ha, if_pos h0.head]
    have hl := Tx.le h0 ha
    rw [List.length_cons] at hl
    have e1 : a + 1 + (wP wg p).length = a + (38 :: wP wg p).length := by rw [List.length_cons]; omega
    have hb : Beh z[a + 1 + (wP wg p).length]? := by
      rw [e1]
      cases r with
      | nil =>
        rw [List.flatMap_nil, List.append_nil] at he
        rcases he with h | h
        · exact .inl h
        · exact .inr (.inr h)
      | cons p' r' =>
        rw [List.flatMap_cons] at hr
        exact .inr (.inl hr.left.head)
    rw [part_tx hg hpos (by omega) (hv p List.mem_cons_self) h0.tail hb]
    show rMore z k (a + 1 + (wP wg p).length) (acc ++ [stP sg p]) = _
    rw [e1]
    have e2 : a + ((38 :: wP wg p) ++ r.flatMap fun p => 38 :: wP wg p).length = a + (38 :: wP wg p).length + (r.flatMap fun p => 38 :: wP wg p).length := by rw [List.length_append]; omega
    rw [e2] at he ⊢
    rw [more_tx hg hpos (acc ++ [stP sg p]) (by rw [← e1]; omega) (fun p hp => hv p (List.mem_cons_of_mem _ hp)) hr he, List.append_assoc]
    rfl
theorem wPs_cons (p : PtG G) (r : List (PtG G)) : wPs wg (p :: r) = wP wg p ++ r.flatMap fun p => 38 :: wP wg p := by
  induction r generalizing p with
  | nil => show wP wg p = _; rw [List.flatMap_nil, List.append_nil]
  | cons q r ih =>
    have : wPs wg (p :: q :: r) = wP wg p ++ ([38] ++ wPs wg (q :: r)) := rfl
    rw [this, ih, List.flatMap_cons]
    rfl
theorem parts_tx (hg : GrOk sg wg vg z k) (hpos : ∀ g, vg g → Pos (sg g)) {ps : List (PtG G)} {a : Nat} (ha : a ≤ z.length) (hv : vPs sg vg ps) (ht : Tx z a (wPs wg ps)) (he : z[a + (wPs wg ps).length]? = none ∨ z[a + (wPs wg ps).length]? = some 41) : rd z k a = .ok (stPs sg ps, a + (wPs wg ps).length) := by
  obtain ⟨h1, h2⟩ := hv
  cases ps with
  | nil => exact absurd rfl h1
  | cons p r =>
    rw [wPs_cons] at ht he ⊢
    have hr := ht.right
    have hb : Beh z[a + (wP wg p).length]? := by
      cases r with
      | nil =>
        rw [List.flatMap_nil, List.append_nil] at he
        rcases he with h | h
        · exact .inl h
        · exact .inr (.inr h)
      | cons p' r' =>
        rw [List.flatMap_cons] at hr
        exact .inr (.inl hr.left.head)
    rw [rd_more, part_tx hg hpos ha (h2 p List.mem_cons_self) ht.left hb]
    show rMore z k (a + (wP wg p).length) [stP sg p] = _
    rw [List.length_append, ← Nat.add_assoc] at he ⊢
    exact more_tx hg hpos [stP sg p] (Tx.le ht.left ha) (fun p hp => h2 p (List.mem_cons_of_mem _ hp)) hr he
end
/-- the reader reads what is written -/
theorem read_ok : ∀ (d k : Nat), d ≤ k → ∀ (ps : Gr (d + 1)), vG (d + 1) ps → ∀ (z : List Nat) (a : Nat), a ≤ z.length → Tx z a (wG (d + 1) ps) → (z[a + (wG (d + 1) ps).length]? = none ∨ z[a + (wG (d + 1) ps).length]? = some 41) → rd z k a = .ok (stG (d + 1) ps, a + (wG (d + 1) ps).length)
  | 0, k, hk, ps, hv, z, a, ha, ht, he => parts_tx (sg := stG 0) (wg := wG 0) (vg := vG 0) (fun g => nomatch g) (fun g => nomatch g) ha hv ht he
  | d + 1, k, hk, ps, hv, z, a, ha, ht, he => by
    obtain ⟨k', rfl⟩ : ∃ k', k = k' + 1 := ⟨k - 1, by omega⟩
    refine parts_tx (sg := stG (d + 1)) (wg := wG (d + 1)) (vg := vG (d + 1)) (fun g hg b hb hc => ⟨rd z k', rfl, ?_⟩) (stG_pos (d + 1)) ha hv ht he
    have hbl : b ≤ z.length := by
      have := (List.getElem?_eq_some_iff.mp hc).1
      omega
    exact read_ok d k' (by omega) g hg z b hbl hb (.inr hc)
theorem told_ok (d : Nat) (hd : d ≤ 6) (ps : Gr (d + 1)) (hv : vG (d + 1) ps) : told (wG (d + 1) ps) = .done (stG (d + 1) ps) := by
  unfold told
  rw [read_ok d 6 hd ps hv _ 0 (by omega) (fun i hi => by rw [Nat.zero_add]) (.inl (List.getElem?_eq_none (by omega)))]
  dsimp only
  rw [if_neg (by omega)]
end Fg
namespace Fg
open PySem PySem.Spec PyProof.Rows L2
def Wf (ps : List Stv) (p : Stv) : Prop := (∀ x ∈ ps, 1 ≤ x.1 ∧ (x.1 ≤ 24 → x.2.length = x.1)) ∧ (p.1 ≤ 24 → p.2.length = p.1)
def wt (ps : List Stv) (p : Stv) : Nat := (lcmL ps + 1) * (p.1 + 1)
def WS : List Fr → Nat
  | [] => 1
  | (t, ps, p) :: r => t * wt ps p * WS r
structure WB (st : List Fr) (ps : List Stv) (p : Stv) (a : Nat) : Prop where
  wf : Wf ps p
  fr : ∀ f ∈ st, Wf f.2.1 f.2.2 ∧ 1 ≤ f.1 ∧ f.1 ≤ 24
  le : WS st * wt ps p ≤ 2 ^ (5 * a + 1)
theorem WS_pos {st : List Fr} (h : ∀ f ∈ st, Wf f.2.1 f.2.2 ∧ 1 ≤ f.1 ∧ f.1 ≤ 24) : 1 ≤ WS st := by
  induction st with
  | nil => exact Nat.le_refl _
  | cons f r ih =>
    obtain ⟨t, ps, p⟩ := f
    have h1 := (h _ List.mem_cons_self).2.1
    have h2 := ih fun f hf => h f (List.mem_cons_of_mem _ hf)
    have h3 : 1 ≤ wt ps p := Nat.mul_pos (Nat.succ_pos _) (Nat.succ_pos _)
    exact Nat.mul_pos (Nat.mul_pos h1 h3) h2
theorem pow_step {a b : Nat} (h : a < b) : 2 ^ (5 * a + 1) * 32 ≤ 2 ^ (5 * b + 1) := by
  have : 2 ^ (5 * a + 1) * 32 = 2 ^ (5 * (a + 1) + 1) := by rw [show 5 * (a + 1) + 1 = (5 * a + 1) + 5 by omega, Nat.pow_add _ _ 5]
  rw [this]
  exact Nat.pow_le_pow_right (by decide) (by omega)
/-- the weight grows by no more than the text -/
theorem WB.grow {st st' : List Fr} {ps ps' : List Stv} {p p' : Stv} {a b : Nat} (h : WB st ps p a) (hab : a < b) (h1 : Wf ps' p') (h2 : ∀ f ∈ st', Wf f.2.1 f.2.2 ∧ 1 ≤ f.1 ∧ f.1 ≤ 24)
    (h3 : WS st' * wt ps' p' ≤ WS st * wt ps p * 32) : WB st' ps' p' b :=
  ⟨h1, h2, Nat.le_trans h3 (Nat.le_trans (Nat.mul_le_mul_right _ h.le) (pow_step hab))⟩
theorem lcm_snoc_le {ps : List Stv} {p : Stv} (h : ∀ x ∈ ps, 1 ≤ x.1 ∧ (x.1 ≤ 24 → x.2.length = x.1)) (hp : p.1 ≠ 0) : lcmL (ps ++ [p]) + 1 ≤ wt ps p := by
  rw [lcmL_snoc]
  have := lcm_le_mul (lcmL_pos fun x hx => (h x hx).1) (show 1 ≤ p.1 by omega)
  unfold wt
  rw [Nat.add_mul, Nat.mul_add]
  omega
theorem beh_len {p s : Stv} (hp : p.1 ≤ 24 → p.2.length = p.1) (hs : s.1 ≤ 24 → s.2.length = s.1) : (beh p s).1 ≤ 24 → (beh p s).2.length = (beh p s).1 := fun h => by
  have h : p.1 + s.1 ≤ 24 := h
  show (p.2 ++ s.2).length = p.1 + s.1
  rw [List.length_append, hp (by omega), hs (by omega)]
theorem rep_lenS {s : Stv} {t : Nat} (hs : s.1 ≤ 24 → s.2.length = s.1) (t1 : 1 ≤ t) : (rep s t).1 ≤ 24 → (rep s t).2.length = (rep s t).1 := fun h => by
  have h : s.1 * t ≤ 24 := h
  have : s.1 ≤ s.1 * t := Nat.le_mul_of_pos_right _ t1
  show (rpt t s.2).length = s.1 * t
  rw [rpt_len, hs (by omega), Nat.mul_comm]
theorem WB.close {rest : List Fr} {ps ps' : List Stv} {p p' : Stv} {t a : Nat} (h : WB ((t, ps', p') :: rest) ps p a) (hp : p.1 ≠ 0) : WB rest ps' (beh p' (rep (shown (ps ++ [p])) t)) (a + 1) := by
  obtain ⟨f1, f2, f3⟩ := h.fr _ List.mem_cons_self
  refine h.grow (Nat.lt_succ_self _) ⟨f1.1, beh_len f1.2 (rep_lenS (fun _ => showN_len _ _) f2)⟩ (fun f hf => h.fr f (List.mem_cons_of_mem _ hf)) ?_
  have h1 := lcm_snoc_le h.wf.1 hp
  show WS rest * ((lcmL ps' + 1) * (p'.1 + lcmL (ps ++ [p]) * t + 1)) ≤ t * ((lcmL ps' + 1) * (p'.1 + 1)) * WS rest * wt ps p * 32
  generalize lcmL (ps ++ [p]) = L at *
  generalize wt ps p = W at *
  generalize WS rest = R
  generalize lcmL ps' + 1 = M
  have h2 : p'.1 + L * t + 1 ≤ t * (p'.1 + 1) * W := by
    have a1 : L * t + t ≤ t * W := by
      have := Nat.mul_le_mul_left t h1
      rw [Nat.mul_add, Nat.mul_one, Nat.mul_comm t L] at this
      exact this
    have a2 : t * W ≤ (p'.1 + 1) * (t * W) := Nat.le_mul_of_pos_left _ (Nat.succ_pos _)
    have a3 : (p'.1 + 1) * (t * W) = p'.1 * (t * W) + t * W := by rw [Nat.add_mul, Nat.one_mul]
    have a4 : p'.1 ≤ p'.1 * (t * W) := Nat.le_mul_of_pos_right _ (by have : t ≤ t * W := by omega
                                                                     omega)
    have a5 : t * (p'.1 + 1) * W = (p'.1 + 1) * (t * W) := by rw [Nat.mul_comm t, Nat.mul_assoc]
    rw [a5, a3]
    omega
  calc R * (M * (p'.1 + L * t + 1)) ≤ R * (M * (t * (p'.1 + 1) * W)) := Nat.mul_le_mul_left _ (Nat.mul_le_mul_left _ h2)
    _ = t * (M * (p'.1 + 1)) * R * W := by simp only [Nat.mul_comm, Nat.mul_left_comm, Nat.mul_assoc]
    _ ≤ t * (M * (p'.1 + 1)) * R * W * 32 := Nat.le_mul_of_pos_right _ (by decide)
theorem WB.part {st : List Fr} {ps : List Stv} {p p' : Stv} {a b : Nat} (h : WB st ps p a) (hab : a < b) (hl : p'.1 ≤ 24 → p'.2.length = p'.1) (h1 : p'.1 + 1 ≤ (p.1 + 1) * 32) : WB st ps p' b := by
  refine h.grow hab ⟨h.wf.1, hl⟩ h.fr ?_
  unfold wt
  calc WS st * ((lcmL ps + 1) * (p'.1 + 1)) ≤ WS st * ((lcmL ps + 1) * ((p.1 + 1) * 32)) := Nat.mul_le_mul_left _ (Nat.mul_le_mul_left _ h1)
    _ = WS st * ((lcmL ps + 1) * (p.1 + 1)) * 32 := by simp only [Nat.mul_assoc]
theorem WB.sign {st : List Fr} {ps : List Stv} {p : Stv} {a b c t : Nat} (h : WB st ps p a) (hab : a < b) (t1 : 1 ≤ t) (t2 : t ≤ 24) : WB st ps (beh p (rep (1, [c]) t)) b := by
  refine h.part hab (beh_len h.wf.2 (rep_lenS (fun _ => rfl) t1)) ?_
  show p.1 + 1 * t + 1 ≤ _
  rw [Nat.add_mul]; omega
theorem WB.big {st : List Fr} {ps : List Stv} {p : Stv} {a : Nat} (h : WB st ps p a) (hp : p.1 ≠ 0) (ha : a ≤ 1700) : Big (lcmL (ps ++ [p])) := by
  have h1 := lcm_snoc_le h.wf.1 hp
  have h2 : wt ps p ≤ WS st * wt ps p := Nat.le_mul_of_pos_left _ (WS_pos h.fr)
  have h3 : 2 ^ (5 * a + 1) ≤ 2 ^ 8600 := Nat.pow_le_pow_right (by decide) (by omega)
  exact Nat.lt_of_lt_of_le (Nat.lt_of_succ_le (Nat.le_trans h1 (Nat.le_trans h2 h.le))) h3
theorem WB.start : WB [] [] (0, []) 0 := ⟨⟨by simp, fun _ => rfl⟩, by simp, by decide⟩
def PL (H : Hp) (D : Addr) (ps : List Stv) : Prop := ∃ qs : List Addr, H D = some (.lst (qs.map V.ref)) ∧ PartsAt H qs ps
theorem PL.mono {H H' : Hp} {D : Addr} {ps : List Stv} (h : PL H D ps) (s : Same H H') : PL H' D ps := by
  obtain ⟨qs, h1, h2⟩ := h
  exact ⟨qs, s _ _ h1, h2.mono s⟩
theorem PartsAt.snoc {H : Hp} {qs : List Addr} {ps : List Stv} {q : Addr} {p : Stv} (h : PartsAt H qs ps) (hq : H q = some (Sv p.1 p.2)) : PartsAt H (qs ++ [q]) (ps ++ [p]) := by
  have hl := h.1
  refine ⟨by rw [List.length_append, List.length_append, hl]; rfl, fun i x y h1 h2 => ?_⟩
  by_cases hi : i < qs.length
  · rw [List.getElem?_append_left hi] at h1
    rw [List.getElem?_append_left (by omega)] at h2
    exact h.2 i x y h1 h2
  · rw [List.getElem?_append_right (by omega)] at h1
    rw [List.getElem?_append_right (by omega)] at h2
    have e0 : i - qs.length = 0 := by
      have := (List.getElem?_eq_some_iff.mp h1).1
      rw [List.length_singleton] at this
      omega
    rw [e0] at h1
    rw [show i - ps.length = 0 by omega] at h2
    cases h1; cases h2
    exact hq
def FA (H : Hp) (a : Addr) (f : Fr) : Prop := ∃ D q, H a = some (.tup [.int (f.1 : Int), .ref D, .ref q]) ∧ PL H D f.2.1 ∧ H q = some (Sv f.2.2.1 f.2.2.2)
theorem FA.mono {H H' : Hp} {a : Addr} {f : Fr} (h : FA H a f) (s : Same H H') : FA H' a f := by
  obtain ⟨D, q, h1, h2, h3⟩ := h
  exact ⟨D, q, s _ _ h1, h2.mono s, s _ _ h3⟩
/-- the frames of a stack, the last opened one last -/
inductive FS (H : Hp) : List Addr → List Fr → Prop where
  | nil : FS H [] []
  | cons {as : List Addr} {st : List Fr} {a : Addr} {f : Fr} : FS H as st → FA H a f → FS H (as ++ [a]) (f :: st)
theorem FS.mono {H H' : Hp} {as : List Addr} {st : List Fr} (h : FS H as st) (s : Same H H') : FS H' as st := by
  induction h with
  | nil => exact .nil
  | cons _ h2 ih => exact .cons ih (h2.mono s)
theorem FS.len {H : Hp} {as : List Addr} {st : List Fr} (h : FS H as st) : as.length = st.length := by
  induction h with
  | nil => rfl
  | cons _ _ ih => rw [List.length_append, ih]; rfl
def SL (H : Hp) (D : Addr) (st : List Fr) : Prop := ∃ as : List Addr, H D = some (.lst (as.map V.ref)) ∧ FS H as st
theorem SL.mono {H H' : Hp} {D : Addr} {st : List Fr} (h : SL H D st) (s : Same H H') : SL H' D st := by
  obtain ⟨as, h1, h2⟩ := h
  exact ⟨as, s _ _ h1, h2.mono s⟩
end Fg
namespace Fg
open PySem PySem.Spec PyProof.Rows L2
inductive F2 {α β : Type} (R : α → β → Prop) : List α → List β → Prop where
  | nil : F2 R [] []
  | cons {a : α} {b : β} {as : List α} {bs : List β} : R a b → F2 R as bs → F2 R (a :: as) (b :: bs)
theorem F2.imp {α β : Type} {R R' : α → β → Prop} (h : ∀ a b, R a b → R' a b) : ∀ {as : List α} {bs : List β}, F2 R as bs → F2 R' as bs
  | _, _, .nil => .nil
  | _, _, .cons h1 h2 => .cons (h _ _ h1) (h2.imp h)
theorem F2.len {α β : Type} {R : α → β → Prop} : ∀ {as : List α} {bs : List β}, F2 R as bs → as.length = bs.length
  | _, _, .nil => rfl
  | _, _, .cons _ h2 => by rw [List.length_cons, List.length_cons, h2.len]
theorem F2.get {α β : Type} {R : α → β → Prop} : ∀ {as : List α} {bs : List β}, F2 R as bs → ∀ (i : Nat) (a : α), as[i]? = some a → ∃ b, bs[i]? = some b ∧ R a b
  | _, _, .nil, i, a, h => by simp at h
  | _, _, .cons h1 h2, 0, a, h => by cases h; exact ⟨_, rfl, h1⟩
  | _, _, .cons h1 h2, i + 1, a, h => h2.get i a h
theorem F2.snoc {α β : Type} {R : α → β → Prop} {a : α} {b : β} : ∀ {as : List α} {bs : List β}, F2 R as bs → R a b → F2 R (as ++ [a]) (bs ++ [b])
  | _, _, .nil, h => .cons h .nil
  | _, _, .cons h1 h2, h => .cons h1 (h2.snoc h)
theorem F2.app {α β : Type} {R : α → β → Prop} : ∀ {as : List α} {bs : List β} {cs : List α} {ds : List β}, F2 R as bs → F2 R cs ds → F2 R (as ++ cs) (bs ++ ds)
  | _, _, _, _, .nil, h => h
  | _, _, _, _, .cons h1 h2, h => .cons h1 (h2.app h)
section
variable {G : Type} (rg : Hp → V → G → Prop)
def RI (H : Hp) (v : V) : ItG G → Prop
  | .inl (t, c) => ∃ a, v = .ref a ∧ H a = some (.tup [.int (t : Int), S [c]])
  | .inr (t, g) => ∃ a w, v = .ref a ∧ H a = some (.tup [.int (t : Int), w]) ∧ rg H w g
def RIs (H : Hp) (v : V) (is : List (ItG G)) : Prop := ∃ a vs, v = .ref a ∧ H a = some (.lst vs) ∧ F2 (RI rg H) vs is
def RP (H : Hp) (v : V) (p : PtG G) : Prop := ∃ a w, v = .ref a ∧ H a = some (.tup [w, .int (p.2 : Int)]) ∧ RIs rg H w p.1
def RPs (H : Hp) (v : V) (ps : List (PtG G)) : Prop := ∃ a vs, v = .ref a ∧ H a = some (.lst vs) ∧ F2 (RP rg H) vs ps
def Mn : Prop := ∀ H H' v g, rg H v g → Same H H' → rg H' v g
end
section
variable {G : Type} {rg : Hp → V → G → Prop} {H H' : Hp} {v : V}
theorem RI.mono (m : Mn rg) {i : ItG G} (h : RI rg H v i) (s : Same H H') : RI rg H' v i := by
  cases i with
  | inl x => obtain ⟨a, h1, h2⟩ := h; exact ⟨a, h1, s _ _ h2⟩
  | inr x => obtain ⟨a, w, h1, h2, h3⟩ := h; exact ⟨a, w, h1, s _ _ h2, m _ _ _ _ h3 s⟩
theorem RIs.mono (m : Mn rg) {is : List (ItG G)} (h : RIs rg H v is) (s : Same H H') : RIs rg H' v is := by
  obtain ⟨a, vs, h1, h2, h3⟩ := h
  exact ⟨a, vs, h1, s _ _ h2, h3.imp fun _ _ h => h.mono m s⟩
theorem RP.mono (m : Mn rg) {p : PtG G} (h : RP rg H v p) (s : Same H H') : RP rg H' v p := by
  obtain ⟨a, w, h1, h2, h3⟩ := h
  exact ⟨a, w, h1, s _ _ h2, h3.mono m s⟩
theorem RPs.mono (m : Mn rg) {ps : List (PtG G)} (h : RPs rg H v ps) (s : Same H H') : RPs rg H' v ps := by
  obtain ⟨a, vs, h1, h2, h3⟩ := h
  exact ⟨a, vs, h1, s _ _ h2, h3.imp fun _ _ h => h.mono m s⟩
end
section
variable {G : Type} {sg : G → Stv} {wg : G → List Nat}
end
end Fg
namespace Fg
open PySem PySem.Spec PyProof.Rows L2
/-- the shorter one, or the one ahead by its signs -/
def slt (i : Int) (l : List Nat) (j : Int) (m : List Nat) : Bool := if i = j then decide (l < m) else decide (i < j)
theorem str_beq (l m : List Nat) : ((⟨l.toArray⟩ : Str) == ⟨m.toArray⟩) = decide (l = m) := by
  rw [Bool.eq_iff_iff, beq_iff_eq, decide_eq_true_eq]
  constructor
  · intro h
    exact List.toArray_inj (congrArg PySem.Str.cps h)
  · rintro rfl; rfl
theorem int_beq (i j : Int) : (i == j) = decide (i = j) := by rw [Bool.eq_iff_iff, beq_iff_eq, decide_eq_true_eq]
theorem rc_pair_lt {A : Around} {s : Shared} {a b : Addr} {i j : Int} {l m : List Nat} {its its2 : List Value} (r1 : Vals [V.int i, S l] its) (r2 : Vals [V.int j, S m] its2) (h1 : s.heap.IsTuple a its.toArray) (h2 : s.heap.IsTuple b its2.toArray) (hu : A.units < cLine) :
    Ob.RcOp .Lt A s (.ref a) (.ref b) (slt i l j m) := by
  obtain ⟨x1, x2, rfl, ⟨t1, rfl⟩, ⟨t2, rfl⟩⟩ := vals2 r1
  obtain ⟨y1, y2, rfl, ⟨u1, rfl⟩, ⟨u2, rfl⟩⟩ := vals2 r2
  have R := Ob.RcOp.tuples_lt (A := A) (s := s) (e := fun n => if n = 0 then decide (i = j) else decide (l = m)) (r := fun n => if n = 0 then decide (i < j) else decide (l < m)) h1 h2 hu
    (fun n g1 g2 => by
      match n, g1, g2 with
      | 0, _, _ =>
        show SeqAt.EqAt A.in1 s (.int i t1) (.int j u1) (decide (i = j))
        rw [← int_beq]; exact SeqAt.EqAt.int_int _ _ _ _
      | 1, _, _ =>
        show SeqAt.EqAt A.in1 s (.str ⟨l.toArray⟩ t2) (.str ⟨m.toArray⟩ u2) (decide (l = m))
        rw [← str_beq]; exact SeqAt.EqAt.str_str _ _ _ _)
    (fun n g1 g2 _ => by
      match n, g1, g2 with
      | 0, _, _ => exact Ob.RcOp.lt_int _ _ _ _
      | 1, _, _ =>
        show Ob.RcOp .Lt A.in1 s (.str ⟨l.toArray⟩ t2) (.str ⟨m.toArray⟩ u2) (decide (l < m))
        exact fun prog w E Q h => lt_str (by simpa using h))
  have e : Ob.lexAt (fun n => if n = 0 then decide (i = j) else decide (l = m)) (fun n => if n = 0 then decide (i < j) else decide (l < m)) (decide (2 < 2)) 0 2 = slt i l j m := by
    rw [Ob.lexAt_succ, Ob.lexAt_succ, Ob.lexAt_zero]
    unfold slt
    by_cases hij : i = j <;> by_cases hs : l = m <;> simp [hij, hs, List.lt_irrefl]
  rw [← e]
  exact R
structure Tmp (X : Cx) (pins : List (Addr × Obj)) (it : Addr) : Prop where
  loc : it ≠ X.env.locals
  fs : it ∉ X.fs
  sz : X.s_0.heap.objs.size ≤ it
  cell : ∀ x c, X.env.cells.lookup x = some c → c ≠ it
  pin : ∀ p ∈ X.pn ++ pins, p.1 ≠ it
section
variable {X : Cx} {pins ps : List (Addr × Obj)} {σ : L2.St} {H : Hp} {s : Shared} {it : Addr} {o o' : Obj} {h' : Heap}
theorem Tmp.new (I : Inv X pins σ H s) (h : s.heap.objs.size ≤ it) : Tmp X pins it := by
  refine ⟨Nat.ne_of_gt (Nat.lt_of_lt_of_le I.lt h), I.nofs h, Nat.le_trans I.sz h, fun x c e => ?_, fun p hp => ?_⟩
  · obtain ⟨v, o, ho, _⟩ := I.cell x c e
    exact Nat.ne_of_lt (Nat.lt_of_lt_of_le (Heap.lt_size ho) h)
  · exact Nat.ne_of_lt (Nat.lt_of_lt_of_le (Heap.lt_size (I.pin p hp).1) h)
theorem Tmp.more (t : Tmp X ps it) (h : ∀ p ∈ pins, p.1 ≠ it) : Tmp X (pins ++ ps) it := ⟨t.loc, t.fs, t.sz, t.cell, fun p hp => by
  rcases List.mem_append.mp hp with hp | hp
  · exact t.pin p (List.mem_append_left _ hp)
  · rcases List.mem_append.mp hp with hp | hp
    · exact h p hp
    · exact t.pin p (List.mem_append_right _ hp)⟩
/-- a temporary has changed -/
theorem inv_tmp {t' : Nat} (I : Inv X ((it, o) :: ps) σ H s) (t : Tmp X ps it) (k : ∀ b u, b ≠ it → s.heap.get? b = some u → h'.get? b = some u) (hn : h'.get? it = some o') (hd : ∀ v, o'.data ≠ .cell v) : Inv X ((it, o') :: ps) σ H { s with heap := h', toks := t' } := by
  have e0 := I.pin (it, o) (List.mem_append_right _ List.mem_cons_self)
  have I1 : Inv X ps σ H s := I.pins_of fun p hp => I.pin p (List.mem_append_right _ (List.mem_cons_of_mem _ hp))
  have I2 : Inv X ps σ H { s with heap := h', toks := t' } := I1.turned k e0.2.1 t.loc (.inr t.sz) t.cell t.pin
  refine I2.pins_of fun p hp => ?_
  rcases List.mem_cons.mp hp with rfl | hp
  · exact ⟨hn, e0.2.1, t.loc, t.fs, hd⟩
  · exact I2.pin p (List.mem_append_right _ hp)
theorem inv_unpin (I : Inv X ((it, o) :: ps) σ H s) : Inv X ps σ H s := I.pins_of fun p hp => I.pin p (List.mem_append_right _ (List.mem_cons_of_mem _ hp))
theorem inv_swap {q : Addr × Obj} (I : Inv X ((it, o) :: q :: ps) σ H s) : Inv X (q :: (it, o) :: ps) σ H s := I.pins_of fun p hp => I.pin p (List.mem_append_right _ (by
  rcases List.mem_cons.mp hp with rfl | hp
  · exact List.mem_cons_of_mem _ List.mem_cons_self
  · rcases List.mem_cons.mp hp with rfl | hp
    · exact List.mem_cons_self
    · exact List.mem_cons_of_mem _ (List.mem_cons_of_mem _ hp)))
end
/-- m is ahead of all -/
def lt2 (a b : List Nat) : Prop := slt (a.length : Int) a (b.length : Int) b = true
def KeyOk (p : P1) (H : Hp) (xs : List (List Nat)) : Prop := ∀ H' x, Same H H' → x ∈ xs → ∀ Q' : VK, (∀ q, H' q = none → Q' (.ref q) (upd H' q (.tup [.int (x.length : Int), S x]))) → p (S x) H' Q' E0
section
variable {X : Cx} {pins : List (Addr × Obj)} {σ : L2.St} {H : Hp} {f a I S' : Addr} {fd : FuncData} {px : Str} {p : P1} {k : Nat} {xs : List (List Nat)} {R : Result → Shared → Prop}
theorem mk_loop (F : FnOk X.prog X.w X.K X.mg X.base CX0 k f fd [px] (sp1 p)) (hb : Binds X.K fd [px] []) (hr : Room (k + 1) X.A) (hs : SqL X.K H a (xs.map S)) (hk : KeyOk p H xs) (tI : Tmp X pins I) (tS : Tmp X pins S') (hIS : I ≠ S') (hIa : I ≠ a)
    (hR : ∀ (m : List Nat) (v : Value) H' s', m ∈ xs → (∀ y ∈ xs, ¬ lt2 y m) → RelV (S m) v → Inv X pins σ H' s' → Same H H' → R (.ok (.ret v)) s') :
    ∀ (r j i : Nat) (s : Shared) (H1 : Hp) (m : List Nat) (vb : Value) (q : Addr) (c : Nat) (oI : Obj), xs.length - (j + 1) = r → j + 1 ≤ xs.length → Inv X ((S', seqObj "list" #[vb, .ref q] c) :: (I, oI) :: pins) σ H1 s → Same H H1 → RelV (S m) vb → H1 q = some (.tup [.int (m.length : Int), S m]) →
      s.heap.IsListIter I a (j + 1) → xs[i]? = some m → i ≤ j → (∀ j' y, j' ≤ j → xs[j']? = some y → ¬ lt2 y m) →
      codeAny (model X.prog X.w) X.A (.builtin "min.loop" ⟨[.ref I, .ref f, .ref S'], []⟩) R s := by
  have hname : (toString "min" ++ toString ".loop" : String) = "min.loop" := by decide
  intro r
  induction r with
  | zero =>
    intro j i s H1 m vb q c oI hr' hj J sm rv hq hit hm hij hbest
    obtain ⟨its, rvs, pl, hz⟩ := J.list (sm.seq hs)
    have hlen : its.length = xs.length := by have := rvs.length; rw [List.length_map] at this; exact this.symm
    have W := Walks.list (prog := X.prog) (w := X.w) (A := X.A.in1) hr.hd I a (Ne.symm hIa) its.toArray
    have hsz : its.toArray.size = xs.length := by rw [List.size_toArray]; exact hlen
    have nS := J.pin _ (List.mem_append_right _ List.mem_cons_self)
    refine codeAny_builtin PySem.F.entry_min_loop ?_
    rw [Around.under_plainId PySem.F.plain_min_loop _]
    show wpAny _ X.A.in1 (seqItems? (.ref S') >>= _) _ _ _
    refine wpAny_bind (wpAny_seqItems nS.1 rfl ?_)
    show wpAny _ X.A.in1 (tryCatch (pyNext (.ref I)) _ >>= _) _ _ _
    refine wpAny_bind (wpAny_tryCatch (W.done _ _ _ ⟨by rw [hsz, show xs.length = j + 1 by omega]; exact hit, pl.isList⟩ fun h' tk' hk' => ?_))
    have J1 : Inv X pins σ H1 { s with heap := h', toks := tk' } := (inv_unpin (inv_unpin J)).turned (fun b u hb e => hk' b u (fun z => hb (by simpa using z)) e) (J.pin (I, oI) (List.mem_append_right _ (List.mem_cons_of_mem _ List.mem_cons_self))).2.1 tI.loc (.inr tI.sz) tI.cell tI.pin
    have hS1 := hk' S' _ (by simpa using Ne.symm hIS) nS.1
    have s1 := Heap.SameBut.update h' S' (Obj.mapSeq fun _ => (#[] : Array Value))
    show wpAny _ X.A.in1 (updateSeq S' (fun _ => #[]) >>= _) _ _ _
    refine wpAny_bind ?_
    refine wpAny_updateSeq hS1 rfl (wpAny_bind (wpAny_letGo (wpAny_pure ?_)))
    refine hR m vb H1 _ (List.mem_of_getElem? hm) (fun y hy => ?_) rv (J1.turned (fun b u hb e => (s1.2 b hb).trans e) nS.2.1 tS.loc (.inr tS.sz) tS.cell tS.pin) sm
    obtain ⟨j', hj', e⟩ := List.mem_iff_getElem.mp hy
    exact hbest j' y (by omega) (by rw [List.getElem?_eq_getElem hj', e])
  | succ r ih =>
    intro j i s H1 m vb q c oI hr' hj J sm rv hq hit hm hij hbest
    obtain ⟨its, rvs, pl, hz⟩ := J.list (sm.seq hs)
    have hlen : its.length = xs.length := by have := rvs.length; rw [List.length_map] at this; exact this.symm
    have W := Walks.list (prog := X.prog) (w := X.w) (A := X.A.in1) hr.hd I a (Ne.symm hIa) its.toArray
    have hsz : its.toArray.size = xs.length := by rw [List.size_toArray]; exact hlen
    have nS := J.pin _ (List.mem_append_right _ List.mem_cons_self)
    have hlt : j + 1 < xs.length := by omega
    refine codeAny_builtin PySem.F.entry_min_loop ?_
    rw [Around.under_plainId PySem.F.plain_min_loop _]
    show wpAny _ X.A.in1 (seqItems? (.ref S') >>= _) _ _ _
    refine wpAny_bind (wpAny_seqItems nS.1 rfl ?_)
    show wpAny _ X.A.in1 (tryCatch (pyNext (.ref I)) _ >>= _) _ _ _
    refine wpAny_bind (wpAny_tryCatch (W.item (j + 1) _ _ _ (by rw [hsz]; exact hlt) ⟨hit, pl.isList⟩ fun v h' tk' hP hst' hk' => ?_))
    have hv : its[j + 1]? = some v := by simpa using hP
    obtain ⟨oI', hoI', hoc, hod⟩ := id hst'.1
    obtain ⟨x, hx⟩ : ∃ x, xs[j + 1]? = some x := ⟨_, List.getElem?_eq_getElem hlt⟩
    have rx : RelV (S x) v := by
      obtain ⟨u, hu, ru⟩ := rvs.get (i := j + 1) (x := S x) (by rw [List.getElem?_map, hx]; rfl)
      rw [hv] at hu
      cases hu
      exact ru
    have J1 : Inv X ((I, oI') :: (S', seqObj "list" #[vb, .ref q] c) :: pins) σ H1 { s with heap := h', toks := tk' } :=
      inv_tmp (inv_swap J) (tI.more (pins := [(S', seqObj "list" #[vb, .ref q] c)]) (fun p hp => by rw [List.mem_singleton.mp hp]; exact Ne.symm hIS)) (fun b u hb e => hk' b u (fun z => hb (by simpa using z)) e) hoI' (fun v z => by rw [hod] at z; cases z)
    show wpAny _ X.A.in1 (tryCatch (holding [v] (call (.ref f) [v])) _ >>= _) _ _ _
    have hmx : x ∈ xs := List.mem_of_getElem? hx
    have turn : wpAny (model X.prog X.w) X.A.in1 (call (.ref f) [v]) (EP X ((I, oI') :: (S', seqObj "list" #[vb, .ref q] c) :: pins) σ (fun y H2 => ∃ q2, H1 q2 = none ∧ y = .ref q2 ∧ H2 = upd H1 q2 (.tup [.int (x.length : Int), S x]))) (fun _ _ => False) { s with heap := h', toks := tk' } := by
      refine wpAny_call (codeAny_mono (F.run X.A.in1 X.stack _ H1 ⟨[v], []⟩ [v] [S x] _ E0 hr.in1 J1.env0.in1 (hb _ [v] J1.kIn rfl) (.cons rx .nil) ⟨S x, rfl, hk H1 x sm hmx (fun y H2 => ∃ q2, H1 q2 = none ∧ y = .ref q2 ∧ H2 = upd H1 q2 (.tup [.int (x.length : Int), S x])) fun q2 n2 => ⟨q2, n2, rfl, rfl⟩⟩) fun r' s' hq' => ?_)
      cases r' with
      | error e => exact False.elim hq'
      | ok fl =>
        cases fl with
        | ret u => exact J1.after hq'
        | next => exact False.elim hq'
        | brk => exact False.elim hq'
        | cont => exact False.elim hq'
    refine wpAny_bind (wpAny_tryCatch (wpAny_holding (wpAny_mono turn (fun u s2 he => ?_) fun _ _ hF => hF.elim)))
    obtain ⟨y, H2, J2, ry, q2, n2, rfl, rfl⟩ := he
    obtain rfl : u = Value.ref q2 := ry
    have hq2 : (upd H1 q2 (.tup [.int (x.length : Int), S x])) q = some (.tup [.int (m.length : Int), S m]) := (upd_ne (ne_of_none hq n2)).trans hq
    have nS2 := J2.pin (S', seqObj "list" #[vb, .ref q] c) (List.mem_append_right _ (List.mem_cons_of_mem _ List.mem_cons_self))
    have nI2 := J2.pin (I, oI') (List.mem_append_right _ List.mem_cons_self)
    have hit2 : s2.heap.IsListIter I a (j + 1 + 1) := ⟨oI', nI2.1, hoc, hod⟩
    obtain ⟨i1, r1, p1, _⟩ := J2.tuple (xs := [.int (x.length : Int), S x]) (SqT.of upd_same)
    obtain ⟨i2, r2, p2, _⟩ := J2.tuple (xs := [.int (m.length : Int), S m]) (SqT.of hq2)
    have hu : X.A.in1.units < cLine := hr.in1.units0
    have sm2 : Same H (upd H1 q2 (.tup [.int (x.length : Int), S x])) := sm.trans (same_upd n2)
    have irr : ∀ y : List Nat, ¬ lt2 y y := fun y h => by
      unfold lt2 slt at h
      rw [if_pos rfl] at h
      exact List.lt_irrefl _ (of_decide_eq_true h)
    show wpAny _ X.A.in1 (tryCatch (holding [v, .ref q2] (richCompare .Lt (.ref q2) (.ref q) >>= _)) _ >>= _) _ _ _
    refine wpAny_bind (wpAny_tryCatch (wpAny_holding (wpAny_bind (rc_pair_lt r1 r2 p1 p2 hu X.prog X.w _ _ ?_))))
    refine wpAny_bind (wpAny_holding (wpAny_truthy_bool ?_))
    refine wpAny_bind (wpAny_letGo (wpAny_pure ?_))
    by_cases hb' : slt (x.length : Int) x (m.length : Int) m = true
    · have s1 := Heap.SameBut.update s2.heap S' (Obj.mapSeq fun _ => #[v, .ref q2])
      obtain ⟨c2, hc2⟩ : ∃ c2, (s2.heap.update S' (Obj.mapSeq fun _ => #[v, .ref q2])).get? S' = some (seqObj "list" #[v, .ref q2] c2) := ⟨_, get?_update_seq nS2.1 fun _ => #[v, .ref q2]⟩
      rw [hb']
      simp only [if_true]
      refine wpAny_bind ?_
      refine wpAny_updateSeq nS2.1 rfl (wpAny_bind (wpAny_letGo ?_))
      rw [hname]
      refine wpAny_pure ⟨plainId_quiet PySem.F.plain_min_loop _, ih (j + 1) (j + 1) _ _ x v q2 c2 oI' (by omega) hlt (inv_tmp (inv_swap J2) (t' := s2.toks) (tS.more (pins := [(I, oI')]) (fun p hp => by rw [List.mem_singleton.mp hp]; exact hIS)) (fun b u hb e => (s1.2 b hb).trans e) hc2 (fun v z => by cases z)) sm2 rx upd_same ⟨oI', (s1.2 I hIS).trans nI2.1, hoc, hod⟩ hx (Nat.le_refl _) fun j' y hj' hy => ?_⟩
      by_cases e : j' = j + 1
      · subst e
        rw [hx] at hy
        cases hy
        exact irr x
      · have h1 := hbest j' y (by omega) hy
        intro h2
        refine h1 ?_
        unfold lt2 slt at h2 h1 ⊢
        unfold slt at hb'
        split at h2 <;> split at hb' <;> (try rw [decide_eq_true_eq] at *)
        · rw [if_pos (by omega), decide_eq_true_eq]; exact List.lt_trans h2 hb'
        · rw [if_neg (by omega), decide_eq_true_eq]; omega
        · rw [if_neg (by omega), decide_eq_true_eq]; omega
        · rw [if_neg (by omega), decide_eq_true_eq]; omega
    · simp only [Bool.not_eq_true] at hb'
      rw [hb']
      simp only [Bool.false_eq_true, if_false]
      refine wpAny_bind (wpAny_letGo ?_)
      rw [hname]
      refine wpAny_pure ⟨plainId_quiet PySem.F.plain_min_loop _, ih (j + 1) i _ _ m vb q c oI' (by omega) hlt (inv_swap J2) sm2 rv hq2 hit2 hm (by omega) fun j' y hj' hy => ?_⟩
      by_cases e : j' = j + 1
      · subst e
        rw [hx] at hy
        cases hy
        unfold lt2
        rw [hb']
        decide
      · exact hbest j' y (by omega) hy
end
section
variable {X : Cx} {f : Addr} {fd : FuncData} {px : Str} {p : P1} {k : Nat}
/-- what is asked of the list -/
def rMinV (K : PySem.W.Frag) (p : P1) : V → Hp → VK → Prop := fun v H Q => ∃ (a : Addr) (xs : List (List Nat)), v = .ref a ∧ SqL K H a (xs.map S) ∧ xs ≠ [] ∧ KeyOk p H xs ∧ ∀ m H', m ∈ xs → (∀ y ∈ xs, ¬ lt2 y m) → Same H H' → Q (S m) H'
theorem min_run (F : FnOk X.prog X.w X.K X.mg X.base CX0 k f fd [px] (sp1 p)) (hb : Binds X.K fd [px] []) (hr : Room (k + 1) X.A) {pins : List (Addr × Obj)} {σ : L2.St} {H : Hp} {s : Shared} {Q : VK} {v : V} {u : Value} (I : Inv X pins σ H s) (ru : RelV v u) (h : rMinV X.K p v H Q) :
    wpAny (model X.prog X.w) X.A (call (.builtin "min") [u] [(Str.ofString "key", .ref f)]) (EP X pins σ Q) X.xe s := by
  obtain ⟨a, xs, rfl, hs, hne, hk, q⟩ := h
  obtain rfl : u = Value.ref a := ru
  have hname : (toString "min" ++ toString ".loop" : String) = "min.loop" := by decide
  obtain ⟨its, rvs, pl, hz⟩ := I.list hs
  have hlen : its.length = xs.length := by have := rvs.length; rw [List.length_map] at this; exact this.symm
  have hpos : 0 < xs.length := List.length_pos_iff.mpr hne
  have hL := pl.isList
  obtain ⟨ol, hol, _⟩ := id hL
  have hll : a < s.heap.objs.size := Heap.lt_size hol
  refine kmk_tree PySem.F.kind_min PySem.F.plain_min PySem.F.entry_min (kmk_min_key _ _) ?_
  show wpAny _ X.A.in1 (Builtin.Builtins.bindParams "min" ["key", "default"] 0 ⟨[], [(Str.ofString "key", .ref f)]⟩ >>= _) _ _ s
  refine wpAny_bind (wpAny_of_eq (show Builtin.Builtins.bindParams "min" ["key", "default"] 0 ⟨[], [(Str.ofString "key", .ref f)]⟩ = pure [some (.ref f), none] from rfl) ?_)
  refine wpAny_bind (wpAny_pure ?_)
  refine wpAny_bind (wpAny_pyIter_list hL ?_)
  refine wpAny_bind (wpAny_newList ?_ (Nat.zero_le _))
  rw [hname]
  have e1 : (s.heap.push { cls := .type "list_iterator", data := .fields #[.ref a, .int 0 0] }).objs.size = s.heap.objs.size + 1 := Heap.size_push ..
  -- the two temporaries
  have tI : Tmp X pins s.heap.objs.size := Tmp.new I (Nat.le_refl _)
  have tS : Tmp X pins (s.heap.push { cls := .type "list_iterator", data := .fields #[.ref a, .int 0 0] }).objs.size := Tmp.new I (by rw [e1]; exact Nat.le_succ _)
  have hIS : s.heap.objs.size ≠ (s.heap.push { cls := .type "list_iterator", data := .fields #[.ref a, .int 0 0] }).objs.size := by rw [e1]; exact Nat.ne_of_lt (Nat.lt_succ_self _)
  have gI : ((s.heap.push { cls := .type "list_iterator", data := .fields #[.ref a, .int 0 0] }).push (seqObj "list" #[] 0)).get? s.heap.objs.size = some { cls := .type "list_iterator", data := .fields #[.ref a, .int 0 0] } :=
    Heap.get?_push_of_some _ (Heap.get?_push_size _ rfl)
  have gS : ((s.heap.push { cls := .type "list_iterator", data := .fields #[.ref a, .int 0 0] }).push (seqObj "list" #[] 0)).get? (s.heap.push { cls := .type "list_iterator", data := .fields #[.ref a, .int 0 0] }).objs.size = some (seqObj "list" #[] 0) := Heap.get?_push_size _ rfl
  have kp : ∀ b u, s.heap.get? b = some u → ((s.heap.push { cls := .type "list_iterator", data := .fields #[.ref a, .int 0 0] }).push (seqObj "list" #[] 0)).get? b = some u := fun b u e => Heap.get?_push_of_some _ (Heap.get?_push_of_some _ e)
  have J0 : Inv X pins σ H { s with heap := (s.heap.push { cls := .type "list_iterator", data := .fields #[.ref a, .int 0 0] }).push (seqObj "list" #[] 0) } := I.kept (t' := s.toks) kp
  generalize hSd : (s.heap.push { cls := .type "list_iterator", data := .fields #[.ref a, .int 0 0] }).objs.size = S' at *
  generalize hId : s.heap.objs.size = It at *
  have J : Inv X ((S', seqObj "list" #[] 0) :: (It, { cls := .type "list_iterator", data := .fields #[.ref a, .int 0 0] }) :: pins) σ H { s with heap := (s.heap.push { cls := .type "list_iterator", data := .fields #[.ref a, .int 0 0] }).push (seqObj "list" #[] 0) } := by
    refine J0.pins_of fun p hp => ?_
    rcases List.mem_cons.mp hp with rfl | hp
    · exact ⟨gS, I.hok.fresh (by rw [hId, e1]; exact Nat.le_succ _), tS.loc, tS.fs, fun v z => by cases z⟩
    · rcases List.mem_cons.mp hp with rfl | hp
      · exact ⟨gI, I.hok.fresh (by rw [hId]; exact Nat.le_refl _), tI.loc, tI.fs, fun v z => by cases z⟩
      · exact J0.pin p (List.mem_append_right _ hp)
  have hIa : It ≠ a := Nat.ne_of_gt hll
  refine wpAny_pure ⟨plainId_quiet PySem.F.plain_min_loop _, ?_⟩
  obtain ⟨its2, rvs2, pl2, hz2⟩ := J.list hs
  have hlen2 : its2.length = xs.length := by have := rvs2.length; rw [List.length_map] at this; exact this.symm
  have W := Walks.list (prog := X.prog) (w := X.w) (A := X.A.in1) hr.hd It a (Ne.symm hIa) its2.toArray
  have hsz : its2.toArray.size = xs.length := by rw [List.size_toArray]; exact hlen2
  refine codeAny_builtin PySem.F.entry_min_loop ?_
  rw [Around.under_plainId PySem.F.plain_min_loop _]
  show wpAny _ X.A.in1 (seqItems? (.ref S') >>= _) _ _ _
  refine wpAny_bind (wpAny_seqItems gS rfl ?_)
  show wpAny _ X.A.in1 (tryCatch (pyNext (.ref It)) _ >>= _) _ _ _
  refine wpAny_bind (wpAny_tryCatch (W.item 0 _ _ _ (by rw [hsz]; exact hpos) ⟨⟨_, gI, rfl, rfl⟩, pl2.isList⟩ fun v h' tk' hP hst' hk' => ?_))
  have hv : its2[0]? = some v := by simpa using hP
  obtain ⟨oI', hoI', hoc, hod⟩ := id hst'.1
  obtain ⟨x, hx⟩ : ∃ x, xs[0]? = some x := ⟨_, List.getElem?_eq_getElem hpos⟩
  have rx : RelV (S x) v := by
    obtain ⟨u, hu, ru⟩ := rvs2.get (i := 0) (x := S x) (by rw [List.getElem?_map, hx]; rfl)
    rw [hv] at hu
    cases hu
    exact ru
  have J1 := inv_tmp (t' := tk') (h' := h') (o' := oI') (inv_swap J) (tI.more (pins := [(S', seqObj "list" #[] 0)]) (fun p hp => by rw [List.mem_singleton.mp hp]; exact Ne.symm hIS)) (fun b u hb e => hk' b u (fun z => hb (by simpa using z)) e) hoI' (fun v z => by rw [hod] at z; cases z)
  show wpAny _ X.A.in1 (tryCatch (holding [v] (call (.ref f) [v])) _ >>= _) _ _ _
  have turn : wpAny (model X.prog X.w) X.A.in1 (call (.ref f) [v]) (EP X ((It, oI') :: (S', seqObj "list" #[] 0) :: pins) σ (fun y H2 => ∃ q2, H q2 = none ∧ y = .ref q2 ∧ H2 = upd H q2 (.tup [.int (x.length : Int), S x]))) (fun _ _ => False) { s with heap := h', toks := tk' } := by
    refine wpAny_call (codeAny_mono (F.run X.A.in1 X.stack _ H ⟨[v], []⟩ [v] [S x] _ E0 hr.in1 J1.env0.in1 (hb _ [v] J1.kIn rfl) (.cons rx .nil) ⟨S x, rfl, hk H x (Same.refl H) (List.mem_of_getElem? hx) (fun y H2 => ∃ q2, H q2 = none ∧ y = .ref q2 ∧ H2 = upd H q2 (.tup [.int (x.length : Int), S x])) fun q2 n2 => ⟨q2, n2, rfl, rfl⟩⟩) fun r' s' hq' => ?_)
    cases r' with
    | error e => exact False.elim hq'
    | ok fl =>
      cases fl with
      | ret u => exact J1.after hq'
      | next => exact False.elim hq'
      | brk => exact False.elim hq'
      | cont => exact False.elim hq'
  refine wpAny_bind (wpAny_tryCatch (wpAny_holding (wpAny_mono turn (fun u s2 he => ?_) fun _ _ hF => hF.elim)))
  obtain ⟨y, H2, J2, ry, q2, n2, rfl, rfl⟩ := he
  obtain rfl : u = Value.ref q2 := ry
  have nS2 := J2.pin (S', seqObj "list" #[] 0) (List.mem_append_right _ (List.mem_cons_of_mem _ List.mem_cons_self))
  have nI2 := J2.pin (It, oI') (List.mem_append_right _ List.mem_cons_self)
  have s1 := Heap.SameBut.update s2.heap S' (Obj.mapSeq fun _ => #[v, .ref q2])
  obtain ⟨c2, hc2⟩ : ∃ c2, (s2.heap.update S' (Obj.mapSeq fun _ => #[v, .ref q2])).get? S' = some (seqObj "list" #[v, .ref q2] c2) := ⟨_, get?_update_seq nS2.1 fun _ => #[v, .ref q2]⟩
  show wpAny _ X.A.in1 (updateSeq S' (fun _ => #[v, .ref q2]) >>= _) _ _ _
  refine wpAny_bind ?_
  refine wpAny_updateSeq nS2.1 rfl ?_
  rw [hname]
  refine wpAny_pure ⟨plainId_quiet PySem.F.plain_min_loop _, mk_loop F hb hr hs hk tI tS hIS hIa (fun m v H' s' hm hb rv J' sm => ⟨S m, H', J', rv, q m H' hm hb sm⟩) _ 0 0 _ _ x v q2 c2 oI' rfl hpos (inv_tmp (inv_swap J2) (t' := s2.toks) (tS.more (pins := [(It, oI')]) (fun p hp => by rw [List.mem_singleton.mp hp]; exact hIS)) (fun b u hb e => (s1.2 b hb).trans e) hc2 (fun v z => by cases z)) (same_upd n2) rx upd_same ⟨oI', (s1.2 _ hIS).trans nI2.1, hoc, hod⟩ hx (Nat.le_refl _) fun j' y hj' hy => ?_⟩
  have e : j' = 0 := by omega
  subst e
  rw [hx] at hy
  cases hy
  intro h
  unfold lt2 slt at h
  rw [if_pos rfl] at h
  exact List.lt_irrefl _ (of_decide_eq_true h)
/-- min(e, key=x) -/
def tMinK (K : PySem.W.Frag) (p : P1) (te : TE) : TE := fun σ H Q => te σ H fun v H1 => rMinV K p v H1 Q
theorem pe_minK (K : PySem.W.Frag) {x : Str} {e : Expr} {te : TE} {pp px' kpos pos : PySem.Pos} (G : OK X.prog X.w X.K X.mg X.base CX0 k x [px] (sp1 p)) (hr : Room (k + 1) X.A) (hmin : X.mg "min" = none) (he : PE X e te) (hK : X.K = K := by rfl) (hg : Gl X "min" := by rfl) (hx : Gl X x := by rfl) (hd : (x == ("__debug__" : Str)) = false := by decide)
    (hse : starEach [e] X.env = (false, eval e X.env) :: starEach [] X.env := by rfl) (hes : backTo pos (starEach [e] X.env) = (false, eval e X.env) :: backTo pos (starEach [] X.env) := by rfl) (hpl : (backTo pos (starEach [e] X.env)).any (·.1) = false := by rfl)
    (hall : (backToKw pos (keywordEach [⟨some "key", .Name x px', kpos⟩] X.env)).all (·.1.isSome) = true := by rfl) (hnone : (backToKw pos (keywordEach [⟨some "key", .Name x px', kpos⟩] X.env)).any (·.1.isNone) = false := by rfl)
    (hks : (backToKw pos (keywordEach [⟨some "key", .Name x px', kpos⟩] X.env)).filterMap (·.1) = [Str.ofString "key"] := by rfl) :
    PE X (.Call (.Name "min" pp) [e] [⟨some "key", .Name x px', kpos⟩] pos) (tMinK K p te) := by
  subst hK
  obtain ⟨f, fd, F, hm, hk, hb⟩ := G
  refine ⟨fun pins s σ H Q I h => ?_⟩
  refine wpAny_Call_Name_kw (ld_blt I hg hmin boot_min ?_)
  have kf : PK X [⟨some "key", .Name x px', kpos⟩] (tCons (tC (.ref f)) tNil) := pk_cons (pe_glob hx hm rfl hd) pk_nil
  refine PyProof.Rows.callWith_kw (thn ((pa_cons (hs := hse) he pa_nil).run pos pins s σ H (fun vs H1 => match vs with | [v] => rMinV X.K p v H1 Q | _ => False) I h) fun us s1 ⟨vs, H1, I1, r1, q1⟩ => thn (kf.run pos pins s1 σ H1 (fun zs H2 => zs = [.ref f] ∧ H2 = H1) I1 ⟨rfl, rfl⟩) fun ws s2 ⟨zs, H2, I2, r2, ez, eh⟩ => ?_) hes hpl hall hnone
  subst ez eh
  rw [hks]
  match vs, q1, r1 with
  | [v], q1, r1 =>
    cases r1 with
    | cons ru rn =>
      cases rn
      cases r2 with
      | cons rf rn2 =>
        cases rn2
        cases rf
        exact min_run F hb hr I2 ru q1
end
theorem i_minK {K : PySem.W.Frag} {p : P1} {σ : L2.St} {H : Hp} {Q : VK} {te : TE} (q : te σ H fun v H1 => rMinV K p v H1 Q) : tMinK K p te σ H Q := q
end Fg
namespace Fg
open PySem PySem.Spec PyProof.Rows L2
theorem lt2_iff {a b : List Nat} : lt2 a b ↔ a.length < b.length ∨ (a.length = b.length ∧ a < b) := by
  unfold lt2 slt
  by_cases h : a.length = b.length
  · rw [if_pos (by omega), decide_eq_true_eq]
    constructor
    · exact fun x => .inr ⟨h, x⟩
    · rintro (x | x)
      · omega
      · exact x.2
  · rw [if_neg (by omega), decide_eq_true_eq]
    constructor
    · exact fun x => .inl (by omega)
    · rintro (x | x)
      · omega
      · exact absurd x.1 h
theorem lt2_irrefl (a : List Nat) : ¬ lt2 a a := fun h => by
  rcases lt2_iff.mp h with h | h
  · exact Nat.lt_irrefl _ h
  · exact List.lt_irrefl _ h.2
theorem lt2_trans {a b c : List Nat} (h : lt2 a b) (h' : lt2 b c) : lt2 a c := by
  rw [lt2_iff] at *
  rcases h with h | h <;> rcases h' with h' | h'
  · exact .inl (by omega)
  · exact .inl (by omega)
  · exact .inl (by omega)
  · exact .inr ⟨by omega, List.lt_trans h.2 h'.2⟩
theorem lt2_tri {a b : List Nat} (h : ¬ lt2 a b) (h' : ¬ lt2 b a) : a = b := by
  rw [lt2_iff] at *
  have e : a.length = b.length := by omega
  exact List.le_antisymm (fun z => h' (.inr ⟨e.symm, z⟩)) (fun z => h (.inr ⟨e, z⟩))
/-- not ahead, then not ahead -/
theorem le2_trans {a b c : List Nat} (h : ¬ lt2 b a) (h' : ¬ lt2 c b) : ¬ lt2 c a := fun z => by
  by_cases e : lt2 a b
  · exact h' (lt2_trans z e)
  · have := lt2_tri e h
    subst this
    exact h' z
theorem lt_app_left {a b : List Nat} : ∀ c : List Nat, c ++ a < c ++ b ↔ a < b
  | [] => Iff.rfl
  | x :: c => by
    rw [List.cons_append, List.cons_append, List.cons_lt_cons_iff]
    simp [lt_app_left c]
theorem lt2_left {a b c : List Nat} : lt2 (c ++ a) (c ++ b) ↔ lt2 a b := by
  rw [lt2_iff, lt2_iff, lt_app_left, List.length_append, List.length_append]
  constructor
  · rintro (h | ⟨h, h'⟩)
    · exact .inl (by omega)
    · exact .inr ⟨by omega, h'⟩
  · rintro (h | ⟨h, h'⟩)
    · exact .inl (by omega)
    · exact .inr ⟨by omega, h'⟩
def IsL (A : List Nat → Prop) (m : List Nat) : Prop := A m ∧ ∀ y, A y → ¬ lt2 y m
theorem IsL.uniq {A : List Nat → Prop} {m n : List Nat} (h : IsL A m) (h' : IsL A n) : m = n := lt2_tri (h'.2 m h.1) (h.2 n h'.1)
open Classical in
noncomputable def least (A : List Nat → Prop) : Option (List Nat) := if h : ∃ m, IsL A m then some h.choose else none
theorem least_eq {A : List Nat → Prop} {m : List Nat} (h : IsL A m) : least A = some m := by
  unfold least
  have hx : ∃ m, IsL A m := ⟨m, h⟩
  rw [dif_pos hx, hx.choose_spec.uniq h]
theorem least_mem {A : List Nat → Prop} {m : List Nat} (h : least A = some m) : IsL A m := by
  unfold least at h
  split at h
  · rename_i hx
    have := hx.choose_spec
    rw [Option.some.inj h] at this
    exact this
  · cases h
theorem least_none {A : List Nat → Prop} (h : ∀ t, ¬ A t) : least A = none := by
  unfold least
  rw [dif_neg (fun ⟨m, hm⟩ => h m hm.1)]
theorem least_congr {A B : List Nat → Prop} (h : ∀ t, A t ↔ B t) : least A = least B := by
  have : A = B := funext fun t => propext (h t)
  rw [this]
theorem fin_min : ∀ {xs : List (List Nat)}, xs ≠ [] → ∃ m ∈ xs, ∀ y ∈ xs, ¬ lt2 y m
  | [], h => absurd rfl h
  | [x], _ => ⟨x, List.mem_cons_self, fun y hy => by rw [List.mem_singleton.mp hy]; exact lt2_irrefl x⟩
  | x :: z :: r, _ => by
    obtain ⟨m, hm, hb⟩ := fin_min (xs := z :: r) (by simp)
    by_cases h : lt2 x m
    · refine ⟨x, List.mem_cons_self, fun y hy => ?_⟩
      rcases List.mem_cons.mp hy with rfl | hy
      · exact lt2_irrefl y
      · exact fun z => hb y hy (lt2_trans z h)
    · refine ⟨m, List.mem_cons_of_mem _ hm, fun y hy => ?_⟩
      rcases List.mem_cons.mp hy with rfl | hy
      · exact h
      · exact hb y hy
inductive Comp (f : List Nat → Option (List Nat)) : List Nat → List Nat → Prop where
  | nil : Comp f [] []
  | cons {a b s t : List Nat} : a ≠ [] → f a = some s → Comp f b t → Comp f (a ++ b) (s ++ t)
section
variable {f g : List Nat → Option (List Nat)} {p t a b s : List Nat}
theorem Comp.congr (h : Comp f p t) (e : ∀ a, a ≠ [] → a.length ≤ p.length → f a = g a) : Comp g p t := by
  induction h with
  | nil => exact .nil
  | cons ha hs hb ih =>
    refine .cons ha (by rw [← e _ ha (by rw [List.length_append]; omega)]; exact hs) (ih fun a ha hl => e a ha (by rw [List.length_append]; omega))
theorem Comp.snoc (h : Comp f b t) (ha : a ≠ []) (hs : f a = some s) : Comp f (b ++ a) (t ++ s) := by
  induction h with
  | nil =>
    have := Comp.cons ha hs .nil
    rw [List.append_nil, List.append_nil] at this
    exact this
  | cons ha' hs' hb ih =>
    rw [List.append_assoc, List.append_assoc]
    exact .cons ha' hs' ih
theorem Comp.first (h : Comp f p t) (hp : p ≠ []) : ∃ a b s t', p = a ++ b ∧ a ≠ [] ∧ f a = some s ∧ Comp f b t' ∧ t = s ++ t' := by
  cases h with
  | nil => exact absurd rfl hp
  | cons ha hs hb => exact ⟨_, _, _, _, rfl, ha, hs, hb, rfl⟩
theorem Comp.empty (h : Comp f p t) (hp : p = []) : t = [] := by
  induction h with
  | nil => rfl
  | cons ha _ _ _ => exact absurd (List.append_eq_nil_iff.mp hp).1 ha
theorem Comp.last (h : Comp f p t) (hp : p ≠ []) : ∃ b a t' s, p = b ++ a ∧ a ≠ [] ∧ f a = some s ∧ Comp f b t' ∧ t = t' ++ s := by
  induction h with
  | nil => exact absurd rfl hp
  | cons ha hs hb ih =>
    rename_i a b s t
    by_cases hb0 : b = []
    · have ht := hb.empty hb0
      subst ht
      subst hb0
      exact ⟨[], a, [], s, by simp, ha, hs, .nil, by simp⟩
    · obtain ⟨b', a', t', s', rfl, ha', hs', hb', rfl⟩ := ih hb0
      exact ⟨a ++ b', a', s ++ t', s', by simp, ha', hs', .cons ha hs hb', by simp⟩
end
def Cand (C : List Nat → List Nat) (p t : List Nat) : Prop := ∃ k u, u ≠ [] ∧ 2 ≤ k ∧ p = rpt k u ∧ ((u.length = 1 ∧ t = dec k ++ u) ∨ t = dec k ++ ([40] ++ (C u ++ [41])))
noncomputable def itS (C : List Nat → List Nat) (p : List Nat) : Option (List Nat) := if p.length = 1 then some p else least (Cand C p)
noncomputable def txS (f : List Nat → Option (List Nat)) (p : List Nat) : List Nat := (least (Comp f p)).getD []
def ClC (T : List Nat → List Nat) (p t : List Nat) : Prop := t = T p ∨ ∃ a j, a ≠ [] ∧ 1 ≤ j ∧ p = a ++ List.replicate j 46 ∧ t = T a ++ (64 :: dec p.length)
noncomputable def clS (f : List Nat → Option (List Nat)) (p : List Nat) : List Nat := (least (ClC (txS f) p)).getD []
noncomputable def cl : Nat → List Nat → List Nat
  | 0 => fun _ => []
  | n + 1 => fun p => if p.length ≤ n then cl n p else clS (itS (cl n)) p
noncomputable def fC (p : List Nat) : List Nat := cl p.length p
noncomputable def fI (p : List Nat) : Option (List Nat) := itS fC p
noncomputable def fT (p : List Nat) : List Nat := txS fI p
theorem cl_stable (p : List Nat) : ∀ n, p.length ≤ n → cl n p = fC p
  | 0, h => by
    unfold fC
    rw [show p.length = 0 by omega]
  | n + 1, h => by
    by_cases e : p.length ≤ n
    · rw [show cl (n + 1) p = cl n p from if_pos e]
      exact cl_stable p n e
    · unfold fC
      rw [show p.length = n + 1 by omega]
theorem itS_congr {C D : List Nat → List Nat} {p : List Nat} (h : ∀ u, u.length < p.length → C u = D u) : itS C p = itS D p := by
  unfold itS
  split
  · rfl
  · refine least_congr fun t => ?_
    have key : ∀ {C D : List Nat → List Nat}, (∀ u, u.length < p.length → C u = D u) → Cand C p t → Cand D p t := fun {C D} h ⟨k, u, hu, hk, hp, ht⟩ => by
      refine ⟨k, u, hu, hk, hp, ht.imp id fun ht => ?_⟩
      rw [ht, h u]
      rw [hp, rpt_len]
      have : 1 ≤ u.length := List.length_pos_iff.mpr hu
      have : 2 * u.length ≤ k * u.length := Nat.mul_le_mul_right _ hk
      omega
    exact ⟨key h, key fun u hu => (h u hu).symm⟩
theorem txS_congr {f g : List Nat → Option (List Nat)} {p : List Nat} (h : ∀ a, a ≠ [] → a.length ≤ p.length → f a = g a) : txS f p = txS g p := by
  unfold txS
  rw [least_congr (B := Comp g p) fun t => ⟨fun x => x.congr h, fun x => x.congr fun a h1 h2 => (h a h1 h2).symm⟩]
theorem fC_eq {p : List Nat} (hp : p ≠ []) : fC p = clS fI p := by
  obtain ⟨n, hn⟩ : ∃ n, p.length = n + 1 := ⟨p.length - 1, by have := List.length_pos_iff.mpr hp; omega⟩
  unfold fC
  rw [hn, show cl (n + 1) p = clS (itS (cl n)) p from if_neg (by omega)]
  have hi : ∀ a : List Nat, a ≠ [] → a.length ≤ p.length → itS (cl n) a = fI a := fun a _ ha => itS_congr fun u hu => cl_stable u n (by omega)
  unfold clS
  have key : ∀ t, ClC (txS (itS (cl n))) p t ↔ ClC (txS fI) p t := fun t => by
    unfold ClC
    rw [txS_congr hi]
    refine or_congr Iff.rfl ⟨?_, ?_⟩
    · rintro ⟨a, j, ha, hj, he, ht⟩
      refine ⟨a, j, ha, hj, he, ?_⟩
      rw [ht, txS_congr (p := a) fun b h1 h2 => hi b h1 (by rw [he, List.length_append]; omega)]
    · rintro ⟨a, j, ha, hj, he, ht⟩
      refine ⟨a, j, ha, hj, he, ?_⟩
      rw [ht, txS_congr (p := a) fun b h1 h2 => hi b h1 (by rw [he, List.length_append]; omega)]
  rw [least_congr key]
theorem fI_one {c : Nat} : fI [c] = some [c] := by
  unfold fI itS
  exact if_pos rfl
theorem fT_nil : fT [] = [] := by
  unfold fT txS
  have : IsL (Comp fI []) [] := ⟨.nil, fun y hy => by
    cases h : y with
    | nil => exact lt2_irrefl []
    | cons a r => rw [lt2_iff]; simp⟩
  rw [least_eq this]
  rfl
/-- a stretch has its least text -/
theorem fT_least : ∀ (n : Nat) (p : List Nat), p.length ≤ n → IsL (Comp fI p) (fT p)
  | n, [], _ => by
    rw [fT_nil]
    exact ⟨.nil, fun y hy => by
      cases h : y with
      | nil => exact lt2_irrefl []
      | cons a r => rw [lt2_iff]; simp⟩
  | 0, c :: r, h => by simp at h
  | n + 1, c :: r, h => by
    have ih := fT_least n
    have hl : r.length ≤ n := by simpa using h
    -- by the first one
    let xs : List (List Nat) := (List.range (r.length + 1)).filterMap fun i => (fI ((c :: r).take (i + 1))).map (· ++ fT ((c :: r).drop (i + 1)))
    have mem : ∀ a b s, c :: r = a ++ b → a ≠ [] → fI a = some s → s ++ fT b ∈ xs := fun a b s e ha hs => by
      have h1 : 1 ≤ a.length := List.length_pos_iff.mpr ha
      have h2 : a.length ≤ r.length + 1 := by
        have := congrArg List.length e
        rw [List.length_append, List.length_cons] at this
        omega
      refine List.mem_filterMap.mpr ⟨a.length - 1, List.mem_range.mpr (by omega), ?_⟩
      rw [show a.length - 1 + 1 = a.length by omega, e, List.take_left, List.drop_left, hs]
      rfl
    have hne : xs ≠ [] := fun z => by
      have := mem [c] r [c] rfl (by simp) fI_one
      rw [z] at this
      simp at this
    obtain ⟨m, hm, hb⟩ := fin_min hne
    have hL : IsL (Comp fI (c :: r)) m := by
      constructor
      · obtain ⟨i, hi, e⟩ := List.mem_filterMap.mp hm
        have hi := List.mem_range.mp hi
        cases hs : fI ((c :: r).take (i + 1)) with
        | none => rw [hs] at e; cases e
        | some s =>
          rw [hs] at e
          have e : s ++ fT ((c :: r).drop (i + 1)) = m := Option.some.inj e
          rw [← e]
          conv => rw [← List.take_append_drop (i + 1) (c :: r)]
          refine .cons (by simp) hs ?_
          have : ((c :: r).drop (i + 1)).length ≤ n := by rw [List.length_drop, List.length_cons]; omega
          rw [List.take_append_drop]
          exact (ih _ this).1
      · intro t ht
        obtain ⟨a, b, s, t', e, ha, hs, hbt, rfl⟩ := ht.first (by simp)
        have h1 : 1 ≤ a.length := List.length_pos_iff.mpr ha
        have hbl : b.length ≤ n := by
          have := congrArg List.length e
          rw [List.length_append, List.length_cons] at this
          omega
        refine le2_trans (b := s ++ fT b) (hb _ (mem a b s e ha hs)) ?_
        rw [lt2_left]
        exact (ih b hbl).2 t' hbt
    have : fT (c :: r) = m := by
      unfold fT txS
      rw [least_eq hL]
      rfl
    rw [this]
    exact hL
theorem fT_isL (p : List Nat) : IsL (Comp fI p) (fT p) := fT_least p.length p (Nat.le_refl _)
theorem fT_first {p m : List Nat} (hp : p ≠ []) (h1 : ∃ a b s, p = a ++ b ∧ a ≠ [] ∧ fI a = some s ∧ m = s ++ fT b) (h2 : ∀ a b s, p = a ++ b → a ≠ [] → fI a = some s → ¬ lt2 (s ++ fT b) m) : fT p = m := by
  refine (fT_isL p).uniq ⟨?_, fun t ht => ?_⟩
  · obtain ⟨a, b, s, rfl, ha, hs, rfl⟩ := h1
    exact .cons ha hs (fT_isL b).1
  · obtain ⟨a, b, s, t', e, ha, hs, hbt, rfl⟩ := ht.first hp
    refine le2_trans (h2 a b s e ha hs) ?_
    rw [lt2_left]
    exact (fT_isL b).2 t' hbt
theorem fC_isL {p m : List Nat} (hp : p ≠ []) (h : IsL (ClC fT p) m) : fC p = m := by
  rw [fC_eq hp]
  unfold clS
  rw [show ClC (txS fI) p = ClC fT p from rfl, least_eq h]
  rfl
theorem fI_isL {p m : List Nat} (hp : p.length ≠ 1) (h : IsL (Cand fC p) m) : fI p = some m := by
  unfold fI itS
  rw [if_neg hp, least_eq h]
theorem fI_none {p : List Nat} (hp : p.length ≠ 1) (h : ∀ t, ¬ Cand fC p t) : fI p = none := by
  unfold fI itS
  rw [if_neg hp, least_none h]
/-- the dark beats behind -/
theorem fC_exists {p : List Nat} (hp : p ≠ []) : IsL (ClC fT p) (fC p) := by
  -- finitely many
  let xs : List (List Nat) := fT p :: ((List.range p.length).filterMap fun i => if p.drop (i + 1) ≠ [] ∧ p.drop (i + 1) = List.replicate (p.length - (i + 1)) 46 then some (fT (p.take (i + 1)) ++ (64 :: dec p.length)) else none)
  have iff : ∀ t, ClC fT p t ↔ t ∈ xs := fun t => by
    constructor
    · rintro (rfl | ⟨a, j, ha, hj, e, rfl⟩)
      · exact List.mem_cons_self
      · refine List.mem_cons_of_mem _ (List.mem_filterMap.mpr ⟨a.length - 1, ?_, ?_⟩)
        · have h1 : 1 ≤ a.length := List.length_pos_iff.mpr ha
          have := congrArg List.length e
          rw [List.length_append, List.length_replicate] at this
          exact List.mem_range.mpr (by omega)
        · have h1 : 1 ≤ a.length := List.length_pos_iff.mpr ha
          have hl := congrArg List.length e
          rw [List.length_append, List.length_replicate] at hl
          have ed : p.drop (a.length - 1 + 1) = List.replicate j 46 := by rw [show a.length - 1 + 1 = a.length by omega, e, List.drop_left]
          have et : p.take (a.length - 1 + 1) = a := by rw [show a.length - 1 + 1 = a.length by omega, e, List.take_left]
          rw [if_pos ⟨by rw [ed]; intro z; have := congrArg List.length z; simp at this; omega, by rw [ed]; congr 1; omega⟩, et]
    · intro h
      rcases List.mem_cons.mp h with rfl | h
      · exact .inl rfl
      · obtain ⟨i, hi, e⟩ := List.mem_filterMap.mp h
        have hi := List.mem_range.mp hi
        split at e
        · rename_i hc
          refine .inr ⟨p.take (i + 1), p.length - (i + 1), ?_, ?_, ?_, (Option.some.inj e).symm⟩
          · intro z
            have h1 : (p.take (i + 1)).length = i + 1 := by rw [List.length_take]; omega
            rw [z] at h1
            cases h1
          · have := List.length_pos_iff.mpr hc.1
            rw [List.length_drop] at this
            omega
          · rw [← hc.2, List.take_append_drop]
        · cases e
  obtain ⟨m, hm, hb⟩ := fin_min (xs := xs) (by simp [xs])
  have : IsL (ClC fT p) m := ⟨(iff m).mpr hm, fun y hy => hb y ((iff y).mp hy)⟩
  rw [fC_isL hp this]
  exact this
end Fg
namespace Fg
open PySem PySem.Spec PyProof.Rows L2
theorem wN_dec {k : Nat} (h : 2 ≤ k) : wN k = dec k := by unfold wN; rw [if_pos (by omega)]
theorem no38_dec {k : Nat} (h : k ≤ 24) : (38 : Nat) ∉ dec k := fun z => by
  have := (dec_facts k h).1 38 z
  revert this; decide
theorem showN_one {n : Nat} {r : List Nat} (h : r.length = n) (hn : 1 ≤ n) : showN [(n, r)] n = r := by
  unfold showN
  refine List.ext_getElem? fun i => ?_
  rw [List.getElem?_map]
  by_cases hi : i < n
  · rw [List.getElem?_range hi, List.getElem?_eq_getElem (by omega)]
    show some (firstLit [(rpt (n / n) r).getD i 0]) = _
    rw [Nat.div_self (by omega)]
    have e : rpt 1 r = r := by show ([r] : List (List Nat)).flatten = r; simp
    rw [e, List.getD_eq_getElem?_getD, List.getElem?_eq_getElem (by omega)]
    show some (if r[i] = 46 then 46 else r[i]) = _
    split
    · rename_i h46; rw [h46]
    · rfl
  · rw [List.getElem?_eq_none (by simpa using hi), List.getElem?_eq_none (by omega)]
    rfl
theorem stPs_single {G : Type} {sg : G → Stv} {p : PtG G} {n : Nat} {r : List Nat} (h : stP sg p = (n, r)) (hl : r.length = n) (hn : 1 ≤ n) : stPs sg [p] = (n, r) := by
  show shown ([p].map (stP sg)) = _
  rw [List.map_cons, List.map_nil, h]
  have e : lcmL [(n, r)] = n := by show Nat.lcm 1 n = n; simp [Nat.lcm]
  unfold shown
  rw [e, showN_one hl hn]
/-- an item of a stretch, as a tree -/
def TrI (d : Nat) : Prop := ∀ p t, p.length < 2 ^ (d + 1) → p.length ≤ 24 → Row p → p ≠ [] → fI p = some t → ∃ i : ItG (Gr d), vI (vG d) i ∧ wI (wG d) i = t ∧ stI (stG d) i = (p.length, p) ∧ (38 : Nat) ∉ t
def TrP (d : Nat) : Prop := ∀ p, p.length < 2 ^ (d + 1) → p.length ≤ 24 → Row p → p ≠ [] → ∃ q : PtG (Gr d), vP (stG d) (vG d) q ∧ wP (wG d) q = fC p ∧ stP (stG d) q = (p.length, p) ∧ (38 : Nat) ∉ fC p
theorem tr_items {d : Nat} (h : TrI d) : ∀ {p t : List Nat}, Comp fI p t → p.length < 2 ^ (d + 1) → p.length ≤ 24 → Row p → ∃ is : List (ItG (Gr d)), (∀ i ∈ is, vI (vG d) i) ∧ wIs (wG d) is = t ∧ stIs (stG d) is = (p.length, p) ∧ (38 : Nat) ∉ t := by
  intro p t hc
  induction hc with
  | nil => exact fun _ _ _ => ⟨[], by simp, rfl, rfl, by simp⟩
  | cons ha hs hb ih =>
    rename_i a b s t
    intro h1 h2 h3
    rw [List.length_append] at h1 h2
    obtain ⟨i, i1, i2, i3, i4⟩ := h a s (by omega) (by omega) (fun c hc => h3 c (List.mem_append_left _ hc)) ha hs
    obtain ⟨is, j1, j2, j3, j4⟩ := ih (by omega) (by omega) (fun c hc => h3 c (List.mem_append_right _ hc))
    refine ⟨i :: is, fun x hx => ?_, ?_, ?_, ?_⟩
    · rcases List.mem_cons.mp hx with rfl | hx
      · exact i1
      · exact j1 x hx
    · show (wI (wG d) i :: is.map (wI (wG d))).flatten = _
      rw [List.flatten_cons, i2]
      unfold wIs at j2
      rw [j2]
    · rw [stIs_cons, i3, j3, List.length_append]
      rfl
    · intro hx
      rcases List.mem_append.mp hx with hx | hx
      · exact i4 hx
      · exact j4 hx
theorem tr_part {d : Nat} (h : TrI d) : TrP d := by
  intro p h1 h2 h3 hp
  have hl : 1 ≤ p.length := List.length_pos_iff.mpr hp
  obtain ⟨hc, _⟩ := fC_exists hp
  rcases hc with e | ⟨a, j, ha, hj, e, et⟩
  · obtain ⟨is, i1, i2, i3, i4⟩ := tr_items h (fT_isL p).1 h1 h2 h3
    refine ⟨(is, 0), ⟨?_, i1, .inl rfl⟩, ?_, ?_, by rw [e]; exact i4⟩
    · intro z
      have z : is = [] := z
      rw [z] at i3
      have := congrArg Prod.fst i3
      have this : 0 = p.length := this
      omega
    · show wIs (wG d) is ++ wF 0 = _
      rw [e, i2]
      show fT p ++ [] = _
      rw [List.append_nil]
    · show (if 0 < 0 then _ else stIs (stG d) is) = _
      rw [if_neg (by decide)]
      exact i3
  · have hla : a.length < p.length := by
      rw [e, List.length_append, List.length_replicate]; omega
    obtain ⟨is, i1, i2, i3, i4⟩ := tr_items h (fT_isL a).1 (by omega) (by omega) (fun c hc => h3 c (by rw [e]; exact List.mem_append_left _ hc))
    have ha1 : 1 ≤ a.length := List.length_pos_iff.mpr ha
    refine ⟨(is, p.length), ⟨?_, i1, .inr ⟨?_, h2⟩⟩, ?_, ?_, ?_⟩
    · intro z
      have z : is = [] := z
      rw [z] at i3
      have := congrArg Prod.fst i3
      have this : 0 = a.length := this
      omega
    · show (stIs (stG d) is).1 ≤ p.length
      rw [i3]; exact Nat.le_of_lt hla
    · show wIs (wG d) is ++ wF p.length = _
      rw [i2, et]
      unfold wF
      rw [if_pos (by omega)]
    · show (if 0 < p.length then fillTo (stIs (stG d) is) p.length else _) = _
      rw [if_pos (by omega), i3]
      show (p.length, a ++ List.replicate (p.length - a.length) 46) = _
      have : p.length - a.length = j := by rw [e, List.length_append, List.length_replicate]; omega
      rw [this, ← e]
    · rw [et]
      intro hx
      rcases List.mem_append.mp hx with hx | hx
      · exact i4 hx
      · rcases List.mem_cons.mp hx with hx | hx
        · cases hx
        · exact no38_dec h2 hx
theorem tr_step (d : Nat) (sub : ∀ d', d = d' + 1 → TrI d') : TrI d := by
    intro p t h1 h2 h3 hp hI
    have hl : 1 ≤ p.length := List.length_pos_iff.mpr hp
    by_cases e1 : p.length = 1
    · obtain ⟨c, rfl⟩ : ∃ c, p = [c] := List.length_eq_one_iff.mp e1
      rw [fI_one] at hI
      cases hI
      refine ⟨.inl (0, c), ⟨h3 c List.mem_cons_self, .inl rfl⟩, rfl, rfl, ?_⟩
      intro hx
      rw [List.mem_singleton] at hx
      have := h3 c List.mem_cons_self
      rw [← hx] at this
      revert this; decide
    · unfold fI itS at hI
      rw [if_neg e1] at hI
      obtain ⟨⟨k, u, hu, hk, hpu, ht⟩, _⟩ := least_mem hI
      have hul : 1 ≤ u.length := List.length_pos_iff.mpr hu
      have hlen : p.length = k * u.length := by rw [hpu, rpt_len]
      have hku : k ≤ k * u.length := Nat.le_mul_of_pos_right _ hul
      have h2u : 2 * u.length ≤ k * u.length := Nat.mul_le_mul_right _ hk
      have hk24 : k ≤ 24 := by omega
      rcases ht with ⟨hu1, ht⟩ | ht
      · obtain ⟨c, rfl⟩ : ∃ c, u = [c] := List.length_eq_one_iff.mp hu1
        have hcm : c ∈ p := by
          rw [hpu]
          obtain ⟨k', rfl⟩ : ∃ k', k = k' + 1 := ⟨k - 1, by omega⟩
          rw [rpt_succ]
          exact List.mem_append_left _ List.mem_cons_self
        have hc := h3 c hcm
        refine ⟨.inl (k, c), ⟨hc, .inr ⟨hk, hk24⟩⟩, ?_, ?_, ?_⟩
        · show wN k ++ [c] = t
          rw [wN_dec hk, ht]
        · show rep (1, [c]) (max 1 k) = _
          rw [show max 1 k = k by omega]
          show (1 * k, rpt k [c]) = _
          rw [← hpu, hlen, hu1, Nat.mul_one, Nat.one_mul]
        · rw [ht]
          intro hx
          rcases List.mem_append.mp hx with hx | hx
          · exact no38_dec hk24 hx
          · rw [List.mem_singleton] at hx
            rw [← hx] at hc
            revert hc; decide
      · cases d with
        | zero =>
          have h1 : p.length < 2 := h1
          omega
        | succ d =>
          have hrow : Row u := fun c hc => h3 c (by
            rw [hpu]
            obtain ⟨k', rfl⟩ : ∃ k', k = k' + 1 := ⟨k - 1, by omega⟩
            rw [rpt_succ]
            exact List.mem_append_left _ hc)
          have h1' : p.length < 2 * 2 ^ (d + 1) := by rw [← Nat.pow_succ']; exact h1
          obtain ⟨q, q1, q2, q3, q4⟩ := tr_part (sub d rfl) u (by omega) (by omega) hrow hu
          refine ⟨.inr (k, [q]), ⟨hk, hk24, ⟨by simp, fun x hx => by rw [List.mem_singleton.mp hx]; exact q1⟩⟩, ?_, ?_, ?_⟩
          · show wN k ++ ([40] ++ (wPs (wG d) [q] ++ [41])) = t
            rw [wN_dec hk, ht]
            show dec k ++ ([40] ++ (wP (wG d) q ++ [41])) = _
            rw [q2]
          · show rep (stPs (stG d) [q]) (max 1 k) = _
            rw [stPs_single q3 rfl hul, show max 1 k = k by omega]
            show (u.length * k, rpt k u) = _
            rw [← hpu, hlen, Nat.mul_comm]
          · rw [ht]
            intro hx
            rcases List.mem_append.mp hx with hx | hx
            · exact no38_dec hk24 hx
            · rcases List.mem_append.mp hx with hx | hx
              · rw [List.mem_singleton] at hx; cases hx
              · rcases List.mem_append.mp hx with hx | hx
                · exact q4 hx
                · rw [List.mem_singleton] at hx; cases hx
theorem tr_item : ∀ d, TrI d
  | 0 => tr_step 0 fun d' e => nomatch e
  | d + 1 => tr_step (d + 1) fun d' e => by
    cases e
    exact tr_item d
/-- the folded text is read back as its round, and has no & -/
theorem fold_back {p : List Nat} (h : p.length ≤ 24) (hr : Row p) (hp : p ≠ []) : told (fC p) = .done (p.length, p) ∧ (38 : Nat) ∉ fC p := by
  obtain ⟨q, q1, q2, q3, q4⟩ := tr_part (tr_item 4) p (by show p.length < 32; omega) h hr hp
  have := told_ok 4 (by decide) [q] ⟨by simp, fun x hx => by rw [List.mem_singleton.mp hx]; exact q1⟩
  rw [show wG 5 [q] = wP (wG 4) q from rfl, q2, show stG 5 [q] = stPs (stG 4) [q] from rfl, stPs_single q3 rfl (List.length_pos_iff.mpr hp)] at this
  exact ⟨this, q4⟩
/-- .. and is not long -/
theorem tx_len : ∀ (n : Nat) (p : List Nat), p.length ≤ n → (fT p).length ≤ p.length
  | n, [], _ => by rw [fT_nil]; exact Nat.le_refl _
  | 0, c :: r, h => by simp at h
  | n + 1, c :: r, h => by
    have hr := tx_len n r (by simpa using h)
    have h1 := (fT_isL (c :: r)).2 ([c] ++ fT r) (.cons (a := [c]) (by simp) fI_one (fT_isL r).1)
    rw [lt2_iff] at h1
    rw [List.length_append, List.length_singleton] at h1
    rw [List.length_cons]
    omega
theorem fT_len (p : List Nat) : (fT p).length ≤ p.length := tx_len p.length p (Nat.le_refl _)
theorem fC_len {p : List Nat} (hp : p ≠ []) : (fC p).length ≤ p.length := by
  have h1 := (fC_exists hp).2 (fT p) (.inl rfl)
  rw [lt2_iff] at h1
  have := fT_len p
  omega
theorem fI_len {p t : List Nat} (hp : p ≠ []) (h24 : p.length ≤ 24) (h : fI p = some t) : t.length ≤ 30 := by
  by_cases e1 : p.length = 1
  · unfold fI itS at h
    rw [if_pos e1] at h
    cases h; omega
  · unfold fI itS at h
    rw [if_neg e1] at h
    obtain ⟨⟨k, u, hu, hk, hpu, ht⟩, _⟩ := least_mem h
    have hlen : p.length = k * u.length := by rw [hpu, rpt_len]
    have hul : 1 ≤ u.length := List.length_pos_iff.mpr hu
    have h2u : 2 * u.length ≤ k * u.length := Nat.mul_le_mul_right _ hk
    have hd : (dec k).length ≤ 2 := by unfold dec; split <;> simp
    rcases ht with ⟨hu1, ht⟩ | ht
    · rw [ht, List.length_append]; omega
    · have := fC_len hu
      rw [ht]
      simp only [List.length_append, List.length_singleton]
      omega
theorem Row.take {l : List Nat} (h : Row l) (n : Nat) : Row (l.take n) := fun c hc => h c (List.mem_of_mem_take hc)
theorem Row.drop {l : List Nat} (h : Row l) (n : Nat) : Row (l.drop n) := fun c hc => h c (List.mem_of_mem_drop hc)
theorem Row.app {l m : List Nat} (h : Row l) (h2 : Row m) : Row (l ++ m) := fun c hc => (List.mem_append.mp hc).elim (h c) (h2 c)
theorem Row.one {c : Nat} (h : c ∈ SG) : Row [c] := fun x hx => by rw [List.mem_singleton.mp hx]; exact h
theorem Row.rep {l : List Nat} (h : Row l) (n : Nat) : Row (List.replicate n l).flatten := fun c hc => by
  obtain ⟨m, hm, hc⟩ := List.mem_flatten.mp hc
  rw [(List.mem_replicate.mp hm).2] at hc
  exact h c hc
def bet (o : Option (List Nat)) (t : List Nat) : List Nat := match o with
  | none => t
  | some s => if slt (t.length : Int) t (s.length : Int) s = true then t else s
def Lo (A : List Nat → Prop) : Option (List Nat) → Prop
  | none => ∀ t, ¬ A t
  | some m => IsL A m
theorem Lo.more {A B : List Nat → Prop} {o : Option (List Nat)} {t : List Nat} (h : Lo A o) (e : ∀ x, B x ↔ (A x ∨ x = t)) : Lo B (some (bet o t)) := by
  cases o with
  | none => exact ⟨(e t).mpr (.inr rfl), fun y hy => by
      rcases (e y).mp hy with hy | rfl
      · exact absurd hy (h y)
      · exact lt2_irrefl y⟩
  | some s =>
    obtain ⟨h1, h2⟩ := h
    show IsL B (if slt (t.length : Int) t (s.length : Int) s = true then t else s)
    by_cases hc : lt2 t s
    · rw [if_pos (show slt (t.length : Int) t (s.length : Int) s = true from hc)]
      refine ⟨(e t).mpr (.inr rfl), fun y hy => ?_⟩
      rcases (e y).mp hy with hy | rfl
      · exact fun z => h2 y hy (lt2_trans z hc)
      · exact lt2_irrefl y
    · rw [if_neg (show ¬ slt (t.length : Int) t (s.length : Int) s = true from hc)]
      refine ⟨(e s).mpr (.inl h1), fun y hy => ?_⟩
      rcases (e y).mp hy with hy | rfl
      · exact h2 y hy
      · exact hc
theorem Lo.same {A B : List Nat → Prop} {o : Option (List Nat)} (h : Lo A o) (e : ∀ x, B x ↔ A x) : Lo B o := by
  cases o with
  | none => exact fun t ht => h t ((e t).mp ht)
  | some s => exact ⟨(e s).mpr h.1, fun y hy => h.2 y ((e y).mp hy)⟩
end Fg
namespace Fg
open PySem PySem.Spec PyProof.Rows L2
def wrds (x : Str) : List (List Nat) := (Txt.split x ⟨#[32]⟩).map fun y => y.cps.toList
theorem words_V (x : Str) : (Txt.split x ⟨#[32]⟩).map V.str = (wrds x).map S := by
  unfold wrds
  rw [List.map_map]
  exact List.map_congr_left fun y _ => rfl
theorem words_pos (x : Str) : 1 ≤ (wrds x).length := by
  unfold wrds
  rw [List.length_map]
  unfold Txt.split
  split
  · exact Nat.le_refl _
  · split
    · exact Nat.le_refl _
    · rw [len_partsBetween]; omega
theorem words_many (x : Str) : (wrds x).length ≤ x.length + 2 := by
  unfold wrds
  rw [List.length_map]
  exact split_le x _
theorem words_len {x : Str} {w : List Nat} (h : w ∈ wrds x) : w.length ≤ x.length := by
  unfold wrds at h
  obtain ⟨y, hy, rfl⟩ := List.mem_map.mp h
  have hyl : y.length ≤ x.length := by
    unfold Txt.split at hy
    split at hy
    · rw [List.mem_singleton.mp hy]; exact Nat.le_refl _
    · split at hy
      · rw [List.mem_singleton.mp hy]; exact Nat.le_refl _
      · unfold Builtin.Str.partsBetween at hy
        obtain ⟨p, hp, rfl⟩ := List.mem_map.mp hy
        exact le_strSub x _ _
  simpa [Str.length] using hyl
theorem joinL_eq (sep : List Nat) : ∀ ls : List (List Nat), ls ≠ [] → (TL.joinL sep ls).length + sep.length = (ls.map List.length).sum + ls.length * sep.length
  | [], h => absurd rfl h
  | [p], _ => by
    show p.length + sep.length = _
    simp
  | p :: q :: r, _ => by
    have ih := joinL_eq sep (q :: r) (by simp)
    show (p ++ (sep ++ TL.joinL sep (q :: r))).length + sep.length = _
    rw [List.length_append, List.length_append, List.map_cons, List.sum_cons, List.length_cons (a := p), Nat.add_mul, Nat.one_mul]
    omega
section
variable {F : Type} (fm : F → List Nat → Option PyData)
/-- the words from place k on, by their forms: the data behind those there are, or the first place that cannot stand -/
def rdk (ws : List (List Nat)) : Nat → List PyData → List F → List PyData ⊕ Nat
  | k, dn, [] => if k < ws.length then .inr k else .inl dn
  | k, dn, f :: fs => if k < ws.length then (match fm f (ws.getD k []) with
      | some d => rdk ws (k + 1) (dn ++ [d]) fs
      | none => .inr k) else .inr ws.length
def readLn (forms : List Nat → Option (List F)) : PyData → List PyData ⊕ Nat
  | .str z => (match forms ((wrds z).getD 0 []) with
      | none => .inr 0
      | some fs => rdk fm (wrds z) 1 [dS ((wrds z).getD 0 [])] fs)
  | _ => .inr 0
def rdW (forms : List Nat → Option (List F)) (ws : List (List Nat)) : List PyData ⊕ Nat := match forms (ws.getD 0 []) with
  | none => .inr 0
  | some fs => rdk fm ws 1 [dS (ws.getD 0 [])] fs
theorem readLn_W (forms : List Nat → Option (List F)) (z : Str) : readLn fm forms (.str z) = rdW fm forms (wrds z) := rfl
theorem rdW_none {forms : List Nat → Option (List F)} {ws : List (List Nat)} (h : forms (ws.getD 0 []) = none) : rdW fm forms ws = .inr 0 := by
  unfold rdW; rw [h]
theorem rdW_some {forms : List Nat → Option (List F)} {ws : List (List Nat)} {fs : List F} (h : forms (ws.getD 0 []) = some fs) : rdW fm forms ws = rdk fm ws 1 [dS (ws.getD 0 [])] fs := by
  unfold rdW; rw [h]
theorem readLn_str (forms : List Nat → Option (List F)) (z : Str) : readLn fm forms (.str z) = (match forms ((wrds z).getD 0 []) with
      | none => .inr 0
      | some fs => rdk fm (wrds z) 1 [dS ((wrds z).getD 0 [])] fs) := rfl
variable {fm} {ws : List (List Nat)} {k : Nat} {dn : List PyData} {f : F} {fs : List F}
theorem rdk_end : rdk fm ws k dn [] = if k < ws.length then .inr k else .inl dn := rfl
theorem rdk_short (h : ¬ k < ws.length) : rdk fm ws k dn (f :: fs) = .inr ws.length := by
  unfold rdk; rw [if_neg h]
theorem rdk_bad (h : k < ws.length) (e : fm f (ws.getD k []) = none) : rdk fm ws k dn (f :: fs) = .inr k := by
  unfold rdk; rw [if_pos h, e]
theorem rdk_ok {d : PyData} (h : k < ws.length) (e : fm f (ws.getD k []) = some d) : rdk fm ws k dn (f :: fs) = rdk fm ws (k + 1) (dn ++ [d]) fs := by
  rw [show rdk fm ws k dn (f :: fs) = if k < ws.length then (match fm f (ws.getD k []) with
      | some d => rdk fm ws (k + 1) (dn ++ [d]) fs
      | none => .inr k) else .inr ws.length from rfl, if_pos h, e]
/-- what is read has the length of the forms, each thing by its form -/
theorem rdk_all {es : List PyData} {P : PyData → Prop} (hp : ∀ f w d, fm f w = some d → P d) : ∀ {fs : List F} {k : Nat} {dn : List PyData}, rdk fm ws k dn fs = .inl es → (∀ d ∈ dn, P d) → (∀ d ∈ es, P d) ∧ es.length = dn.length + fs.length ∧ ws.length ≤ k + fs.length
  | [], k, dn, h, hd => by
    rw [rdk_end] at h
    split at h
    · cases h
    · cases h
      exact ⟨hd, rfl, by rw [List.length_nil]; omega⟩
  | f :: fs, k, dn, h, hd => by
    by_cases hk : k < ws.length
    · cases e : fm f (ws.getD k []) with
      | none => rw [rdk_bad hk e] at h; cases h
      | some d =>
        rw [rdk_ok hk e] at h
        obtain ⟨a, b, c⟩ := rdk_all hp h fun x hx => by
          rcases List.mem_append.mp hx with hx | hx
          · exact hd x hx
          · rw [List.mem_singleton.mp hx]; exact hp f _ d e
        exact ⟨a, by rw [b]; simp only [List.length_append, List.length_cons, List.length_nil]; omega, by rw [List.length_cons]; omega⟩
    · rw [rdk_short hk] at h; cases h
end
section
variable {F : Type} {fm : F → List Nat → Option PyData} {ws : List (List Nat)}
inductive Frm (fm : F → List Nat → Option PyData) : List F → List PyData → Prop
  | nil : Frm fm [] []
  | cons {f : F} {fs : List F} {d : PyData} {ds : List PyData} (w : List Nat) (e : fm f w = some d) (h : Frm fm fs ds) : Frm fm (f :: fs) (d :: ds)
end
def readAll (readLn : PyData → List PyData ⊕ Nat) : List PyData → Nat → List PyData ⊕ (Nat × Nat)
  | [], _ => .inl []
  | d :: r, n => match readLn d with
    | .inr e => .inr (n, e)
    | .inl es => match readAll readLn r (n + 1) with
      | .inl ws => .inl (.tuple es :: ws)
      | .inr p => .inr p
def comb (ws : List PyData) : List PyData ⊕ (Nat × Nat) → List PyData ⊕ (Nat × Nat)
  | .inl r => .inl (ws ++ r)
  | .inr p => .inr p
theorem readAll_turn {readLn : PyData → List PyData ⊕ Nat} {ds ws es : List PyData} {n : Nat} {d : PyData} (h : readAll readLn ds 0 = comb ws (readAll readLn (ds.drop n) n)) (hd : ds[n]? = some d) (e : readLn d = .inl es) : readAll readLn ds 0 = comb (ws ++ [.tuple es]) (readAll readLn (ds.drop (n + 1)) (n + 1)) := by
  obtain ⟨hn, e1⟩ := List.getElem?_eq_some_iff.mp hd
  rw [h, List.drop_eq_getElem_cons hn, e1]
  show comb ws (match readLn d with | .inr e => .inr (n, e) | .inl es => match readAll readLn (ds.drop (n + 1)) (n + 1) with | .inl ws => .inl (.tuple es :: ws) | .inr p => .inr p) = _
  rw [e]
  show comb ws (match readAll readLn (ds.drop (n + 1)) (n + 1) with | .inl ws => .inl (.tuple es :: ws) | .inr p => .inr p) = _
  cases readAll readLn (ds.drop (n + 1)) (n + 1) with
  | inl r => show Sum.inl _ = Sum.inl _; rw [List.append_assoc]; rfl
  | inr p => rfl
theorem readAll_bad {readLn : PyData → List PyData ⊕ Nat} {ds ws : List PyData} {n e : Nat} {d : PyData} (h : readAll readLn ds 0 = comb ws (readAll readLn (ds.drop n) n)) (hd : ds[n]? = some d) (e1 : readLn d = .inr e) : readAll readLn ds 0 = .inr (n, e) := by
  obtain ⟨hn, e2⟩ := List.getElem?_eq_some_iff.mp hd
  rw [h, List.drop_eq_getElem_cons hn, e2]
  show comb ws (match readLn d with | .inr e => .inr (n, e) | .inl es => match readAll readLn (ds.drop (n + 1)) (n + 1) with | .inl ws => .inl (.tuple es :: ws) | .inr p => .inr p) = _
  rw [e1]
  rfl
end Fg
namespace Fg
open PySem PySem.Spec PyProof.Rows L2
/-- all but p stands as it did -/
def But (p : Addr) (H H' : Hp) : Prop := ∀ b o, b ≠ p → H b = some o → H' b = some o
theorem But.refl (p : Addr) (H : Hp) : But p H H := fun _ _ _ e => e
theorem But.trans {p : Addr} {H H1 H2 : Hp} (a : But p H H1) (b : But p H1 H2) : But p H H2 := fun c o n e => b c o n (a c o n e)
theorem But.of {p : Addr} {H H' : Hp} (s : Same H H') : But p H H' := fun c o _ e => s c o e
theorem But.put {p : Addr} {H : Hp} {o : HO} : But p H (upd H p o) := fun c o' n e => by rw [upd_ne n]; exact e
theorem But.known {p : Addr} {A H H' : Hp} (h : But p H H') (s : Same A H) (n : A p = none) : Same A H' := fun b o e => h b o (ne_of_none e n) (s b o e)
end Fg
namespace Fg
open PySem PySem.Spec PyProof.Rows L2
/-- the text of a word -/
def txD : PyData → List Nat
  | .int i => dec i.toNat
  | .str x => x.cps.toList
  | _ => []
theorem wrds_join {ls : List (List Nat)} (h : ls ≠ []) (hs : ∀ l ∈ ls, 32 ∉ l) : wrds ⟨(TL.joinL [32] ls).toArray⟩ = ls := by
  unfold wrds
  rw [← join_sep]
  have e : Txt.split (Txt.join ⟨([32] : List Nat).toArray⟩ (ls.map fun l => (⟨l.toArray⟩ : Str))) ⟨#[32]⟩ = ls.map fun l => (⟨l.toArray⟩ : Str) := by
    refine TL.split_join (y := ⟨#[32]⟩) (s := 32) (S := []) rfl (by decide +kernel) (fun z => h (List.map_eq_nil_iff.mp z)) fun p hp => ?_
    obtain ⟨l, hl, rfl⟩ := List.mem_map.mp hp
    have := hs l hl
    simpa [TL.tl] using this
  rw [e, List.map_map]
  have : ls.map ((fun y : Str => y.cps.toList) ∘ fun l => (⟨l.toArray⟩ : Str)) = ls.map id := List.map_congr_left fun l _ => rfl
  rw [this, List.map_id]
theorem cutV_to' {ws : List (List Nat)} (p : Nat) : cutV (ws.map S) none (some (p : Int)) = (ws.take p).map S := by
  rw [cutV_to, List.map_take]
theorem cutV_fr {xs : List V} (k : Nat) : cutV xs (some (k : Int)) none = xs.drop k := by
  unfold cutV
  rw [HT.sIx_nat, HT.sIx_none]
  by_cases hk : k ≤ xs.length
  · rw [Nat.min_eq_left hk]
    exact List.take_of_length_le (by rw [List.length_drop]; omega)
  · rw [Nat.min_eq_right (by omega), Nat.sub_self, List.take_zero, List.drop_of_length_le (by omega)]
theorem cutV_fr' {ws : List (List Nat)} (p : Nat) : cutV (ws.map S) (some (p : Int)) none = (ws.drop p).map S := by
  rw [cutV_fr, List.map_drop]
end Fg
namespace Fg
open PySem PySem.Spec PyProof.Rows L2
section
variable {K : PySem.W.Frag} {H : Hp} {Q : VK} {v : V} {d : PyData} {l : List Nat}
end
end Fg
namespace Fg
open PySem PySem.Spec PyProof.Rows L2
theorem fm_congr {α β : Type} {f g : α → Option β} : ∀ {l : List α}, (∀ x ∈ l, f x = g x) → l.filterMap f = l.filterMap g
  | [], _ => rfl
  | x :: r, h => by rw [List.filterMap_cons, List.filterMap_cons, h x List.mem_cons_self, fm_congr fun y hy => h y (List.mem_cons_of_mem _ hy)]
def lexb : List Nat → List Nat → Bool
  | [], [] => false
  | [], _ :: _ => true
  | _ :: _, [] => false
  | a :: r, b :: s => if a = b then lexb r s else Nat.blt a b
theorem lexb_iff : ∀ a b : List Nat, lexb a b = true ↔ a < b
  | [], [] => ⟨fun h => (by cases h), fun h => absurd h (List.lt_irrefl _)⟩
  | [], b :: s => ⟨fun _ => List.nil_lt_cons b s, fun _ => rfl⟩
  | a :: r, [] => ⟨fun h => (by cases h), fun h => absurd h (List.not_lt_nil _)⟩
  | a :: r, b :: s => by
    rw [List.cons_lt_cons_iff]
    unfold lexb
    by_cases h : a = b
    · rw [if_pos h, lexb_iff r s]
      exact ⟨fun z => .inr ⟨h, z⟩, fun z => z.elim (fun y => absurd h (Nat.ne_of_lt y)) (·.2)⟩
    · rw [if_neg h]
      show Nat.blt a b = true ↔ _
      rw [Nat.blt_eq]
      exact ⟨.inl, fun z => z.elim id fun y => absurd y.1 h⟩
def ltb (a b : List Nat) : Bool := if a.length = b.length then lexb a b else Nat.blt a.length b.length
theorem ltb_iff (a b : List Nat) : ltb a b = true ↔ lt2 a b := by
  rw [lt2_iff]
  unfold ltb
  by_cases h : a.length = b.length
  · rw [if_pos h, lexb_iff]
    exact ⟨fun z => .inr ⟨h, z⟩, fun z => z.elim (fun y => by omega) (·.2)⟩
  · rw [if_neg h]
    show Nat.blt _ _ = true ↔ _
    rw [Nat.blt_eq]
    exact ⟨.inl, fun z => z.elim id fun y => absurd y.1 h⟩
def minB : List (List Nat) → Option (List Nat)
  | [] => none
  | x :: r => match minB r with
    | none => some x
    | some m => if ltb m x = true then some m else some x
theorem minB_cons (x : List Nat) (r : List (List Nat)) : minB (x :: r) = match minB r with | none => some x | some m => if ltb m x = true then some m else some x := rfl
theorem minB_none : ∀ {xs : List (List Nat)}, minB xs = none → xs = []
  | [], _ => rfl
  | x :: r, h => by
    rw [minB_cons] at h
    cases e : minB r with
    | none => rw [e] at h; cases h
    | some m =>
      rw [e] at h
      dsimp only at h
      split at h <;> cases h
theorem minB_some : ∀ {xs : List (List Nat)} {m : List Nat}, minB xs = some m → m ∈ xs ∧ ∀ y ∈ xs, ¬ lt2 y m
  | [], m, h => by cases h
  | x :: r, m, h => by
    rw [minB_cons] at h
    cases e : minB r with
    | none =>
      rw [e] at h
      cases h
      have := minB_none e
      subst this
      exact ⟨List.mem_cons_self, fun y hy => by rw [List.mem_singleton.mp hy]; exact lt2_irrefl _⟩
    | some n =>
      obtain ⟨h1, h2⟩ := minB_some e
      rw [e] at h
      dsimp only at h
      split at h
      · rename_i hl
        cases h
        refine ⟨List.mem_cons_of_mem _ h1, fun y hy => ?_⟩
        rcases List.mem_cons.mp hy with rfl | hy
        · exact fun z => lt2_irrefl _ (lt2_trans z ((ltb_iff _ _).mp hl))
        · exact h2 y hy
      · rename_i hl
        cases h
        refine ⟨List.mem_cons_self, fun y hy => ?_⟩
        rcases List.mem_cons.mp hy with rfl | hy
        · exact lt2_irrefl _
        · exact le2_trans (fun z => hl ((ltb_iff _ _).mpr z)) (h2 y hy)
theorem minB_isL {A : List Nat → Prop} {xs : List (List Nat)} {m : List Nat} (h : minB xs = some m) (e : ∀ t, A t ↔ t ∈ xs) : IsL A m :=
  ⟨(e m).mpr (minB_some h).1, fun y hy => (minB_some h).2 y ((e y).mp hy)⟩
def candB (C : List Nat → List Nat) (p : List Nat) (m : Nat) : List (List Nat) :=
  if m < p.length ∧ rpt (p.length / m) (p.take m) = p then (if m = 1 then [dec (p.length / m) ++ p.take m] else []) ++ [dec (p.length / m) ++ ([40] ++ (C (p.take m) ++ [41]))] else []
def sizes (n : Nat) : List Nat := (List.range n).map (· + 1)
theorem mem_sizes {n i : Nat} : i ∈ sizes n ↔ 1 ≤ i ∧ i ≤ n := by
  unfold sizes
  rw [List.mem_map]
  constructor
  · rintro ⟨j, hj, rfl⟩
    have := List.mem_range.mp hj
    omega
  · rintro ⟨h1, h2⟩
    exact ⟨i - 1, List.mem_range.mpr (by omega), by omega⟩
def itB (C : List Nat → List Nat) (p : List Nat) : Option (List Nat) := if p.length = 1 then some p else minB ((sizes (p.length - 1)).flatMap (candB C p))
def txB (f : List Nat → Option (List Nat)) (T : List Nat → List Nat) (p : List Nat) : List Nat :=
  (minB ((sizes p.length).filterMap fun i => (f (p.take i)).map fun s => s ++ T (p.drop i))).getD []
def clB (T : List Nat → List Nat) (p : List Nat) : List Nat :=
  (minB (T p :: (sizes (p.length - 1)).filterMap fun i => if p.drop i = List.replicate (p.length - i) 46 then some (T (p.take i) ++ (64 :: dec p.length)) else none)).getD []
theorem fI_itB {p : List Nat} (hp : p ≠ []) : fI p = itB fC p := by
  unfold itB
  by_cases h1 : p.length = 1
  · rw [if_pos h1]
    unfold fI itS
    rw [if_pos h1]
  rw [if_neg h1]
  have hl := List.length_pos_iff.mpr hp
  have key : ∀ t, Cand fC p t ↔ t ∈ (sizes (p.length - 1)).flatMap (candB fC p) := fun t => by
    rw [List.mem_flatMap]
    constructor
    · rintro ⟨k, u, hu, hk, rfl, ht⟩
      have hul := List.length_pos_iff.mpr hu
      have hlen := rpt_len k u
      have h2 : 2 * u.length ≤ k * u.length := Nat.mul_le_mul_right _ hk
      have htk : (rpt k u).take u.length = u := by
        obtain ⟨k', rfl⟩ : ∃ k', k = k' + 1 := ⟨k - 1, by omega⟩
        rw [rpt_succ, List.take_left]
      have hd : (rpt k u).length / u.length = k := by rw [hlen, Nat.mul_div_cancel _ hul]
      refine ⟨u.length, mem_sizes.mpr ⟨hul, by omega⟩, ?_⟩
      unfold candB
      rw [htk, hd, if_pos ⟨by omega, rfl⟩]
      rcases ht with ⟨hu1, rfl⟩ | rfl
      · rw [if_pos hu1]; exact List.mem_append_left _ (List.mem_singleton.mpr rfl)
      · exact List.mem_append_right _ (List.mem_singleton.mpr rfl)
    · rintro ⟨m, hm, ht⟩
      obtain ⟨m1, m2⟩ := mem_sizes.mp hm
      unfold candB at ht
      split at ht
      · rename_i hc
        have htl : (p.take m).length = m := by rw [List.length_take]; omega
        have hk : 2 ≤ p.length / m := by
          have e := congrArg List.length hc.2
          rw [rpt_len, htl] at e
          rcases Nat.lt_or_ge (p.length / m) 2 with z | z
          · have : p.length / m * m ≤ 1 * m := Nat.mul_le_mul_right _ (by omega)
            omega
          · exact z
        refine ⟨p.length / m, p.take m, fun z => ?_, hk, hc.2.symm, ?_⟩
        · rw [z] at htl
          have : 0 = m := htl
          omega
        rcases List.mem_append.mp ht with ht | ht
        · split at ht
          · rename_i hm1
            exact .inl ⟨by rw [htl]; exact hm1, List.mem_singleton.mp ht⟩
          · cases ht
        · exact .inr (List.mem_singleton.mp ht)
      · cases ht
  cases e : minB ((sizes (p.length - 1)).flatMap (candB fC p)) with
  | some m => exact fI_isL h1 (minB_isL e key)
  | none =>
    refine fI_none h1 fun t ht => ?_
    have := (key t).mp ht
    rw [minB_none e] at this
    cases this
theorem fT_txB {p : List Nat} (hp : p ≠ []) : fT p = txB fI fT p := by
  have hl := List.length_pos_iff.mpr hp
  unfold txB
  have mem : ∀ t, t ∈ (sizes p.length).filterMap (fun i => (fI (p.take i)).map fun s => s ++ fT (p.drop i)) ↔ ∃ a b s, p = a ++ b ∧ a ≠ [] ∧ fI a = some s ∧ t = s ++ fT b := fun t => by
    rw [List.mem_filterMap]
    constructor
    · rintro ⟨i, hi, e⟩
      obtain ⟨i1, i2⟩ := mem_sizes.mp hi
      obtain ⟨s, hs, rfl⟩ := Option.map_eq_some_iff.mp e
      refine ⟨p.take i, p.drop i, s, (List.take_append_drop i p).symm, fun z => ?_, hs, rfl⟩
      have := congrArg List.length z
      rw [List.length_take] at this
      simp only [List.length_nil] at this
      omega
    · rintro ⟨a, b, s, rfl, ha, hs, rfl⟩
      have := List.length_pos_iff.mpr ha
      refine ⟨a.length, mem_sizes.mpr ⟨this, by rw [List.length_append]; omega⟩, ?_⟩
      rw [List.take_left, List.drop_left, hs]
      rfl
  cases e : minB ((sizes p.length).filterMap (fun i => (fI (p.take i)).map fun s => s ++ fT (p.drop i))) with
  | some m =>
    obtain ⟨h1, h2⟩ := minB_some e
    exact fT_first hp ((mem m).mp h1) fun a b s ep ha hs => h2 _ ((mem _).mpr ⟨a, b, s, ep, ha, hs, rfl⟩)
  | none =>
    obtain ⟨c, r, rfl⟩ : ∃ c r, p = c :: r := by
      cases p with
      | nil => exact absurd rfl hp
      | cons c r => exact ⟨c, r, rfl⟩
    have := (mem ([c] ++ fT r)).mpr ⟨[c], r, [c], rfl, by simp, fI_one, rfl⟩
    rw [minB_none e] at this
    cases this
theorem fC_clB {p : List Nat} (hp : p ≠ []) : fC p = clB fT p := by
  unfold clB
  have hl := List.length_pos_iff.mpr hp
  have mem : ∀ t, ClC fT p t ↔ t ∈ fT p :: (sizes (p.length - 1)).filterMap (fun i => if p.drop i = List.replicate (p.length - i) 46 then some (fT (p.take i) ++ (64 :: dec p.length)) else none) := fun t => by
    rw [List.mem_cons, List.mem_filterMap]
    refine or_congr Iff.rfl ⟨?_, ?_⟩
    · rintro ⟨a, j, ha, hj, rfl, rfl⟩
      have h1 := List.length_pos_iff.mpr ha
      refine ⟨a.length, mem_sizes.mpr ⟨h1, by rw [List.length_append, List.length_replicate]; omega⟩, ?_⟩
      rw [List.drop_left, List.take_left, if_pos (by rw [List.length_append, List.length_replicate]; congr 1; omega)]
    · rintro ⟨i, hi, e⟩
      obtain ⟨i1, i2⟩ := mem_sizes.mp hi
      split at e
      · rename_i hc
        cases e
        refine ⟨p.take i, p.length - i, fun z => ?_, by omega, by rw [← hc, List.take_append_drop], rfl⟩
        have := congrArg List.length z
        rw [List.length_take] at this
        simp only [List.length_nil] at this
        omega
      · cases e
  cases e : minB (fT p :: (sizes (p.length - 1)).filterMap (fun i => if p.drop i = List.replicate (p.length - i) 46 then some (fT (p.take i) ++ (64 :: dec p.length)) else none)) with
  | some m => exact fC_isL hp (minB_isL e mem)
  | none => cases minB_none e
abbrev FTab := List (List Nat × Option (List Nat) × List Nat × List Nat)
def gI (tb : FTab) (u : List Nat) : Option (List Nat) := match tb.lookup u with
  | some e => e.1
  | none => none
def gT (tb : FTab) (u : List Nat) : List Nat := match tb.lookup u with
  | some e => e.2.1
  | none => []
def gC (tb : FTab) (u : List Nat) : List Nat := match tb.lookup u with
  | some e => e.2.2
  | none => []
def okE (tb : FTab) (u : List Nat) : Bool :=
  (sizes (u.length - 1)).all (fun i => (tb.lookup (u.take i)).isSome && (tb.lookup (u.drop i)).isSome) &&
  (decide (itB (gC tb) u = gI tb u) && (decide (txB (gI tb) (gT tb) u = gT tb u) && decide (clB (gT tb) u = gC tb u)))
def okTab (tb : FTab) : Bool := (tb.lookup []).isNone && tb.all fun e => okE tb e.1
theorem look_mem : ∀ {tb : FTab} {u : List Nat}, (tb.lookup u).isSome = true → ∃ e ∈ tb, e.1 = u
  | [], u, h => by cases h
  | (v, e) :: r, u, h => by
    rw [List.lookup_cons] at h
    cases hb : u == v with
    | true => exact ⟨_, List.mem_cons_self, (beq_iff_eq.mp hb).symm⟩
    | false =>
      rw [hb] at h
      obtain ⟨e', h1, h2⟩ := look_mem (tb := r) h
      exact ⟨e', List.mem_cons_of_mem _ h1, h2⟩
theorem tab_ok {tb : FTab} (h : okTab tb = true) : ∀ (n : Nat) (u : List Nat), u.length ≤ n → u ≠ [] → (tb.lookup u).isSome = true → gI tb u = fI u ∧ gT tb u = fT u ∧ gC tb u = fC u
  | 0, u, hn, hu, _ => absurd (List.length_eq_zero_iff.mp (by omega)) hu
  | n + 1, u, hn, hu, hl => by
    obtain ⟨e, he, rfl⟩ := look_mem hl
    unfold okTab at h
    rw [Bool.and_eq_true, List.all_eq_true] at h
    have h0 := h.1
    have hE := h.2 e he
    have hT : okTab tb = true := by unfold okTab; rw [Bool.and_eq_true, List.all_eq_true]; exact h
    have ih := tab_ok hT n
    generalize e.1 = u at *
    unfold okE at hE
    rw [Bool.and_eq_true, Bool.and_eq_true, Bool.and_eq_true, decide_eq_true_eq, decide_eq_true_eq, decide_eq_true_eq, List.all_eq_true] at hE
    obtain ⟨hs, e1, e2, e3⟩ := hE
    have sub : ∀ i, 1 ≤ i → i < u.length → (gI tb (u.take i) = fI (u.take i) ∧ gT tb (u.take i) = fT (u.take i) ∧ gC tb (u.take i) = fC (u.take i)) ∧ gT tb (u.drop i) = fT (u.drop i) := fun i i1 i2 => by
      have := hs i (mem_sizes.mpr ⟨i1, by omega⟩)
      rw [Bool.and_eq_true] at this
      refine ⟨ih _ (by rw [List.length_take]; omega) (fun z => ?_) this.1, (ih _ (by rw [List.length_drop]; omega) (fun z => ?_) this.2).2.1⟩
      · have := congrArg List.length z
        rw [List.length_take] at this
        simp only [List.length_nil] at this
        omega
      · have := congrArg List.length z
        rw [List.length_drop] at this
        simp only [List.length_nil] at this
        omega
    have nil : gT tb [] = fT [] := by
      rw [fT_nil]
      unfold gT
      rw [Option.isNone_iff_eq_none.mp h0]
    have a1 : gI tb u = fI u := by
      rw [← e1, fI_itB hu]
      unfold itB
      split
      · rfl
      · congr 1
        refine congrArg List.flatten (List.map_congr_left fun m hm => ?_)
        obtain ⟨m1, m2⟩ := mem_sizes.mp hm
        unfold candB
        rw [(sub m m1 (by omega)).1.2.2]
    have a2 : gT tb u = fT u := by
      rw [← e2, fT_txB hu]
      unfold txB
      congr 2
      refine fm_congr fun i hi => ?_
      obtain ⟨i1, i2⟩ := mem_sizes.mp hi
      rcases Nat.lt_or_ge i u.length with z | z
      · rw [(sub i i1 z).1.1, (sub i i1 z).2]
      · rw [List.take_of_length_le z, List.drop_of_length_le z, a1, nil]
    refine ⟨a1, a2, ?_⟩
    rw [← e3, fC_clB hu]
    unfold clB
    rw [a2]
    congr 3
    refine fm_congr fun i hi => ?_
    obtain ⟨i1, i2⟩ := mem_sizes.mp hi
    rw [(sub i i1 (by omega)).1.2.1]
theorem fold_tab {tb : FTab} {u t : List Nat} (h : (okTab tb && (decide (u ≠ []) && ((tb.lookup u).isSome && decide (gC tb u = t)))) = true) : fC u = t := by
  rw [Bool.and_eq_true, Bool.and_eq_true, Bool.and_eq_true, decide_eq_true_eq, decide_eq_true_eq] at h
  rw [← h.2.2.2, (tab_ok h.1 u.length u (Nat.le_refl _) h.2.1 h.2.2.1).2.2]
end Fg
namespace Fg
open PySem PySem.Spec PyProof.Rows L2
def sp0 (p : Hp → VK → XK → Prop) : Sp := fun vs H Q E => vs = [] ∧ p H Q E
theorem i_sp0 {p : Hp → VK → XK → Prop} {H : Hp} {Q : VK} {E : XK} (q : p H Q E) : sp0 p ([] ++ []) H Q E := ⟨rfl, q⟩
theorem len0 {p : Hp → VK → XK → Prop} : ∀ vs H Q E, sp0 p vs H Q E → vs.length = ([] : List Str).length := by
  rintro vs H Q E ⟨rfl, _⟩; rfl
theorem pe_f0 {X : Cx} {CX : CXT} {k : Nat} {x : Str} {ps : List Str} {sp : Sp} {E : XK} {p pos : PySem.Pos} (G : OK X.prog X.w X.K X.mg X.base CX k x ps sp) (hr : Room k X.A) (hx : Passes CX X E) (hg : Gl X x := by rfl) (hd : (x == ("__debug__" : Str)) = false := by decide) :
    PE X (.Call (.Name x p) [] [] pos) (tCall sp [] E tNil) := by
  obtain ⟨f, fd, F, hm, hk, hb⟩ := G
  exact pe_call0 F hr hg hm hk hb .nil hx hd
section
variable {K : PySem.W.Frag} {σ : L2.St} {H G A : Hp} {Q : VK} {te tb tl : TE} {g : TG} {tt : TT} {vs : List Nat} {a : Addr} {xs : List V} {j : Nat}
/-- [.. for x in e], where e makes something -/
theorem i_lcOver (Pr : Addr → Hp → Prop) (ha : ∀ R : VK, (∀ a H1, Pr a H1 → R (.ref a) H1) → te σ H R) (h : ∀ a H1, Pr a H1 → tLc (iAny K fun _ G R => R (.ref a) G) g tt tb vs σ H1 Q) : tLc (iAny K te) g tt tb vs σ H Q := ha _ h
/-- the list at Dl holds these data, beside what is known -/
structure Hid (A G : Hp) (Dl : Addr) (ds : List PyData) (G1 : Hp) : Prop where
  n : G Dl = none
  ex : ∃ A1 l, Ext A G A1 G1 ∧ A1 Dl = none ∧ G1 Dl = some (.lst l) ∧ AtAll A1 l ds
theorem Hid.new (sa : Same A G) (n : G a = none) : Hid A G a [] (upd G a (.lst [])) := by
  obtain ⟨h, A1, l, x, na, e, al⟩ := cw_start (f := fun _ => PyData.none) sa n
  exact ⟨h, A1, l, x, na, e, al⟩
/-- opened, then closed by what it holds now -/
theorem Hid.op {ds : List PyData} {Dl : Addr} {G1 : Hp} (h : Hid A G Dl ds G1) : ∃ A1 l, Ext A G A1 G1 ∧ G1 Dl = some (.lst l) ∧ AtAll A1 l ds ∧ l.length = ds.length ∧
    ∀ A2 G2, Ext A1 G1 A2 G2 → G2 Dl = some (.lst l) ∧ Hid A G Dl ds G2 ∧ ∀ es zs, AtAll A2 zs es → Hid A G Dl es (upd G2 Dl (.lst zs)) := by
  obtain ⟨n, A1, l, x, na, e, al⟩ := h
  refine ⟨A1, l, x, e, al, al.len, fun A2 G2 y => ⟨y.gg _ _ e, ⟨n, A2, l, x.trans y, y.free na (by rw [e]; simp), y.gg _ _ e, al.same y.aa⟩, fun es zs hz => ⟨n, A2, zs, (x.trans y).put n (y.free na (by rw [e]; simp)), y.free na (by rw [e]; simp), upd_same, hz⟩⟩⟩
theorem Hid.hid {ds : List PyData} {Dl p : Addr} {o : HO} {G1 : Hp} (h : Hid A G Dl ds G1) (n : G1 p = none) : Hid A G Dl ds (upd G1 p o) := by
  obtain ⟨A6, l6, x6, _, _, _, k6⟩ := h.op
  exact (k6 A6 _ ((Ext.refl x6.ag).hid n)).2.1
theorem Hid.cl {ds : List PyData} {Dl : Addr} {G1 : Hp} (h : Hid A G Dl ds G1) (sa : Same A G) (hl : ds.length ≤ 10000) : ∃ A1 l, Ext A G A1 G1 ∧ G1 Dl = some (.lst l) ∧ A1 Dl = some (.lst l) ∧ AtAll A1 l ds ∧ At A1 (.ref Dl) (.list ds) ∧ l.length = ds.length := by
  obtain ⟨n, A1, l, x, na, e, al⟩ := h
  have al2 := al.same (same_upd (o := .lst l) na)
  exact ⟨_, l, x.show n sa e, e, upd_same, al2, At.mkLst upd_same al2 hl, al.len⟩
/-- [te for j in a list] of data, some left out -/
theorem c_lstH {ds : List PyData} (sa : Same A G) (ha : ∀ R : VK, R (.ref a) G → tl σ G R) (hx : SqL K G a xs) (hd : AtAll A xs ds) (hn : xs.length ≤ 10000) (f : PyData → Option PyData) (hw : ∀ x, wipe ((wipe σ vs).set j (some x)) vs = wipe σ vs)
    (he : ∀ x d A1 G1, d ∈ ds → At A1 x d → Ext A G A1 G1 → ∀ QV : V → Hp → Prop, ∀ QN : Hp → Prop, (∀ A2 G2 v e, f d = some e → Ext A1 G1 A2 G2 → At A2 v e → QV v G2) → (f d = none → ∀ A2 G2, Ext A1 G1 A2 G2 → QN G2) →
      tt ((wipe σ vs).set j (some x)) G1 fun b G2 => if b = true then tb ((wipe σ vs).set j (some x)) G2 QV else QN G2)
    (q : ∀ Dl G1, Hid A G Dl (ds.filterMap f) G1 → Q (.ref Dl) G1) : tLc (iAny K tl) (gName j) tt tb vs σ G Q := by
  have hl := hd.len
  refine ha _ (.inl ⟨a, xs, rfl, hx, fun Dl nD => ?_⟩)
  refine lc_list (xs := xs) (fun i G1 => Hid A G Dl ((ds.take i).filterMap f) G1 ∧ i ≤ ds.length) ⟨Hid.new sa nD, Nat.zero_le _⟩ (fun i H' hi p => ?_) (fun i x H' hi p => ?_) (fun H' p => ?_)
  · obtain ⟨_, _, x, _⟩ := p.1.ex
    exact x.gg.seq hx
  · have hlt := (List.getElem?_eq_some_iff.mp hi).1
    obtain ⟨d, hd1, hd2⟩ := hd.get hi
    obtain ⟨A1, l, y, e, al, ll, k⟩ := p.1.op
    have step : (ds.take (i + 1)).filterMap f = (ds.take i).filterMap f ++ [d].filterMap f := by rw [List.take_succ, hd1, List.filterMap_append]; rfl
    have short := List.length_filterMap_le f (ds.take i)
    rw [List.length_take] at short
    refine ⟨hw _, he x d A1 H' (List.mem_of_getElem? hd1) (hd2.same y.aa) y _ _ (fun A2 G2 v e' hf z hv => ?_) (fun hf A2 G2 z => ?_)⟩
    · obtain ⟨k1, _, k2⟩ := k A2 G2 z
      refine ⟨l, k1, Nat.lt_of_le_of_lt (show l.length ≤ 10000 by omega) (by decide), ?_, by omega⟩
      rw [step, List.filterMap_cons, hf]
      exact k2 _ _ ((al.same z.aa).app (.one hv))
    · refine ⟨?_, by omega⟩
      rw [step, List.filterMap_cons, hf]
      show Hid A G Dl (_ ++ []) G2
      rw [List.append_nil]
      exact (k A2 G2 z).2.1
  · rw [List.take_of_length_le (by omega)] at p
    exact q Dl H' p.1
end
end Fg
namespace Fg
open PySem PySem.Spec PyProof.Rows L2
section
variable {H H' H'' G : Hp} {b : Addr} {o : HO} {v : V} {d : PyData} {vs : List V} {ds : List PyData}
end
def listD : PyData → PyData
  | .list ds => .list (listDs ds)
  | .tuple ds => .list (listDs ds)
  | d => d
where listDs : List PyData → List PyData
  | [] => []
  | d :: r => listD d :: listDs r
theorem listDs_map : ∀ ds : List PyData, listD.listDs ds = ds.map listD
  | [] => rfl
  | d :: r => by rw [List.map_cons, ← listDs_map r]; rfl
section
variable {K : PySem.W.Frag} {σ : L2.St} {G : Hp} {Q : VK} {te tl : TE} {j : Nat} {a : Addr} {xs : List V} {vs : List Nat}
end
end Fg
namespace K27
open PySem PySem.Spec PyProof.Rows L2 Fg
def topS (i : Nat) : Stmt := PySem.Challenge.pw_falseglim_k27_way_lines.main.body.getD i (.Pass ⟨0, 0, 0, 0⟩)
abbrev s_is_integer : Stmt := topS 12
theorem sc_is_integer : FnScope ["thing", "low", "high"] ["thing", "low", "high"] (defScope s_is_integer) := ⟨rfl, rfl, rfl, by decide +kernel, rfl, by decide +kernel, by decide +kernel⟩
abbrev s_deep : Stmt := topS 13
theorem sc_deep : FnScope ["thing", "level", "part"] ["thing", "level"] (defScope s_deep) := ⟨rfl, rfl, rfl, by decide +kernel, rfl, by decide +kernel, by decide +kernel⟩
abbrev s_wrong_sign : Stmt := topS 14
theorem sc_wrong_sign : FnScope ["row", "place", "sign"] ["row"] (defScope s_wrong_sign) := ⟨rfl, rfl, rfl, by decide +kernel, rfl, by decide +kernel, by decide +kernel⟩
abbrev s_is_row : Stmt := topS 15
theorem sc_is_row : FnScope ["thing", "most"] ["thing", "most"] (defScope s_is_row) := ⟨rfl, rfl, rfl, by decide +kernel, rfl, by decide +kernel, by decide +kernel⟩
abbrev s_is_round : Stmt := topS 16
theorem sc_is_round : FnScope ["thing"] ["thing"] (defScope s_is_round) := ⟨rfl, rfl, rfl, by decide +kernel, rfl, by decide +kernel, by decide +kernel⟩
abbrev s_is_glass : Stmt := topS 17
theorem sc_is_glass : FnScope ["thing"] ["thing"] (defScope s_is_glass) := ⟨rfl, rfl, rfl, by decide +kernel, rfl, by decide +kernel, by decide +kernel⟩
abbrev s_check_round : Stmt := topS 18
theorem sc_check_round : FnScope ["thing", "place"] ["thing"] (defScope s_check_round) := ⟨rfl, rfl, rfl, by decide +kernel, rfl, by decide +kernel, by decide +kernel⟩
abbrev s_shortlex : Stmt := topS 19
theorem sc_shortlex : FnScope ["row"] ["row"] (defScope s_shortlex) := ⟨rfl, rfl, rfl, by decide +kernel, rfl, by decide +kernel, by decide +kernel⟩
abbrev s_least_text : Stmt := topS 21
theorem sc_least_text : FnScope ["texts"] ["texts"] (defScope s_least_text) := ⟨rfl, rfl, rfl, by decide +kernel, rfl, by decide +kernel, by decide +kernel⟩
abbrev s_closed_text : Stmt := topS 22
theorem sc_closed_text : FnScope ["part", "texts", "found", "cut"] ["part", "texts"] (defScope s_closed_text) := ⟨rfl, rfl, rfl, by decide +kernel, rfl, by decide +kernel, by decide +kernel⟩
abbrev s_item_text : Stmt := topS 23
theorem sc_item_text : FnScope ["part", "texts", "found", "many", "times"] ["part", "texts"] (defScope s_item_text) := ⟨rfl, rfl, rfl, by decide +kernel, rfl, by decide +kernel, by decide +kernel⟩
abbrev s_items_text : Stmt := topS 24
theorem sc_items_text : FnScope ["part", "items", "texts", "found", "cut"] ["part", "items", "texts"] (defScope s_items_text) := ⟨rfl, rfl, rfl, by decide +kernel, rfl, by decide +kernel, by decide +kernel⟩
abbrev s_fold_round : Stmt := topS 25
theorem sc_fold_round : FnScope ["row", "items", "texts", "many", "low", "part"] ["row"] (defScope s_fold_round) := ⟨rfl, rfl, rfl, by decide +kernel, rfl, by decide +kernel, by decide +kernel⟩
abbrev s_common_beats : Stmt := topS 29
theorem sc_common_beats : FnScope ["first", "second", "one", "two"] ["first", "second"] (defScope s_common_beats) := ⟨rfl, rfl, rfl, by decide +kernel, rfl, by decide +kernel, by decide +kernel⟩
abbrev s_repeated : Stmt := topS 30
theorem sc_repeated : FnScope ["stretch", "times", "beats"] ["stretch", "times"] (defScope s_repeated) := ⟨rfl, rfl, rfl, by decide +kernel, rfl, by decide +kernel, by decide +kernel⟩
abbrev s_put_behind : Stmt := topS 31
theorem sc_put_behind : FnScope ["stretch", "other", "beats"] ["stretch", "other"] (defScope s_put_behind) := ⟨rfl, rfl, rfl, by decide +kernel, rfl, by decide +kernel, by decide +kernel⟩
abbrev s_first_lit : Stmt := topS 32
theorem sc_first_lit : FnScope ["signs", "sign"] ["signs"] (defScope s_first_lit) := ⟨rfl, rfl, rfl, by decide +kernel, rfl, by decide +kernel, by decide +kernel⟩
abbrev s_shown_together : Stmt := topS 33
theorem sc_shown_together : FnScope ["parts", "beats", "part", "rows", "beat", "row"] ["parts"] (defScope s_shown_together) := ⟨rfl, rfl, rfl, by decide +kernel, rfl, by decide +kernel, by decide +kernel⟩
abbrev s_behind_digits : Stmt := topS 34
theorem sc_behind_digits : FnScope ["text", "at"] ["text", "at"] (defScope s_behind_digits) := ⟨rfl, rfl, rfl, by decide +kernel, rfl, by decide +kernel, by decide +kernel⟩
abbrev s_is_within : Stmt := topS 35
theorem sc_is_within : FnScope ["run", "low", "high"] ["run", "low", "high"] (defScope s_is_within) := ⟨rfl, rfl, rfl, by decide +kernel, rfl, by decide +kernel, by decide +kernel⟩
abbrev s_read_item : Stmt := topS 36
theorem sc_read_item : FnScope ["text", "at", "opened", "low", "run", "times", "stretch"] ["text", "at", "opened"] (defScope s_read_item) := ⟨rfl, rfl, rfl, by decide +kernel, rfl, by decide +kernel, by decide +kernel⟩
abbrev s_read_filled : Stmt := topS 37
theorem sc_read_filled : FnScope ["text", "at", "part", "behind", "run", "beats"] ["text", "at", "part"] (defScope s_read_filled) := ⟨rfl, rfl, rfl, by decide +kernel, rfl, by decide +kernel, by decide +kernel⟩
abbrev s_read_part : Stmt := topS 38
theorem sc_read_part : FnScope ["text", "at", "opened", "part", "item"] ["text", "at", "opened"] (defScope s_read_part) := ⟨rfl, rfl, rfl, by decide +kernel, rfl, by decide +kernel, by decide +kernel⟩
abbrev s_read_parts : Stmt := topS 39
theorem sc_read_parts : FnScope ["text", "at", "opened", "part", "parts"] ["text", "at", "opened"] (defScope s_read_parts) := ⟨rfl, rfl, rfl, by decide +kernel, rfl, by decide +kernel, by decide +kernel⟩
abbrev s_read_round : Stmt := topS 40
theorem sc_read_round : FnScope ["text", "stretch", "at"] ["text"] (defScope s_read_round) := ⟨rfl, rfl, rfl, by decide +kernel, rfl, by decide +kernel, by decide +kernel⟩
abbrev s_is_number : Stmt := topS 43
theorem sc_is_number : FnScope ["text", "sign"] ["text"] (defScope s_is_number) := ⟨rfl, rfl, rfl, by decide +kernel, rfl, by decide +kernel, by decide +kernel⟩
abbrev s_Lines___init__ : Stmt := inClass (topS 44) 0
theorem sc_Lines___init__ : FnScope ["self", "texts", "at"] ["self", "texts", "at"] (defScope s_Lines___init__) := ⟨rfl, rfl, rfl, by decide +kernel, rfl, by decide +kernel, by decide +kernel⟩
abbrev s_Lines_is_over : Stmt := inClass (topS 44) 1
theorem sc_Lines_is_over : FnScope ["self"] ["self"] (defScope s_Lines_is_over) := ⟨rfl, rfl, rfl, by decide +kernel, rfl, by decide +kernel, by decide +kernel⟩
abbrev s_Lines_words : Stmt := inClass (topS 44) 3
theorem sc_Lines_words : FnScope ["self"] ["self"] (defScope s_Lines_words) := ⟨rfl, rfl, rfl, by decide +kernel, rfl, by decide +kernel, by decide +kernel⟩
abbrev s_Lines_first_word : Stmt := inClass (topS 44) 4
theorem sc_Lines_first_word : FnScope ["self"] ["self"] (defScope s_Lines_first_word) := ⟨rfl, rfl, rfl, by decide +kernel, rfl, by decide +kernel, by decide +kernel⟩
abbrev s_Lines_fail_at : Stmt := inClass (topS 44) 6
theorem sc_Lines_fail_at : FnScope ["self", "number"] ["self", "number"] (defScope s_Lines_fail_at) := ⟨rfl, rfl, rfl, by decide +kernel, rfl, by decide +kernel, by decide +kernel⟩
abbrev s_Lines_word_at : Stmt := inClass (topS 44) 7
theorem sc_Lines_word_at : FnScope ["self", "number", "words"] ["self", "number"] (defScope s_Lines_word_at) := ⟨rfl, rfl, rfl, by decide +kernel, rfl, by decide +kernel, by decide +kernel⟩
abbrev s_Lines_number_at : Stmt := inClass (topS 44) 8
theorem sc_Lines_number_at : FnScope ["self", "number", "low", "high", "word"] ["self", "number", "low", "high"] (defScope s_Lines_number_at) := ⟨rfl, rfl, rfl, by decide +kernel, rfl, by decide +kernel, by decide +kernel⟩
abbrev s_Lines_glass_at : Stmt := inClass (topS 44) 12
theorem sc_Lines_glass_at : FnScope ["self", "number", "word"] ["self", "number"] (defScope s_Lines_glass_at) := ⟨rfl, rfl, rfl, by decide +kernel, rfl, by decide +kernel, by decide +kernel⟩
abbrev s_Lines_round_at : Stmt := inClass (topS 44) 15
theorem sc_Lines_round_at : FnScope ["self", "number", "word", "why"] ["self", "number"] (defScope s_Lines_round_at) := ⟨rfl, rfl, rfl, by decide +kernel, rfl, by decide +kernel, by decide +kernel⟩
abbrev s_Lines_close_at : Stmt := inClass (topS 44) 16
theorem sc_Lines_close_at : FnScope ["self", "number"] ["self", "number"] (defScope s_Lines_close_at) := ⟨rfl, rfl, rfl, by decide +kernel, rfl, by decide +kernel, by decide +kernel⟩
abbrev s_has_way_form : Stmt := topS 47
theorem sc_has_way_form : FnScope ["way", "word", "value", "low", "high"] ["way"] (defScope s_has_way_form) := ⟨rfl, rfl, rfl, by decide +kernel, rfl, by decide +kernel, by decide +kernel⟩
abbrev s_is_way : Stmt := topS 48
theorem sc_is_way : FnScope ["thing"] ["thing"] (defScope s_is_way) := ⟨rfl, rfl, rfl, by decide +kernel, rfl, by decide +kernel, by decide +kernel⟩
abbrev s_check_ways : Stmt := topS 49
theorem sc_check_ways : FnScope ["ways", "number", "way"] ["ways"] (defScope s_check_ways) := ⟨rfl, rfl, rfl, by decide +kernel, rfl, by decide +kernel, by decide +kernel⟩
abbrev s_way_line : Stmt := topS 50
theorem sc_way_line : FnScope ["way", "word", "value"] ["way"] (defScope s_way_line) := ⟨rfl, rfl, rfl, by decide +kernel, rfl, by decide +kernel, by decide +kernel⟩
abbrev s_write_ways : Stmt := topS 51
theorem sc_write_ways : FnScope ["ways", "told", "way"] ["ways"] (defScope s_write_ways) := ⟨rfl, rfl, rfl, by decide +kernel, rfl, by decide +kernel, by decide +kernel⟩
abbrev s_way_at : Stmt := topS 52
theorem sc_way_at : FnScope ["reader", "word", "value"] ["reader"] (defScope s_way_at) := ⟨rfl, rfl, rfl, by decide +kernel, rfl, by decide +kernel, by decide +kernel⟩
abbrev s_read_ways : Stmt := topS 53
theorem sc_read_ways : FnScope ["lines", "reader", "ways", "told"] ["lines"] (defScope s_read_ways) := ⟨rfl, rfl, rfl, by decide +kernel, rfl, by decide +kernel, by decide +kernel⟩
abbrev s_L_draw : Stmt := topS 55
theorem sc_L_draw : FnScope ["_law_script", "_law_cells", "_law_cell"] ["_law_script"] (defScope s_L_draw) := ⟨rfl, rfl, rfl, by decide +kernel, rfl, by decide +kernel, by decide +kernel⟩
abbrev s_L_mix : Stmt := topS 56
theorem sc_L_mix : FnScope ["_law_cell", "_law_turn", "_law_one", "_law_two"] ["_law_cell", "_law_turn"] (defScope s_L_mix) := ⟨rfl, rfl, rfl, by decide +kernel, rfl, by decide +kernel, by decide +kernel⟩
abbrev s_L_pick : Stmt := topS 57
theorem sc_L_pick : FnScope ["_law_draw_here", "_law_many", "_law_cell", "_law_digit", "_law_found"] ["_law_draw_here", "_law_many"] (defScope s_L_pick) := ⟨rfl, rfl, rfl, by decide +kernel, rfl, by decide +kernel, by decide +kernel⟩
abbrev s_L_listed : Stmt := topS 58
theorem sc_L_listed : FnScope ["_law_thing", "_law_part"] ["_law_thing"] (defScope s_L_listed) := ⟨rfl, rfl, rfl, by decide +kernel, rfl, by decide +kernel, by decide +kernel⟩
abbrev s_L_sign : Stmt := topS 59
theorem sc_L_sign : FnScope ["_law_draw_here"] ["_law_draw_here"] (defScope s_L_sign) := ⟨rfl, rfl, rfl, by decide +kernel, rfl, by decide +kernel, by decide +kernel⟩
abbrev s_L_round : Stmt := topS 60
theorem sc_L_round : FnScope ["_law_draw_here", "_law_most", "_law_turn"] ["_law_draw_here", "_law_most"] (defScope s_L_round) := ⟨rfl, rfl, rfl, by decide +kernel, rfl, by decide +kernel, by decide +kernel⟩
abbrev s_L_glass : Stmt := topS 61
theorem sc_L_glass : FnScope ["_law_draw_here", "_law_turn"] ["_law_draw_here"] (defScope s_L_glass) := ⟨rfl, rfl, rfl, by decide +kernel, rfl, by decide +kernel, by decide +kernel⟩
abbrev s_L_folds : Stmt := topS 62
theorem sc_L_folds : FnScope [] [] (defScope s_L_folds) := ⟨rfl, rfl, rfl, by decide +kernel, rfl, by decide +kernel, by decide +kernel⟩
abbrev s_L_pool : Stmt := topS 63
theorem sc_L_pool : FnScope ["_law_words", "_law_word", "_law_pair"] [] (defScope s_L_pool) := ⟨rfl, rfl, rfl, by decide +kernel, rfl, by decide +kernel, by decide +kernel⟩
abbrev s_L_drawn_way : Stmt := topS 64
theorem sc_L_drawn_way : FnScope ["_law_draw_here", "_law_kind", "_law_folds_here"] ["_law_draw_here"] (defScope s_L_drawn_way) := ⟨rfl, rfl, rfl, by decide +kernel, rfl, by decide +kernel, by decide +kernel⟩
abbrev s_L_written : Stmt := topS 65
theorem sc_L_written : FnScope ["_law_way", "_law_pair"] ["_law_way"] (defScope s_L_written) := ⟨rfl, rfl, rfl, by decide +kernel, rfl, by decide +kernel, by decide +kernel⟩
abbrev s_L_odd_way : Stmt := topS 66
theorem sc_L_odd_way : FnScope ["_law_draw_here", "_law_menu"] ["_law_draw_here"] (defScope s_L_odd_way) := ⟨rfl, rfl, rfl, by decide +kernel, rfl, by decide +kernel, by decide +kernel⟩
abbrev s_L_spoilt : Stmt := topS 67
theorem sc_L_spoilt : FnScope ["_law_draw_here", "_law_lines_here", "_law_pool_here", "_law_out", "_law_number", "_law_kind", "_law_words", "_law_place", "_law_word", "_law_line"] ["_law_draw_here", "_law_lines_here"] (defScope s_L_spoilt) := ⟨rfl, rfl, rfl, by decide +kernel, rfl, by decide +kernel, by decide +kernel⟩
abbrev s_L_line_way : Stmt := topS 68
theorem sc_L_line_way : FnScope ["_law_words", "_law_pair", "_law_sign_here"] ["_law_words"] (defScope s_L_line_way) := ⟨rfl, rfl, rfl, by decide +kernel, rfl, by decide +kernel, by decide +kernel⟩
abbrev s_L_is_good : Stmt := topS 69
theorem sc_L_is_good : FnScope ["_law_way"] ["_law_way"] (defScope s_L_is_good) := ⟨rfl, rfl, rfl, by decide +kernel, rfl, by decide +kernel, by decide +kernel⟩
abbrev s_L_due : Stmt := topS 70
theorem sc_L_due : FnScope ["_law_lines_here", "_law_ways", "_law_number", "_law_words", "_law_way"] ["_law_lines_here"] (defScope s_L_due) := ⟨rfl, rfl, rfl, by decide +kernel, rfl, by decide +kernel, by decide +kernel⟩
abbrev s_L_error : Stmt := topS 71
theorem sc_L_error : FnScope ["_law_wrong", "_law_found"] ["_law_wrong"] (defScope s_L_error) := ⟨rfl, rfl, rfl, by decide +kernel, rfl, by decide +kernel, by decide +kernel⟩
abbrev s_L_read : Stmt := topS 72
theorem sc_L_read : FnScope ["_law_lines_here", "_law_told", "_law_wrong"] ["_law_lines_here"] (defScope s_L_read) := ⟨rfl, rfl, rfl, by decide +kernel, rfl, by decide +kernel, by decide +kernel⟩
abbrev s_L_lines : Stmt := topS 73
theorem sc_L_lines : FnScope ["_law_ways", "_law_told", "_law_wrong"] ["_law_ways"] (defScope s_L_lines) := ⟨rfl, rfl, rfl, by decide +kernel, rfl, by decide +kernel, by decide +kernel⟩
abbrev s_L_refused : Stmt := topS 74
theorem sc_L_refused : FnScope ["_law_draw_here", "_law_ways", "_law_odd", "_law_number", "_law_thing", "_law_way"] ["_law_draw_here", "_law_ways"] (defScope s_L_refused) := ⟨rfl, rfl, rfl, by decide +kernel, rfl, by decide +kernel, by decide +kernel⟩
abbrev s_L_any_standin : Stmt := topS 75
theorem sc_L_any_standin : FnScope ["_law_row", "_law_told", "_law_words"] ["_law_row"] (defScope s_L_any_standin) := ⟨rfl, rfl, rfl, by decide +kernel, rfl, by decide +kernel, by decide +kernel⟩
abbrev s_law : Stmt := topS 76
theorem sc_law : FnScope ["_law_script", "_law_draw_here", "_law_many", "_law_ways", "_law_lines_here", "_law_listed_here", "_law_thing", "_law_turn", "_law_spoilt_here", "_law_spoil", "_law_before", "_law_way", "_law_line"] ["_law_script"] (defScope s_law) := ⟨rfl, rfl, rfl, by decide +kernel, rfl, by decide +kernel, by decide +kernel⟩
abbrev s_BadRound : Stmt := inClass (topS 3) 0
theorem sc_BadRound : FnScope ["self", "number"] ["self", "number"] (defScope s_BadRound) := ⟨rfl, rfl, rfl, by decide +kernel, rfl, by decide +kernel, by decide +kernel⟩
abbrev s_BadText : Stmt := inClass (topS 4) 0
theorem sc_BadText : FnScope ["self", "at"] ["self", "at"] (defScope s_BadText) := ⟨rfl, rfl, rfl, by decide +kernel, rfl, by decide +kernel, by decide +kernel⟩
abbrev s_BadLine : Stmt := inClass (topS 5) 0
theorem sc_BadLine : FnScope ["self", "line", "word"] ["self", "line", "word"] (defScope s_BadLine) := ⟨rfl, rfl, rfl, by decide +kernel, rfl, by decide +kernel, by decide +kernel⟩
abbrev s_BadWay : Stmt := inClass (topS 6) 0
theorem sc_BadWay : FnScope ["self", "number"] ["self", "number"] (defScope s_BadWay) := ⟨rfl, rfl, rfl, by decide +kernel, rfl, by decide +kernel, by decide +kernel⟩
abbrev s_TooLong : Stmt := inClass (topS 7) 0
theorem sc_TooLong : FnScope ["self", "number"] ["self", "number"] (defScope s_TooLong) := ⟨rfl, rfl, rfl, by decide +kernel, rfl, by decide +kernel, by decide +kernel⟩
/-- what the top has written -/
structure Txt (K : PySem.W.Frag) (mg : Str → Option Value) (w : World) (C_GlimError : Addr) (C_BadRound : Addr) (C_BadText : Addr) (C_BadLine : Addr) (C_BadWay : Addr) (C_TooLong : Addr) (C_Lines : Addr) (C_NUMBERED : Addr) : Prop where
  d_is_integer : DefIn K mg "is_integer" s_is_integer ["thing", "low", "high"]
  d_deep : DefD K mg "deep" s_deep ["thing", "level"] [.int (0)]
  d_wrong_sign : DefIn K mg "wrong_sign" s_wrong_sign ["row"]
  d_is_row : DefIn K mg "is_row" s_is_row ["thing", "most"]
  d_is_round : DefIn K mg "is_round" s_is_round ["thing"]
  d_is_glass : DefIn K mg "is_glass" s_is_glass ["thing"]
  d_check_round : DefIn K mg "check_round" s_check_round ["thing"]
  d_shortlex : DefIn K mg "shortlex" s_shortlex ["row"]
  d_least_text : DefIn K mg "least_text" s_least_text ["texts"]
  d_closed_text : DefIn K mg "closed_text" s_closed_text ["part", "texts"]
  d_item_text : DefIn K mg "item_text" s_item_text ["part", "texts"]
  d_items_text : DefIn K mg "items_text" s_items_text ["part", "items", "texts"]
  d_fold_round : DefIn K mg "fold_round" s_fold_round ["row"]
  d_common_beats : DefIn K mg "common_beats" s_common_beats ["first", "second"]
  d_repeated : DefIn K mg "repeated" s_repeated ["stretch", "times"]
  d_put_behind : DefIn K mg "put_behind" s_put_behind ["stretch", "other"]
  d_first_lit : DefIn K mg "first_lit" s_first_lit ["signs"]
  d_shown_together : DefIn K mg "shown_together" s_shown_together ["parts"]
  d_behind_digits : DefIn K mg "behind_digits" s_behind_digits ["text", "at"]
  d_is_within : DefIn K mg "is_within" s_is_within ["run", "low", "high"]
  d_read_item : DefIn K mg "read_item" s_read_item ["text", "at", "opened"]
  d_read_filled : DefIn K mg "read_filled" s_read_filled ["text", "at", "part"]
  d_read_part : DefIn K mg "read_part" s_read_part ["text", "at", "opened"]
  d_read_parts : DefIn K mg "read_parts" s_read_parts ["text", "at", "opened"]
  d_read_round : DefIn K mg "read_round" s_read_round ["text"]
  d_is_number : DefIn K mg "is_number" s_is_number ["text"]
  m_Lines___init__ : MkIn K mg "Lines" "Lines.__init__" C_Lines s_Lines___init__ ["self", "texts", "at"] [.int (0)]
  m_Lines_is_over : MetIn K C_Lines "is_over" "Lines.is_over" s_Lines_is_over ["self"] []
  m_Lines_words : MetIn K C_Lines "words" "Lines.words" s_Lines_words ["self"] []
  m_Lines_first_word : MetIn K C_Lines "first_word" "Lines.first_word" s_Lines_first_word ["self"] []
  m_Lines_fail_at : MetIn K C_Lines "fail_at" "Lines.fail_at" s_Lines_fail_at ["self", "number"] []
  m_Lines_word_at : MetIn K C_Lines "word_at" "Lines.word_at" s_Lines_word_at ["self", "number"] []
  m_Lines_number_at : MetIn K C_Lines "number_at" "Lines.number_at" s_Lines_number_at ["self", "number", "low", "high"] []
  m_Lines_glass_at : MetIn K C_Lines "glass_at" "Lines.glass_at" s_Lines_glass_at ["self", "number"] []
  m_Lines_round_at : MetIn K C_Lines "round_at" "Lines.round_at" s_Lines_round_at ["self", "number"] []
  m_Lines_close_at : MetIn K C_Lines "close_at" "Lines.close_at" s_Lines_close_at ["self", "number"] []
  d_has_way_form : DefIn K mg "has_way_form" s_has_way_form ["way"]
  d_is_way : DefIn K mg "is_way" s_is_way ["thing"]
  d_check_ways : DefIn K mg "check_ways" s_check_ways ["ways"]
  d_way_line : DefIn K mg "way_line" s_way_line ["way"]
  d_write_ways : DefIn K mg "write_ways" s_write_ways ["ways"]
  d_way_at : DefIn K mg "way_at" s_way_at ["reader"]
  d_read_ways : DefIn K mg "read_ways" s_read_ways ["lines"]
  d_L_draw : DefIn K mg "_law_draw" s_L_draw ["_law_script"]
  d_L_mix : DefIn K mg "_law_mix" s_L_mix ["_law_cell", "_law_turn"]
  d_L_pick : DefIn K mg "_law_pick" s_L_pick ["_law_draw_here", "_law_many"]
  d_L_listed : DefIn K mg "_law_listed" s_L_listed ["_law_thing"]
  d_L_sign : DefIn K mg "_law_sign" s_L_sign ["_law_draw_here"]
  d_L_round : DefIn K mg "_law_round" s_L_round ["_law_draw_here", "_law_most"]
  d_L_glass : DefIn K mg "_law_glass" s_L_glass ["_law_draw_here"]
  d_L_folds : DefIn K mg "_law_folds" s_L_folds []
  d_L_pool : DefIn K mg "_law_pool" s_L_pool []
  d_L_drawn_way : DefIn K mg "_law_drawn_way" s_L_drawn_way ["_law_draw_here"]
  d_L_written : DefIn K mg "_law_written" s_L_written ["_law_way"]
  d_L_odd_way : DefIn K mg "_law_odd_way" s_L_odd_way ["_law_draw_here"]
  d_L_spoilt : DefIn K mg "_law_spoilt" s_L_spoilt ["_law_draw_here", "_law_lines_here"]
  d_L_line_way : DefIn K mg "_law_line_way" s_L_line_way ["_law_words"]
  d_L_is_good : DefIn K mg "_law_is_good" s_L_is_good ["_law_way"]
  d_L_due : DefIn K mg "_law_due" s_L_due ["_law_lines_here"]
  d_L_error : DefIn K mg "_law_error" s_L_error ["_law_wrong"]
  d_L_read : DefIn K mg "_law_read" s_L_read ["_law_lines_here"]
  d_L_lines : DefIn K mg "_law_lines" s_L_lines ["_law_ways"]
  d_L_refused : DefIn K mg "_law_refused" s_L_refused ["_law_draw_here", "_law_ways"]
  d_L_any_standin : DefIn K mg "_law_any_standin" s_L_any_standin ["_law_row"]
  d_law : DefIn K mg "law" s_law ["_law_script"]
  b_ValueError : mg "ValueError" = none
  b_abs : mg "abs" = none
  b_bool : mg "bool" = none
  b_enumerate : mg "enumerate" = none
  b_int : mg "int" = none
  b_isinstance : mg "isinstance" = none
  b_len : mg "len" = none
  b_list : mg "list" = none
  b_max : mg "max" = none
  b_min : mg "min" = none
  b_range : mg "range" = none
  b_repr : mg "repr" = none
  b_str : mg "str" = none
  b_sum : mg "sum" = none
  b_tuple : mg "tuple" = none
  g_SIGNS : ∃ t, mg "SIGNS" = some (.str ⟨([46, 103, 114, 119] : List Nat).toArray⟩ t)
  g_MOST_LEVELS : ∃ t, mg "MOST_LEVELS" = some (.int (70) t)
  g_MOST_ROUND : ∃ t, mg "MOST_ROUND" = some (.int (24) t)
  g_DIGITS_rhythmtext : ∃ t, mg "DIGITS_rhythmtext" = some (.str ⟨([48, 49, 50, 51, 52, 53, 54, 55, 56, 57] : List Nat).toArray⟩ t)
  g_MOST_OPEN : ∃ t, mg "MOST_OPEN" = some (.int (6) t)
  g_DIGITS_lines : ∃ t, mg "DIGITS_lines" = some (.str ⟨([48, 49, 50, 51, 52, 53, 54, 55, 56, 57] : List Nat).toArray⟩ t)
  c_GlimError : mg "GlimError" = some (.ref C_GlimError)
  c_BadRound : mg "BadRound" = some (.ref C_BadRound)
  c_BadText : mg "BadText" = some (.ref C_BadText)
  c_BadLine : mg "BadLine" = some (.ref C_BadLine)
  c_BadWay : mg "BadWay" = some (.ref C_BadWay)
  c_TooLong : mg "TooLong" = some (.ref C_TooLong)
  c_Lines : mg "Lines" = some (.ref C_Lines)
  c_NUMBERED : mg "NUMBERED" = some (.ref C_NUMBERED)
  q_NUMBERED : ∃ a0 a1 a2 : Addr, Fg.WDk K w C_NUMBERED [([108, 97, 109, 101], .ref a0), ([114, 101, 115, 116, 97, 114, 116], .ref a1), ([115, 108, 105, 112], .ref a2)] ∧ (∀ H : Hp, SqT K H a0 [.int (2), .int (4)]) ∧ (∀ H : Hp, SqT K H a1 [.int (1), .int (3)]) ∧ (∀ H : Hp, SqT K H a2 [.int (2), .int (9)])
  cl_Lines : Cls K C_Lines
  na_Lines_texts : NoAttr K C_Lines "texts"
  na_Lines_now : NoAttr K C_Lines "now"
  o_BadRound : OexC K C_BadRound
  nf_BadRound_number : PySem.W.findIn K (.ref C_BadRound) "number" = some none
  i_BadRound : ∃ fI fd, PySem.W.findIn K (.ref C_BadRound) "__init__" = some (some (.ref fI)) ∧ PySem.W.typeIn K (.ref fI) = some (.type "function") ∧ Fun K "__init__" "BadRound.__init__" s_BadRound fI fd ∧ Binds K fd ["self", "number"] []
  e_BadRound : ExcD K C_BadRound
  o_BadText : OexC K C_BadText
  nf_BadText_at : PySem.W.findIn K (.ref C_BadText) "at" = some none
  i_BadText : ∃ fI fd, PySem.W.findIn K (.ref C_BadText) "__init__" = some (some (.ref fI)) ∧ PySem.W.typeIn K (.ref fI) = some (.type "function") ∧ Fun K "__init__" "BadText.__init__" s_BadText fI fd ∧ Binds K fd ["self", "at"] []
  e_BadText : ExcD K C_BadText
  o_BadLine : OexC K C_BadLine
  nf_BadLine_line : PySem.W.findIn K (.ref C_BadLine) "line" = some none
  nf_BadLine_word : PySem.W.findIn K (.ref C_BadLine) "word" = some none
  i_BadLine : ∃ fI fd, PySem.W.findIn K (.ref C_BadLine) "__init__" = some (some (.ref fI)) ∧ PySem.W.typeIn K (.ref fI) = some (.type "function") ∧ Fun K "__init__" "BadLine.__init__" s_BadLine fI fd ∧ Binds K fd ["self", "line", "word"] []
  e_BadLine : ExcD K C_BadLine
  o_BadWay : OexC K C_BadWay
  nf_BadWay_number : PySem.W.findIn K (.ref C_BadWay) "number" = some none
  i_BadWay : ∃ fI fd, PySem.W.findIn K (.ref C_BadWay) "__init__" = some (some (.ref fI)) ∧ PySem.W.typeIn K (.ref fI) = some (.type "function") ∧ Fun K "__init__" "BadWay.__init__" s_BadWay fI fd ∧ Binds K fd ["self", "number"] []
  e_BadWay : ExcD K C_BadWay
  o_TooLong : OexC K C_TooLong
  nf_TooLong_number : PySem.W.findIn K (.ref C_TooLong) "number" = some none
  i_TooLong : ∃ fI fd, PySem.W.findIn K (.ref C_TooLong) "__init__" = some (some (.ref fI)) ∧ PySem.W.typeIn K (.ref fI) = some (.type "function") ∧ Fun K "__init__" "TooLong.__init__" s_TooLong fI fd ∧ Binds K fd ["self", "number"] []
  e_TooLong : ExcD K C_TooLong
  k_BadLine_BadLine : PySem.W.kitOne K (.ref C_BadLine) (.ref C_BadLine) = some true
  k_BadLine_BadWay : PySem.W.kitOne K (.ref C_BadLine) (.ref C_BadWay) = some false
  k_BadLine_ValueError : PySem.W.kitOne K (.ref C_BadLine) (.type "ValueError") = some true
  k_BadWay_BadLine : PySem.W.kitOne K (.ref C_BadWay) (.ref C_BadLine) = some false
  k_BadWay_BadWay : PySem.W.kitOne K (.ref C_BadWay) (.ref C_BadWay) = some true
  k_BadWay_ValueError : PySem.W.kitOne K (.ref C_BadWay) (.type "ValueError") = some true
  m_BadLine_GlimError : PySem.W.exmOne K (.ref C_BadLine) (.ref C_GlimError) = some true
  m_BadWay_GlimError : PySem.W.exmOne K (.ref C_BadWay) (.ref C_GlimError) = some true
  m_BadText_BadText : PySem.W.exmOne K (.ref C_BadText) (.ref C_BadText) = some true
  m_BadText_TooLong : PySem.W.exmOne K (.ref C_BadText) (.ref C_TooLong) = some false
  m_TooLong_BadText : PySem.W.exmOne K (.ref C_TooLong) (.ref C_BadText) = some false
  m_TooLong_TooLong : PySem.W.exmOne K (.ref C_TooLong) (.ref C_TooLong) = some true
section
variable {P : Program} {w : World} {K : PySem.W.Frag} {mg : Str → Option Value} {base : Heap} {C_GlimError C_BadRound C_BadText C_BadLine C_BadWay C_TooLong C_Lines C_NUMBERED : Addr}
theorem okx_BadRound (T : Txt K mg w C_GlimError C_BadRound C_BadText C_BadLine C_BadWay C_TooLong C_Lines C_NUMBERED) : OKx P w K mg base "BadRound" "number" C_BadRound := by
  obtain ⟨fI, fd, h1, h2, F, hb⟩ := T.i_BadRound
  exact ⟨T.c_BadRound, T.o_BadRound, T.nf_BadRound_number, fI, fd, h1, h2, ini_ok F sc_BadRound T.o_BadRound T.nf_BadRound_number (fun cdv A outer s H E => (pss_one (ps_ost (pv 0) (pv 1)))), hb⟩
theorem okx_BadText (T : Txt K mg w C_GlimError C_BadRound C_BadText C_BadLine C_BadWay C_TooLong C_Lines C_NUMBERED) : OKx P w K mg base "BadText" "at" C_BadText := by
  obtain ⟨fI, fd, h1, h2, F, hb⟩ := T.i_BadText
  exact ⟨T.c_BadText, T.o_BadText, T.nf_BadText_at, fI, fd, h1, h2, ini_ok F sc_BadText T.o_BadText T.nf_BadText_at (fun cdv A outer s H E => (pss_one (ps_ost (pv 0) (pv 1)))), hb⟩
theorem okxH_BadLine (T : Txt K mg w C_GlimError C_BadRound C_BadText C_BadLine C_BadWay C_TooLong C_Lines C_NUMBERED) : Fg.OKx2H P w K mg base "BadLine" "line" "word" C_BadLine := by
  obtain ⟨fI, fd, h1, h2, F, hb⟩ := T.i_BadLine
  exact ⟨⟨T.c_BadLine, T.o_BadLine⟩, fI, fd, ⟨h1, h2⟩, Fg.ini_ok2H F sc_BadLine T.o_BadLine T.nf_BadLine_line T.nf_BadLine_word (fun cdv A fs st G Er p => (pss_cons (ps_ost (pv 0) (pv 1)) (pss_one (ps_ost (pv 0) (pv 2))))), hb⟩
theorem okx_BadLine (T : Txt K mg w C_GlimError C_BadRound C_BadText C_BadLine C_BadWay C_TooLong C_Lines C_NUMBERED) : OKx2 P w K mg base "BadLine" "line" "word" C_BadLine := by
  obtain ⟨fI, fd, h1, h2, F, hb⟩ := T.i_BadLine
  exact ⟨T.c_BadLine, T.o_BadLine, fI, fd, h1, h2, ini_ok2 F sc_BadLine T.o_BadLine T.nf_BadLine_line T.nf_BadLine_word (fun cdv A outer s H E => (pss_cons (ps_ost (pv 0) (pv 1)) (pss_one (ps_ost (pv 0) (pv 2))))), hb⟩
theorem okx_BadWay (T : Txt K mg w C_GlimError C_BadRound C_BadText C_BadLine C_BadWay C_TooLong C_Lines C_NUMBERED) : OKx P w K mg base "BadWay" "number" C_BadWay := by
  obtain ⟨fI, fd, h1, h2, F, hb⟩ := T.i_BadWay
  exact ⟨T.c_BadWay, T.o_BadWay, T.nf_BadWay_number, fI, fd, h1, h2, ini_ok F sc_BadWay T.o_BadWay T.nf_BadWay_number (fun cdv A outer s H E => (pss_one (ps_ost (pv 0) (pv 1)))), hb⟩
theorem okx_TooLong (T : Txt K mg w C_GlimError C_BadRound C_BadText C_BadLine C_BadWay C_TooLong C_Lines C_NUMBERED) : OKx P w K mg base "TooLong" "number" C_TooLong := by
  obtain ⟨fI, fd, h1, h2, F, hb⟩ := T.i_TooLong
  exact ⟨T.c_TooLong, T.o_TooLong, T.nf_TooLong_number, fI, fd, h1, h2, ini_ok F sc_TooLong T.o_TooLong T.nf_TooLong_number (fun cdv A outer s H E => (pss_one (ps_ost (pv 0) (pv 1)))), hb⟩
end
local macro_rules | `(tactic| walk_at "sq") => `(tactic| first
  | assumption
  | exact .inl (.inl (by assumption))
  | exact .inl (.inl upd_same))
local macro_rules | `(tactic| walk_at "st") => `(tactic| first
  | assumption
  | exact .inl (.inl (by assumption))
  | exact .inl (.inl upd_same))
local macro_rules | `(tactic| walk_at "o") => `(tactic| first
  | omega
  | assumption
  | (simp only [List.length_append, List.length_take, List.length_drop, List.length_cons, List.length_nil, List.length_singleton, List.length_map, List.length_range, Int.toNat_natCast] ; omega))
local macro_rules | `(tactic| walk_at "s") => `(tactic| first
  | (with_reducible refine i_seq ?_)
  | (with_reducible refine i_asg ?_)
  | ((with_reducible refine' i_var ?h1 ?_); (case h1 => rfl))
  | (with_reducible refine i_c ?_)
  | ((with_reducible refine' i_gname' ?h1 ?_); (case h1 => (simp only [List.set_cons_zero, List.set_cons_succ]; rfl)))
  | (with_reducible refine i_op ?_)
  | (with_reducible refine i_ifS ?_)
  | (with_reducible refine i_for ?_)
  | (with_reducible refine i_test ?_)
  | (with_reducible refine i_B ?_)
  | (with_reducible refine i_exbl ?_)
  | (with_reducible refine i_exint ?_)
  | (with_reducible refine i_cb ?_)
  | (with_reducible refine i_nil ?_)
  | (with_reducible refine i_cons ?_)
  | (with_reducible refine i_ret ?_)
  | (with_reducible refine i_sl ?_)
  | (with_reducible refine i_nopart ?_)
  | (with_reducible refine i_part ?_)
  | (with_reducible refine i_add_int ?_)
  | (with_reducible refine i_sub ?_)
  | (with_reducible refine i_lt ?_)
  | ((with_reducible refine' i_mod ?h1 ?_); (case h1 => walk_at "o"))
  | ((with_reducible refine' i_fdiv ?h1 ?_); (case h1 => (refine cdiv_small ?_ ?_ <;> walk_at "o")))
  | ((with_reducible refine' i_sl_to ?h1 ?h2 ?_); (case h1 => walk_at "o"); (case h2 => walk_at "o"))
  | ((with_reducible refine' i_sl_from ?h1 ?h2 ?_); (case h1 => walk_at "o"); (case h2 => walk_at "o"))
  | ((with_reducible refine' i_add_str ?h1 ?_); (case h1 => walk_at "o"))
  | ((with_reducible refine' i_mul_int ?h1 ?_); (case h1 => first | (refine mul_small ?_ ?_ <;> walk_at "o") | (refine mul_smallR ?_ ?_ <;> walk_at "o")))
  | (with_reducible refine i_le ?_)
  | (with_reducible refine i_gt ?_)
  | (with_reducible refine i_ge ?_)
  | (with_reducible refine i_eq_int ?_)
  | (with_reducible refine i_eq_str ?_)
  | (with_reducible refine i_ne_int ?_)
  | (with_reducible refine i_ne_str ?_)
  | (with_reducible refine i_eq_bl ?_)
  | (with_reducible refine i_ne_bl ?_)
  | (with_reducible refine i_in_sg ?_)
  | (with_reducible refine i_notIn_sg ?_)
  | (with_reducible refine i_call ?_)
  | (with_reducible refine i_callS ?_)
  | (with_reducible refine i_sp1 ?_)
  | (with_reducible refine i_sp2 ?_)
  | (with_reducible refine i_sp3 ?_)
  | (with_reducible refine i_sp4 ?_)
  | (with_reducible refine i_sp1' ?_)
  | (with_reducible refine i_sp2' ?_)
  | (with_reducible refine i_sp3' ?_)
  | ((with_reducible refine' i_ix_lst ?h1 ?h2 ?_); (case h1 => walk_at "sq"); (case h2 => first | exact atI_nat rfl | rfl))
  | ((with_reducible refine' i_ix_tup ?h1 ?h2 ?_); (case h1 => walk_at "st"); (case h2 => first | exact atI_nat rfl | rfl))
  | (with_reducible refine i_gsub ?_)
  | (with_reducible refine i_par ?_)
  | (with_reducible refine i_lstRg1 ?_)
  | (with_reducible refine i_app ?_)
  | (with_reducible refine i_par2 ?_)
  | ((with_reducible refine' i_aug ?h1 ?_); (case h1 => rfl))
  | (with_reducible refine i_ipI ?_)
  | ((with_reducible refine' i_gtup2 ?h1 ?_); (case h1 => walk_at "st"))
  | (with_reducible refine i_int_bl ?_)
  | (with_reducible refine i_raise ?_)
  | (with_reducible refine i_mkE ?_)
  | (with_reducible refine i_ex1 ?_)
  | (with_reducible refine i_and ?_)
  | (with_reducible refine i_or ?_)
  | (with_reducible refine i_not ?_)
  | (with_reducible refine i_tt ?_)
  | (with_reducible refine i_ff ?_)
  | (with_reducible refine i_nott ?_)
  | (with_reducible refine i_notf ?_)
  | (with_reducible refine i_andV ?_)
  | (with_reducible refine i_orV ?_)
  | (with_reducible refine i_notV ?_)
  | (with_reducible refine i_ifE ?_)
  | (with_reducible refine i_tup ?_)
  | (with_reducible refine i_lst ?_)
  | (with_reducible refine i_un ?_)
  | (with_reducible refine i_neg ?_)
  | (with_reducible refine i_chain ?_)
  | (with_reducible refine i_next ?_)
  | (with_reducible refine i_retN ?_)
  | (with_reducible refine i_drop ?_)
  | (with_reducible refine i_int_int ?_)
  | (with_reducible refine i_abs ?_)
  | (with_reducible refine i_m1c ?_)
  | (with_reducible refine i_is_non ?_)
  | (with_reducible refine i_is_int ?_)
  | (with_reducible refine i_is_bl ?_)
  | (with_reducible refine i_isn_bl ?_)
  | (with_reducible refine i_is_str ?_)
  | (with_reducible refine i_is_ref ?_)
  | (with_reducible refine i_isn_non ?_)
  | (with_reducible refine i_isn_int ?_)
  | (with_reducible refine i_isn_str ?_)
  | (with_reducible refine i_isn_ref ?_)
  | (with_reducible refine i_len_str ?h1 ?_; (case h1 => walk_at "o"))
  | (with_reducible refine i_callD ?_)
  | (with_reducible refine i_spD2 ?_)
  | (with_reducible refine i_spM1 ?_)
  | (with_reducible refine i_spM2 ?_)
  | (with_reducible refine i_spM3 ?_)
  | (with_reducible refine i_spM4 ?_)
  | (with_reducible refine i_spM3d ?_)
  | (with_reducible refine i_tfld ?_)
  | (with_reducible refine i_sfld ?_)
  | (with_reducible refine i_meth ?_)
  | (with_reducible refine i_make ?_)
  | (with_reducible refine i_spl ?_)
  | (with_reducible refine i_mkE2 ?_)
  | (with_reducible refine i_ex2 ?_)
  | (with_reducible refine i_dget ?_)
  | (with_reducible refine i_tru ?_)
  | (with_reducible refine i_dput ?_)
  | (with_reducible refine i_dnotin ?_)
  | (with_reducible refine i_din ?_)
  | (with_reducible refine i_rev ?_)
  | (with_reducible refine i_isi_int_int ?_) | (with_reducible refine i_isi_int_bool ?_) | (with_reducible refine i_isi_int_str ?_) | (with_reducible refine i_isi_int_tuple ?_) | (with_reducible refine i_isi_int_list ?_)
  | (with_reducible refine i_isi_bl_int ?_) | (with_reducible refine i_isi_bl_bool ?_) | (with_reducible refine i_isi_bl_str ?_) | (with_reducible refine i_isi_bl_tuple ?_) | (with_reducible refine i_isi_bl_list ?_)
  | (with_reducible refine i_isi_str_int ?_) | (with_reducible refine i_isi_str_bool ?_) | (with_reducible refine i_isi_str_str ?_) | (with_reducible refine i_isi_str_tuple ?_) | (with_reducible refine i_isi_str_list ?_)
  | (with_reducible refine i_isi_non_int ?_) | (with_reducible refine i_isi_non_bool ?_) | (with_reducible refine i_isi_non_str ?_) | (with_reducible refine i_isi_non_tuple ?_) | (with_reducible refine i_isi_non_list ?_))
local macro_rules | `(tactic| walk_at "go") => `(tactic| (repeat' (walk_at "s")))
local macro_rules | `(tactic| walk_at "n") => `(tactic| simp only [wipe, List.map_cons, List.map_nil, List.set_cons_zero, List.set_cons_succ])
structure Dd where
  a : Addr
  c : Addr
  ns : List Int
/-- H0: what is known besides -/
def Dr (K : PySem.W.Frag) (d : Dd) (H0 H : Hp) : Prop := Same H0 H ∧ H0 d.a = none ∧ SqL K H0 d.c (d.ns.map V.int) ∧ d.ns.length ≤ 100 ∧ ∃ p b u x s : Int, H d.a = some (.lst [.ref d.c, .int p, .int b, .int u, .int x, .int s]) ∧ 0 ≤ p
section
variable {K : PySem.W.Frag} {d : Dd} {H0 H H' H1 : Hp} {q : Addr} {o o' : HO}
theorem Dr.same (h : Dr K d H0 H) (s : Same H H') : Dr K d H0 H' := by
  obtain ⟨s0, n0, hc, hl, p, b, u, x, sd, ha, hp⟩ := h
  exact ⟨s0.trans s, n0, hc, hl, p, b, u, x, sd, s _ _ ha, hp⟩
theorem Dr.new (h : Dr K d H0 H) (n : H q = none) : Dr K d (upd H0 q o) (upd H q o) := by
  obtain ⟨s0, n0, hc, hl, p, b, u, x, sd, ha, hp⟩ := h
  have nq : d.a ≠ q := ne_of_none ha n
  have s1 : Same H0 (upd H0 q o) := same_upd (s0.free n)
  refine ⟨fun b' o' e => ?_, by rw [upd_ne nq]; exact n0, s1.seq hc, hl, p, b, u, x, sd, by rw [upd_ne nq]; exact ha, hp⟩
  by_cases hb : b' = q
  · rw [hb, upd_same] at e
    rw [hb, upd_same]; exact e
  · rw [upd_ne hb] at e
    rw [upd_ne hb]; exact s0 _ _ e
/-- an object that is known changes -/
theorem Dr.put (h : Dr K d (upd H0 q o) H) (hc : SqL K H0 d.c (d.ns.map V.int)) (n : H0 q = none) : Dr K d (upd H0 q o') (upd H q o') := by
  obtain ⟨s0, n0, _, hl, p, b, u, x, sd, ha, hp⟩ := h
  have nq : d.a ≠ q := fun z => by rw [z, upd_same] at n0; cases n0
  have s1 : Same H0 (upd H0 q o') := same_upd n
  rw [upd_ne nq] at n0
  refine ⟨fun b' o' e => ?_, by rw [upd_ne nq]; exact n0, s1.seq hc, hl, p, b, u, x, sd, by rw [upd_ne nq]; exact ha, hp⟩
  by_cases hb : b' = q
  · rw [hb, upd_same] at e
    rw [hb, upd_same]; exact e
  · rw [upd_ne hb] at e
    rw [upd_ne hb]; exact s0 _ _ (by rw [upd_ne hb]; exact e)
/-- more, or less, is known -/
theorem Dr.know (h : Dr K d H0 H) (s0 : Same H0 H1) (s1 : Same H1 H) (n : H1 d.a = none) : Dr K d H1 H := by
  obtain ⟨_, n0, hc, hl, p, b, u, x, sd, ha, hp⟩ := h
  exact ⟨s1, n, s0.seq hc, hl, p, b, u, x, sd, ha, hp⟩
theorem Dr.less (h : Dr K d (upd H0 q o) H) (hc : SqL K H0 d.c (d.ns.map V.int)) (n : H0 q = none) : Dr K d H0 H := by
  obtain ⟨s0, n0, _, hl, p, b, u, x, sd, ha, hp⟩ := h
  have nq : d.a ≠ q := fun z => by rw [z, upd_same] at n0; cases n0
  rw [upd_ne nq] at n0
  exact ⟨(same_upd n).trans s0, n0, hc, hl, p, b, u, x, sd, ha, hp⟩
theorem Dr.old (h : Dr K d H0 H) (e : H0 q = some o) : H q = some o := h.1 _ _ e
theorem Dr.cells (h : Dr K d H0 H) : SqL K H0 d.c (d.ns.map V.int) := h.2.2.1
theorem Dr.free (h : Dr K d H0 H) (n : H q = none) : H0 q = none := h.1.free n
/-- what a call that leaves all as it was hands back new -/
theorem Dr.got (h : Dr K d H0 H) (n : H q = none) (s : Same H H') (e : H' q = some o) : Dr K d (upd H0 q o) H' := by
  obtain ⟨s0, n0, hc, hl, p, b, u, x, sd, ha, hp⟩ := h
  have nq : d.a ≠ q := ne_of_none ha n
  have s1 : Same H0 (upd H0 q o) := same_upd (s0.free n)
  refine ⟨fun b' o' e' => ?_, by rw [upd_ne nq]; exact n0, s1.seq hc, hl, p, b, u, x, sd, s _ _ ha, hp⟩
  by_cases hb : b' = q
  · rw [hb, upd_same] at e'
    rw [hb, e]; exact e'
  · rw [upd_ne hb] at e'
    exact s _ _ (s0 _ _ e')
end
theorem range_getD (xs : List V) : (List.range xs.length).map (fun i => xs.getD i .non) = xs := by
  refine List.ext_getElem? fun i => ?_
  rw [List.getElem?_map]
  by_cases h : i < xs.length
  · rw [List.getElem?_range h, Option.map_some, List.getD_eq_getElem?_getD, List.getElem?_eq_getElem h]
    rfl
  · rw [List.getElem?_eq_none (by simpa using h), List.getElem?_eq_none (by omega)]
    rfl
def Btw (n many : Int) : Prop := 0 ≤ n ∧ (2 ≤ many → n < many) ∧ (many < 2 → n = 0)
section
variable {P : Program} {w : World} {K : PySem.W.Frag} {mg : Str → Option Value} {base : Heap} {C_GlimError C_BadRound C_BadText C_BadLine C_BadWay C_TooLong C_Lines C_NUMBERED : Addr}
def p_L_draw (K : PySem.W.Frag) : P1 := fun v H Q _ => ∃ (a0 : Addr) (ns : List Int), v = .ref a0 ∧ SqL K H a0 (ns.map V.int) ∧ ns.length ≤ 100 ∧ ∀ H0 d H', Same H H0 → Dr K d H0 H' → Q (.ref d.a) H'
theorem ok_L_draw (T : Txt K mg w C_GlimError C_BadRound C_BadText C_BadLine C_BadWay C_TooLong C_Lines C_NUMBERED) : OK P w K mg base CX0 1 "_law_draw" ["_law_script"] (sp1  (p_L_draw K)) := by
  refine OK.mk (k := 0) T.d_L_draw sc_L_draw len1 fun f cdv A outer s H vs Q E hr h => ?_
  obtain ⟨x, rfl, h⟩ := h
  refine ⟨_, (pss_cons (ps_setLc (i := 1) (own := [("_law_cell", 2)]) (g := gName 2) (tt := tYes) (by rfl) sc_L_draw.nd rfl rfl (sw_true rfl rfl rfl (by decide +kernel)) (piAny K (pv 0)) (blkOk_by (own := [("_law_cell", 2)]) (N := ["_law_script", "_law_cells", "_law_cell"]) (sc := (defScope s_L_draw)) (by decide +kernel)) (fun _ _ _ _ _ => (pg_name (i := 2) sc_L_draw.nd rfl (Or.inl rfl))) (fun _ _ _ _ _ => pts_nil) (fun _ _ _ _ _ => (pv 2))) (pss_one (ps_ret (pe_lst (pa_cons (pv 1) (pa_cons pe_int (pa_cons pe_int (pa_cons pe_int (pa_cons pe_int (pa_cons (pe_op (opAdd K) (pe_op op_modP (pe_callTy call_intP (by rfl) T.b_int (by decide +kernel) (pa_cons (pe_callB (cSum K rfl) (by rfl) T.b_sum (by decide +kernel) (pa_cons (pv 1) pa_nil)) pa_nil)) pe_int) (pe_op op_mulP pe_int (pe_callB (cLen K) (by rfl) T.b_len (by decide +kernel) (pa_cons (pv 1) pa_nil)))) pa_nil)))))))))), ?_⟩
  show (_ : TS) { nx := fun _ H' => Q .non H', rt := Q } [some x, none, none] H
  obtain ⟨a0, ns, rfl, hS, hl, q⟩ := h
  walk_at "go"
  refine c_lst (xs := ns.map V.int) (fun R k => by walk_at "go"; exact k) hS (by rw [List.length_map]; omega) (fun _ => true) (fun i => (ns.map V.int).getD i .non) (fun _ => rfl) (fun i v H2 hi s2 QB k => k H2 (Same.refl H2)) (fun i v H2 hi s2 _ QV k => ?_) (fun Dl H2 n2 s2 d2 => ?_)
  · show (_ : TE) [some (.ref a0), none, some v] H2 QV
    walk_at "go"
    have e : v = (ns.map V.int).getD i .non := by rw [List.getD_eq_getElem?_getD, hi]; rfl
    rw [e]
    exact k H2 (Same.refl H2)
  · rw [kept_all, range_getD] at d2
    walk_at "go"
    refine i_sum (ns := ns) (.inl (.inl d2)) ?_
    walk_at "go"
    refine i_len_lst (.inl (.inl d2)) ?_
    walk_at "go"
    refine i_new (by show 6 ≤ 100000; omega) fun a na => ?_
    walk_at "go"
    exact q H2 ⟨a, Dl, ns⟩ _ s2 ⟨same_upd na, na, .inl (.inl d2), hl, _, _, _, _, _, upd_same, Int.le_refl _⟩
def p_L_mix : P2 := fun x y H Q _ => ∃ a b : Int, x = .int a ∧ y = .int b ∧ ∀ r : Int, Q (.int r) H
theorem ok_L_mix (T : Txt K mg w C_GlimError C_BadRound C_BadText C_BadLine C_BadWay C_TooLong C_Lines C_NUMBERED) : OK P w K mg base CX0 1 "_law_mix" ["_law_cell", "_law_turn"] (sp2  p_L_mix) := by
  refine OK.mk (k := 0) T.d_L_mix sc_L_mix len2 fun f cdv A outer s H vs Q E hr h => ?_
  obtain ⟨x, y, rfl, h⟩ := h
  refine ⟨_, (pss_cons (ps_set (i := 2) sc_L_mix.nd rfl (Or.inl rfl) (pe_op op_modP (pe_callTy call_intP (by rfl) T.b_int (by decide +kernel) (pa_cons (pe_op (opAdd K) (pe_op (opAdd K) (pe_op op_mulP (pv 0) pe_int) (pe_op op_mulP (pv 1) pe_int)) pe_int) pa_nil)) pe_int)) (pss_cons (ps_set (i := 3) sc_L_mix.nd rfl (Or.inl rfl) (pe_op op_modP (pe_callTy call_intP (by rfl) T.b_int (by decide +kernel) (pa_cons (pe_op (opAdd K) (pe_op (opAdd K) (pe_op op_mulP (pv 2) (pv 2)) (pe_op op_mulP (pv 1) pe_int)) (pv 0)) pa_nil)) pe_int)) (pss_cons (ps_set (i := 3) sc_L_mix.nd rfl (Or.inl rfl) (pe_op op_modP (pe_callTy call_intP (by rfl) T.b_int (by decide +kernel) (pa_cons (pe_op (opAdd K) (pe_op op_mulP (pv 3) (pv 3)) (pv 2)) pa_nil)) pe_int)) (pss_one (ps_ret (pe_op op_fdivP (pv 3) pe_int)))))), ?_⟩
  show (_ : TS) { nx := fun _ H' => Q .non H', rt := Q } [some x, some y, none, none] H
  obtain ⟨c, t, rfl, rfl, q⟩ := h
  walk_at "go"
  have h1 : 0 ≤ (c * 48271 + t * 69621 + 12345) % 2147483647 := Int.emod_nonneg _ (by decide)
  have h2 : (c * 48271 + t * 69621 + 12345) % 2147483647 < 2147483647 := Int.emod_lt_of_pos _ (by decide)
  generalize (c * 48271 + t * 69621 + 12345) % 2147483647 = o at *
  walk_at "go"
  have h3 : 0 ≤ (o * o + t * 7919 + c) % 998244353 := Int.emod_nonneg _ (by decide)
  have h4 : (o * o + t * 7919 + c) % 998244353 < 998244353 := Int.emod_lt_of_pos _ (by decide)
  generalize (o * o + t * 7919 + c) % 998244353 = o2 at *
  walk_at "go"
  exact q _
/-- a number from 0 to less than so many; the draws go on -/
def p_L_pick (K : PySem.W.Frag) : P2 := fun x y H Q _ => ∃ (H0 : Hp) (d : Dd) (many : Int), x = .ref d.a ∧ y = .int many ∧ Dr K d H0 H ∧ many ≤ 10000000000000000000000000000000000000000 ∧ ∀ (n : Int) H', Dr K d H0 H' → Btw n many → Q (.int n) H'
theorem wide_many {b many : Int} (h : 0 < many) (h2 : many ≤ 10000000000000000000000000000000000000000) : CDivW b many := by
  refine wide_div (b := 140) h ?_ (by decide) (by decide)
  have e : (2 : Nat) ^ 140 = 1393796574908163946345982392040522594123776 := by decide +kernel
  rw [e]
  omega
theorem ok_L_pick (T : Txt K mg w C_GlimError C_BadRound C_BadText C_BadLine C_BadWay C_TooLong C_Lines C_NUMBERED) : OK P w K mg base CX0 2 "_law_pick" ["_law_draw_here", "_law_many"] (sp2  (p_L_pick K)) := by
  refine OK.mk (k := 1) T.d_L_pick sc_L_pick len2 fun f cdv A outer s H vs Q E hr h => ?_
  obtain ⟨x, y, rfl, h⟩ := h
  refine ⟨_, (pss_cons (ps_if (pt_cmpR op_ltP (pv 1) pe_int (nomark _)) (pss_one (ps_ret pe_int)) pss_nil) (Evl.pss_cut (ps_if (pw_and (pt_cmpR (opEq K hr.units) (pe_ix (ixK K) (pv 0) pe_int (fun _ _ => rfl)) pe_int (nomark _)) (pw_and (pt_cmpR op_ltP (pe_ix (ixK K) (pv 0) pe_int (fun _ _ => rfl)) (pe_callB (cLen K) (by rfl) T.b_len (by decide +kernel) (pa_cons (pe_ix (ixK K) (pv 0) pe_int (fun _ _ => rfl)) pa_nil)) (nomark _)) (pw_and1 (pt_cmpR (opEq K hr.units) (pe_ix (ixK K) (pv 0) pe_int (fun _ _ => rfl)) pe_int (nomark _))))).pt (pss_cons (ps_set (i := 2) sc_L_pick.nd rfl (Or.inl rfl) (pe_ix (ixK K) (pe_ix (ixK K) (pv 0) pe_int (fun _ _ => rfl)) (pe_ix (ixK K) (pv 0) pe_int (fun _ _ => rfl)) (fun _ _ => rfl))) (pss_one (ps_if (pw_or (pt_cmpR op_geP (pv 2) (pe_op op_powP pe_int pe_int) (nomark _)) (pw_or1 (pt_cmpR op_leP (pv 2) (pe_un un_neg (pe_op op_powP pe_int pe_int)) (nomark _)))).pt (pss_cons (ps_asg (pe_op op_modP (pe_callTy call_intP (by rfl) T.b_int (by decide +kernel) (pa_cons (pe_callB call_absP (by rfl) T.b_abs (by decide +kernel) (pa_cons (pv 2) pa_nil)) pa_nil)) (pe_op op_powP (pe_op op_powP pe_int pe_int) pe_int)) (pg_sub (pv 0) pe_int set_list)) (pss_one (ps_asg (pe_op (opAdd K) (pe_ix (ixK K) (pv 0) pe_int (fun _ _ => rfl)) pe_int) (pg_sub (pv 0) pe_int set_list)))) pss_nil))) pss_nil) (pss_cons (ps_if (pt_cmpR op_gtP (pe_ix (ixK K) (pv 0) pe_int (fun _ _ => rfl)) pe_int (nomark _)) (pss_cons (ps_set (i := 3) sc_L_pick.nd rfl (Or.inl rfl) (pe_op op_modP (pe_callTy call_intP (by rfl) T.b_int (by decide +kernel) (pa_cons (pe_ix (ixK K) (pv 0) pe_int (fun _ _ => rfl)) pa_nil)) (pv 1))) (pss_cons (ps_asg (pe_op op_fdivP (pe_ix (ixK K) (pv 0) pe_int (fun _ _ => rfl)) (pv 1)) (pg_sub (pv 0) pe_int set_list)) (pss_one (ps_ret (pv 3))))) pss_nil) (pss_cons (ps_if (pt_cmpR op_ltP (pe_ix (ixK K) (pv 0) pe_int (fun _ _ => rfl)) (pe_callB (cLen K) (by rfl) T.b_len (by decide +kernel) (pa_cons (pe_ix (ixK K) (pv 0) pe_int (fun _ _ => rfl)) pa_nil)) (nomark _)) (pss_cons (ps_set (i := 2) sc_L_pick.nd rfl (Or.inl rfl) (pe_ix (ixK K) (pe_ix (ixK K) (pv 0) pe_int (fun _ _ => rfl)) (pe_ix (ixK K) (pv 0) pe_int (fun _ _ => rfl)) (fun _ _ => rfl))) (pss_cons (ps_asg (pe_op (opAdd K) (pe_ix (ixK K) (pv 0) pe_int (fun _ _ => rfl)) pe_int) (pg_sub (pv 0) pe_int set_list)) (pss_cons (ps_set (i := 4) sc_L_pick.nd rfl (Or.inl rfl) (pe_op op_modP (pe_callTy call_intP (by rfl) T.b_int (by decide +kernel) (pa_cons (pe_f (ok_L_mix (K := K) T) (hr.mono (by decide)) pass0 (pa_cons (pe_op (opAdd K) (pv 2) (pe_op op_mulP pe_int (pe_ix (ixK K) (pv 0) pe_int (fun _ _ => rfl)))) (pa_cons (pe_ix (ixK K) (pv 0) pe_int (fun _ _ => rfl)) pa_nil))) pa_nil)) (pv 1))) (Evl.pss_cut (ps_if (pt_cmpR (opEq K hr.units) (pe_ix (ixK K) (pv 0) pe_int (fun _ _ => rfl)) pe_int (nomark _)) (pss_cons (ps_asg pe_int (pg_sub (pv 0) pe_int set_list)) (pss_one (ps_asg (pe_op (opAdd K) (pe_ix (ixK K) (pv 0) pe_int (fun _ _ => rfl)) pe_int) (pg_sub (pv 0) pe_int set_list)))) pss_nil) (pss_one (ps_ret (pv 4))))))) pss_nil) (pss_cons (ps_asg (pe_op (opAdd K) (pe_ix (ixK K) (pv 0) pe_int (fun _ _ => rfl)) pe_int) (pg_sub (pv 0) pe_int set_list)) (pss_one (ps_ret (pe_op op_modP (pe_callTy call_intP (by rfl) T.b_int (by decide +kernel) (pa_cons (pe_f (ok_L_mix (K := K) T) (hr.mono (by decide)) pass0 (pa_cons (pe_ix (ixK K) (pv 0) pe_int (fun _ _ => rfl)) (pa_cons (pe_op (opAdd K) (pe_ix (ixK K) (pv 0) pe_int (fun _ _ => rfl)) pe_int) pa_nil))) pa_nil)) (pv 1))))))))), ?_⟩
  show (_ : TS) { nx := fun _ H' => Q .non H', rt := Q } [some x, some y, none, none, none] H
  obtain ⟨H0, d, many, rfl, rfl, dr, hmax, q⟩ := h
  walk_at "go"
  refine i_dec (fun e => ?_) (fun e => ?_)
  · walk_at "go"
    exact q 0 H dr ⟨Int.le_refl _, fun z => by omega, fun _ => rfl⟩
  walk_at "go"
  have hpos : 0 < many := by omega
  -- a great cell is taken up
  refine i_cut (fun σ H' => ∃ v2 v3 v4, σ = [some (.ref d.a), some (.int many), v2, v3, v4] ∧ Dr K d H0 H') ?_ ?_
  · obtain ⟨a, c, ns⟩ := d
    obtain ⟨s0, n0, hC, hl, p, b, u, x, sd, hA, hp⟩ := id dr
    dsimp only at *
    have hC' : SqL K H c (ns.map V.int) := s0.seq hC
    have skip : ∃ v2 v3 v4, ([some (.ref a), some (.int many), none, none, none] : L2.St) = [some (.ref a), some (.int many), v2, v3, v4] ∧ Dr K ⟨a, c, ns⟩ H0 H := ⟨_, _, _, rfl, dr⟩
    walk_at "go"
    refine i_dec (fun e1 => ?_) (fun e1 => skip)
    walk_at "go"
    refine i_len_lst hC' ?_
    walk_at "go"
    refine i_dec (fun e2 => ?_) (fun e2 => skip)
    walk_at "go"
    refine i_dec (fun e3 => ?_) (fun e3 => skip)
    walk_at "go"
    rw [List.length_map] at e2
    have hpl : p.toNat < ns.length := by omega
    refine i_ix_lst (v := .int ns[p.toNat]) hC' (atI_int hp (by rw [List.getElem?_map, List.getElem?_eq_getElem hpl]; rfl)) ?_
    walk_at "go"
    refine i_pow (by decide +kernel) ?_
    walk_at "go"
    have fin : ∃ v2 v3 v4, ([some (.ref a), some (.int many), some (.int ns[p.toNat]), none, none] : L2.St) = [some (.ref a), some (.int many), v2, v3, v4] ∧ Dr K ⟨a, c, ns⟩ H0 H := ⟨_, _, _, rfl, dr⟩
    refine i_dec (fun e4 => ?_) (fun e4 => ?_)
    case' refine_2 =>
      walk_at "go"
      refine i_pow (by decide +kernel) ?_
      walk_at "go"
      refine i_dec (fun e5 => ?_) (fun e5 => fin)
    all_goals
      walk_at "go"
      refine i_pow (by decide +kernel) ?_
      walk_at "go"
      refine i_pow (by decide +kernel) ?_
      walk_at "go"
      refine i_mod (by decide +kernel) ?_
      walk_at "go"
      refine i_setL 2 hA rfl rfl ?_
      walk_at "go"
      refine i_setL 1 upd_same rfl rfl ?_
      walk_at "go"
      rw [upd_upd]
      exact ⟨_, _, _, rfl, Same.upd s0 n0, n0, hC, hl, _, _, _, _, _, upd_same, by omega⟩
  · rintro σ H1 ⟨v2, v3, v4, rfl, d1⟩
    obtain ⟨a, c, ns⟩ := d
    obtain ⟨s0, n0, hC, hl, p, b, u, x, sd, hA, hp⟩ := id d1
    dsimp only at *
    have hC' : SqL K H1 c (ns.map V.int) := s0.seq hC
    have put : ∀ {p' b' u' x' s' : Int}, 0 ≤ p' → Dr K ⟨a, c, ns⟩ H0 (upd H1 a (.lst [.ref c, .int p', .int b', .int u', .int x', .int s'])) := fun h => ⟨Same.upd s0 n0, n0, hC, hl, _, _, _, _, _, upd_same, h⟩
    have btw : ∀ r : Int, Btw (r % many) many := fun r => ⟨Int.emod_nonneg _ (by omega), fun _ => Int.emod_lt_of_pos _ hpos, fun z => by omega⟩
    walk_at "go"
    refine i_dec (fun e1 => ?_) (fun e1 => ?_)
    · -- a digit of the great one
      walk_at "go"
      refine i_fdiv (wide_many hpos hmax) ?_
      walk_at "go"
      refine i_setL 2 hA rfl rfl ?_
      walk_at "go"
      exact q _ _ (put hp) (btw _)
    walk_at "go"
    refine i_len_lst hC' ?_
    walk_at "go"
    rw [List.length_map]
    refine i_dec (fun e2 => ?_) (fun e2 => ?_)
    · have hpl : p.toNat < ns.length := by omega
      walk_at "go"
      refine i_ix_lst (v := .int ns[p.toNat]) hC' (atI_int hp (by rw [List.getElem?_map, List.getElem?_eq_getElem hpl]; rfl)) ?_
      walk_at "go"
      refine i_setL 3 hA rfl rfl ?_
      walk_at "go"
      refine ⟨_, _, rfl, rfl, fun r => ?_⟩
      walk_at "go"
      refine i_cut (fun σ H' => ∃ v3, σ = [some (.ref a), some (.int many), some (.int ns[p.toNat]), v3, some (.int (r % many))] ∧ Dr K ⟨a, c, ns⟩ H0 H') ?_ ?_
      · walk_at "go"
        refine i_dec (fun e3 => ?_) (fun e3 => ⟨_, rfl, put hp⟩)
        walk_at "go"
        refine i_setL 3 upd_same rfl rfl ?_
        walk_at "go"
        refine i_setL 1 upd_same rfl rfl ?_
        walk_at "go"
        rw [upd_upd, upd_upd]
        exact ⟨_, rfl, put (by omega)⟩
      · rintro σ H2 ⟨v3, rfl, d2⟩
        walk_at "go"
        exact q _ _ d2 (btw _)
    · walk_at "go"
      refine i_setL 4 hA rfl rfl ?_
      walk_at "go"
      refine ⟨_, _, rfl, rfl, fun r => ?_⟩
      walk_at "go"
      exact q _ _ (put hp) (btw _)
end
def isIn : PyData → Int → Int → Bool
  | .int i, lo, hi => decide (lo ≤ i) && decide (i ≤ hi)
  | _, _, _ => false
theorem isIn_int (i lo hi : Int) : isIn (.int i) lo hi = (decide (lo ≤ i) && decide (i ≤ hi)) := rfl
section
variable {P : Program} {w : World} {K : PySem.W.Frag} {mg : Str → Option Value} {base : Heap} {C_GlimError C_BadRound C_BadText C_BadLine C_BadWay C_TooLong C_Lines C_NUMBERED : Addr}
def p_is_integer : P3 := fun x y z H Q _ => ∃ d lo hi, At H x d ∧ y = .int lo ∧ z = .int hi ∧ Q (.bl (isIn d lo hi)) H
theorem ok_is_integer (T : Txt K mg w C_GlimError C_BadRound C_BadText C_BadLine C_BadWay C_TooLong C_Lines C_NUMBERED) : OK P w K mg base CX0 1 "is_integer" ["thing", "low", "high"] (sp3  p_is_integer) := by
  refine OK.mk (k := 0) T.d_is_integer sc_is_integer len3 fun f cdv A outer s H vs Q E hr h => ?_
  obtain ⟨x, y, z, rfl, h⟩ := h
  refine ⟨_, (pss_cons (ps_if (pw_or (pt_val (pe_callB (cIsi K) (by rfl) T.b_isinstance (by decide +kernel) (pa_cons (pv 0) (pa_cons (pe_bltn (v := .ty "bool") (by rfl) T.b_bool (by decide +kernel) rfl) pa_nil)))) (pw_or1 (pt_not (pt_val (pe_callB (cIsi K) (by rfl) T.b_isinstance (by decide +kernel) (pa_cons (pv 0) (pa_cons (pe_bltn (v := .ty "int") (by rfl) T.b_int (by decide +kernel) rfl) pa_nil))))))).pt (pss_one (ps_ret pe_bl)) pss_nil) (pss_one (ps_ret (pe_chain op_leP op_leP (pv 1) (pv 0) (pv 2))))), ?_⟩
  show (_ : TS) { nx := fun _ H' => Q .non H', rt := Q } [some x, some y, some z] H
  obtain ⟨d, lo, hi, hx, rfl, rfl, q⟩ := h
  cases d
  case int i =>
    obtain rfl := hx.intd
    rw [isIn_int] at q
    walk_at "go"
    refine i_dec (fun e => ?_) (fun e => ?_)
    · walk_at "go"
      rw [decide_eq_true e, Bool.true_and] at q
      exact q
    · rw [decide_eq_false e, Bool.false_and] at q
      exact q
  case bool b =>
    walk_at "go"
    refine i_isiBool true hx rfl ?_
    walk_at "go"
    exact q
  all_goals
    walk_at "go"
    refine i_isiBool false hx rfl ?_
    walk_at "go"
    refine i_isiInt false hx rfl ?_
    walk_at "go"
    exact q
def p_deepN (n : Nat) : P2 := fun x y H Q _ => ∃ A d z, Same A H ∧ At A x d ∧ y = .int z ∧ 0 ≤ z ∧ z + n ≤ 65 ∧ d.depth < n ∧ ∀ A' H' v, Ext A H A' H' → At A' v (deepD d) → Q v H'
theorem deep_n (T : Txt K mg w C_GlimError C_BadRound C_BadText C_BadLine C_BadWay C_TooLong C_Lines C_NUMBERED) (n : Nat) (R : OK P w K mg base CX0 n "deep" ["thing", "level"] (sp2 (p_deepN n))) : OKD P w K mg base CX0 (n + 1) "deep" ["thing", "level"] [.int 0] (sp2 (p_deepN (n + 1))) := by
  refine OKD.mk (k := n) T.d_deep sc_deep len2 fun f cdv A outer s H vs Q E hr h => ?_
  obtain ⟨x, y, rfl, h⟩ := h
  refine ⟨_, (pss_cons (ps_if (pw_and (pt_val (pe_callB (cIsiT K) (by rfl) T.b_isinstance (by decide +kernel) (pa_cons (pv 0) (pa_cons (pe_tup (pa_cons (pe_bltn (v := .ty "list") (by rfl) T.b_list (by decide +kernel) rfl) (pa_cons (pe_bltn (v := .ty "tuple") (by rfl) T.b_tuple (by decide +kernel) rfl) pa_nil))) pa_nil)))) (pw_and1 (pt_cmpR op_ltP (pv 1) (pe_gI (70) T.g_MOST_LEVELS) (nomark _)))).pt (pss_one (ps_ret (pe_callTy (cTup K) (by rfl) T.b_tuple (by decide +kernel) (pa_cons (pe_lc (own := [("part", 2)]) (g := gName 2) (tt := tYes) (by rfl) sc_deep.nd (piAny K (pv 0)) (blkOk_by (own := [("part", 2)]) (N := ["thing", "level", "part"]) (sc := (defScope s_deep)) (by decide +kernel)) (fun _ _ _ _ _ => (pg_name (i := 2) sc_deep.nd rfl (Or.inl rfl))) (fun _ _ _ _ _ => pts_nil) (fun _ _ _ _ _ => (pe_f R (hr.mono (by omega)) pass0 (pa_cons (pv 2) (pa_cons (pe_op (opAdd K) (pv 1) pe_int) pa_nil))))) pa_nil)))) pss_nil) (pss_one (ps_ret (pv 0)))), ?_⟩
  show (_ : TS) { nx := fun _ H' => Q .non H', rt := Q } [some x, some y, none] H
  obtain ⟨A, d, z, sa, hx, rfl, z0, zn, dd, q⟩ := h
  walk_at "go"
  refine i_new (by show 2 ≤ 100000; omega) fun tp ntp => ?_
  have x1 := (Ext.refl sa).hid (o := .tup [.ty "list", .ty "tuple"]) ntp
  walk_at "go"
  cases d
  case list ds =>
    obtain ⟨a, xs, rfl, hH, hl, al⟩ := hx.listed
    have e1 : deepD (.list ds) = .tuple (ds.map deepD) := by rw [← deepDs_map]; rfl
    have d1 : PyData.depthAll ds + 1 < n + 1 := dd
    rw [e1] at q
    refine i_isiSeq true (x1.up hx) upd_same rfl ?_
    walk_at "go"
    rw [decide_eq_true (show z < 70 by omega)]
    walk_at "go"
    refine Fg.c_lstD x1.ag (fun R k => by walk_at "go"; exact k) (.inl (.inl (x1.ag _ _ hH))) al hl deepD (fun _ => rfl) (fun y d A1 G1 hd hy y1 QV k => ?_) (fun Dl A1 G1 l y1 e ea al2 ll => ?_)
    · show (_ : TE) [some (.ref a), some (.int z), some y] G1 QV
      have d2 := depth_mem hd
      walk_at "go"
      exact ⟨A1, d, z + 1, y1.ag, hy, rfl, by omega, by omega, by omega, k⟩
    · walk_at "go"
      refine i_tuple_lst (.inl (.inl e)) fun tl ntl => ?_
      have na : A1 tl = none := y1.ag.free ntl
      have hds := al.len
      exact q _ _ _ ((x1.trans y1).new ntl) (At.mkTup upd_same (al2.same (same_upd na)) (by rw [List.length_map]; omega))
  case tuple ds =>
    obtain ⟨a, xs, rfl, hH, hl, al⟩ := hx.tupled
    have e1 : deepD (.tuple ds) = .tuple (ds.map deepD) := by rw [← deepDs_map]; rfl
    have d1 : PyData.depthAll ds + 1 < n + 1 := dd
    rw [e1] at q
    refine i_isiSeq true (x1.up hx) upd_same rfl ?_
    walk_at "go"
    rw [decide_eq_true (show z < 70 by omega)]
    walk_at "go"
    refine c_tupD x1.ag (fun R k => by walk_at "go"; exact k) (.inl (.inl (x1.ag _ _ hH))) al hl deepD (fun _ => rfl) (fun y d A1 G1 hd hy y1 QV k => ?_) (fun Dl A1 G1 l y1 e ea al2 ll => ?_)
    · show (_ : TE) [some (.ref a), some (.int z), some y] G1 QV
      have d2 := depth_mem hd
      walk_at "go"
      exact ⟨A1, d, z + 1, y1.ag, hy, rfl, by omega, by omega, by omega, k⟩
    · walk_at "go"
      refine i_tuple_lst (.inl (.inl e)) fun tl ntl => ?_
      have na : A1 tl = none := y1.ag.free ntl
      have hds := al.len
      exact q _ _ _ ((x1.trans y1).new ntl) (At.mkTup upd_same (al2.same (same_upd na)) (by rw [List.length_map]; omega))
  all_goals
    refine i_isiSeq false (x1.up hx) upd_same rfl ?_
    walk_at "go"
    exact q _ _ _ x1 hx
theorem deep_all (T : Txt K mg w C_GlimError C_BadRound C_BadText C_BadLine C_BadWay C_TooLong C_Lines C_NUMBERED) : ∀ n, OK P w K mg base CX0 n "deep" ["thing", "level"] (sp2 (p_deepN n))
  | 0 => OK.weak (OK.never T.d_deep) fun vs H Q E h => by
    obtain ⟨_, _, _, _, _, _, _, _, _, _, z, _⟩ := h
    omega
  | n + 1 => (deep_n T n (deep_all T n)).full
theorem ok_deep (T : Txt K mg w C_GlimError C_BadRound C_BadText C_BadLine C_BadWay C_TooLong C_Lines C_NUMBERED) : OKD P w K mg base CX0 6 "deep" ["thing", "level"] [.int 0] (sp2 (p_deepN 6)) := deep_n T 5 (deep_all T 5)
end
def firstBad (l : List Nat) : Option Nat := l.findIdx? fun c => !decide (c ∈ SG)
def oV : Option Nat → V
  | some n => .int (n : Int)
  | none => .non
theorem firstBad_none {l : List Nat} (h : ∀ c ∈ l, c ∈ SG) : firstBad l = none := by
  unfold firstBad
  rw [List.findIdx?_eq_none_iff]
  intro x hx
  simp [h x hx]
theorem firstBad_some {l : List Nat} {n c : Nat} (h : l[n]? = some c) (hc : c ∉ SG) (hb : ∀ k < n, ∀ c, l[k]? = some c → c ∈ SG) : firstBad l = some n := by
  unfold firstBad
  rw [List.findIdx?_eq_some_iff_getElem]
  obtain ⟨hp, e⟩ := List.getElem?_eq_some_iff.mp h
  refine ⟨hp, by simp [e, hc], fun j hj => ?_⟩
  have := hb j hj (l[j]) (List.getElem?_eq_getElem (by omega))
  simp [this]
def rowL (m : Int) (l : List Nat) : Bool := decide ((l.length : Int) ≤ m) && (firstBad l).isNone
def isRowD (m : Int) : PyData → Bool
  | .str x => rowL m x.cps.toList
  | _ => false
def rndB (l : List Nat) : Bool := decide (l.length ≤ 24) && ((firstBad l).isNone && decide (1 ≤ l.length))
def rndD : PyData → Bool
  | .str x => rndB x.cps.toList
  | _ => false
section
variable {P : Program} {w : World} {K : PySem.W.Frag} {mg : Str → Option Value} {base : Heap} {C_GlimError C_BadRound C_BadText C_BadLine C_BadWay C_TooLong C_Lines C_NUMBERED : Addr}
def p_wrong_sign : P1 := fun x H Q _ => ∃ l, x = S l ∧ l.length ≤ 10000 ∧ ∀ H', Same H H' → Q (oV (firstBad l)) H'
theorem ok_wrong_sign (T : Txt K mg w C_GlimError C_BadRound C_BadText C_BadLine C_BadWay C_TooLong C_Lines C_NUMBERED) : OK P w K mg base CX0 1 "wrong_sign" ["row"] (sp1  p_wrong_sign) := by
  refine OK.mk (k := 0) T.d_wrong_sign sc_wrong_sign len1 fun f cdv A outer s H vs Q E hr h => ?_
  obtain ⟨x, rfl, h⟩ := h
  refine ⟨_, (pss_cons (ps_for PassesOwn.never rfl (piEnum K rfl T.b_enumerate (pa_cons (pv 0) pa_nil)) (pgTup (n := 2) K rfl (pgs_cons (pg_name (i := 1) sc_wrong_sign.nd rfl (Or.inl rfl)) (pgs_cons (pg_name (i := 2) sc_wrong_sign.nd rfl (Or.inl rfl)) pgs_nil))) (pss_one (ps_if (pt_cmpR (opNotIn K) (pv 2) (pe_gS [46, 103, 114, 119] T.g_SIGNS) (by with_unfolding_all rfl)) (pss_one (ps_ret (pv 1))) pss_nil))) (pss_one (ps_ret pe_non))), ?_⟩
  show (_ : TS) { nx := fun _ H' => Q .non H', rt := Q } [some x, none, none] H
  obtain ⟨l, rfl, h1, q⟩ := h
  walk_at "go"
  refine f_enumS (z := l) (fun R k => by walk_at "go"; exact k) (fun i σ H' => ∃ v1 v2, σ = [some (S l), v1, v2] ∧ Same H H' ∧ ∀ k < i, ∀ c, l[k]? = some c → c ∈ SG) ⟨none, none, rfl, Same.refl H, by omega⟩ ?_ ?_
  · rintro i c σ H' Tt hc ⟨v1, v2, rfl, s1, hb⟩ nT
    show (_ : TS) _ [some (S l), some (.int (i : Int)), some (S [c])] _
    walk_at "go"
    refine i_decN (fun e => ?_) (fun e => ?_)
    · walk_at "go"
      have := q _ (s1.trans (same_upd (o := .tup [.int (i : Int), S [c]]) nT))
      rw [firstBad_some hc e hb] at this
      exact this
    · walk_at "go"
      refine ⟨_, _, rfl, s1.trans (same_upd nT), fun k hk c' hc' => ?_⟩
      by_cases e' : k < i
      · exact hb k e' c' hc'
      · have : k = i := by omega
        subst this
        rw [hc] at hc'
        cases hc'
        exact e
  · rintro σ H' ⟨v1, v2, rfl, s1, hb⟩
    walk_at "go"
    have := q _ s1
    rw [firstBad_none fun c hc => by
      obtain ⟨k, hk⟩ := List.getElem?_of_mem hc
      exact hb k (List.getElem?_eq_some_iff.mp hk).1 c hk] at this
    exact this
def p_is_row : P2 := fun x y H Q _ => ∃ d m, At H x d ∧ y = .int m ∧ ∀ H', Same H H' → Q (.bl (isRowD m d)) H'
theorem ok_is_row (T : Txt K mg w C_GlimError C_BadRound C_BadText C_BadLine C_BadWay C_TooLong C_Lines C_NUMBERED) : OK P w K mg base CX0 2 "is_row" ["thing", "most"] (sp2  p_is_row) := by
  refine OK.mk (k := 1) T.d_is_row sc_is_row len2 fun f cdv A outer s H vs Q E hr h => ?_
  obtain ⟨x, y, rfl, h⟩ := h
  refine ⟨_, (pss_one (ps_ret (pe_and (pe_callB (cIsi K) (by rfl) T.b_isinstance (by decide +kernel) (pa_cons (pv 0) (pa_cons (pe_bltn (v := .ty "str") (by rfl) T.b_str (by decide +kernel) rfl) pa_nil))) (pe_and (pe_cmpR op_leP (pe_callB (cLen K) (by rfl) T.b_len (by decide +kernel) (pa_cons (pv 0) pa_nil)) (pv 1) (nomark _)) (pe_one (pe_cmpR op_isP (pe_f (ok_wrong_sign (K := K) T) (hr.mono (by decide)) pass0 (pa_cons (pv 0) pa_nil)) pe_non (nomark _))))))), ?_⟩
  show (_ : TS) { nx := fun _ H' => Q .non H', rt := Q } [some x, some y] H
  obtain ⟨d, m, hx, rfl, q⟩ := h
  walk_at "go"
  cases d
  case str z =>
    obtain ⟨l, rfl, rfl, hl⟩ := hx.strl
    change ∀ H', Same H H' → Q (.bl (rowL m l)) H' at q
    unfold rowL at q
    walk_at "go"
    refine i_dec (fun e => ?_) (fun e => ?_)
    · rw [decide_eq_true e, Bool.true_and] at q
      walk_at "go"
      refine ⟨l, rfl, hl, fun H1 s1 => ?_⟩
      have := q H1 s1
      cases e1 : firstBad l with
      | none =>
        rw [e1] at this
        rw [show oV none = V.non from rfl]
        walk_at "go"
        exact this
      | some n =>
        rw [e1] at this
        rw [show oV (some n) = V.int (n : Int) from rfl]
        walk_at "go"
        exact this
    · rw [decide_eq_false e, Bool.false_and] at q
      exact q H (Same.refl H)
  all_goals
    walk_at "go"
    refine i_isiStr false hx rfl ?_
    walk_at "go"
    exact q H (Same.refl H)
def isGl : PyData → Bool
  | .str x => rowL 4 x.cps.toList && decide (x.cps.toList.length = 4)
  | _ => false
def p_is_glass : P1 := fun x H Q _ => ∃ d, At H x d ∧ ∀ H', Same H H' → Q (.bl (isGl d)) H'
theorem ok_is_glass (T : Txt K mg w C_GlimError C_BadRound C_BadText C_BadLine C_BadWay C_TooLong C_Lines C_NUMBERED) : OK P w K mg base CX0 3 "is_glass" ["thing"] (sp1  p_is_glass) := by
  refine OK.mk (k := 2) T.d_is_glass sc_is_glass len1 fun f cdv A outer s H vs Q E hr h => ?_
  obtain ⟨x, rfl, h⟩ := h
  refine ⟨_, (pss_one (ps_ret (pe_and (pe_f (ok_is_row (K := K) T) (hr.mono (by decide)) pass0 (pa_cons (pv 0) (pa_cons pe_int pa_nil))) (pe_one (pe_cmpR (opEq K hr.units) (pe_callB (cLen K) (by rfl) T.b_len (by decide +kernel) (pa_cons (pv 0) pa_nil)) pe_int (nomark _)))))), ?_⟩
  show (_ : TS) { nx := fun _ H' => Q .non H', rt := Q } [some x] H
  obtain ⟨d, hx, q⟩ := h
  walk_at "go"
  refine ⟨d, 4, hx, rfl, fun H1 s1 => ?_⟩
  refine ⟨_, rfl, ?_⟩
  have q := q H1 s1
  cases d
  case str z =>
    obtain ⟨l, rfl, rfl, hl⟩ := hx.strl
    change Q (.bl (rowL 4 l && decide (l.length = 4))) H1 at q
    rw [show isRowD 4 (dS l) = rowL 4 l from rfl]
    cases e : rowL 4 l with
    | false =>
      rw [e, Bool.false_and] at q
      exact q
    | true =>
      rw [e, Bool.true_and] at q
      walk_at "go"
      rw [show decide ((l.length : Int) = 4) = decide (l.length = 4) by rw [Bool.eq_iff_iff, decide_eq_true_eq, decide_eq_true_eq]; omega]
      exact q
  all_goals exact q
def p_is_round : P1 := fun x H Q _ => ∃ d, At H x d ∧ ∀ H', Same H H' → Q (.bl (rndD d)) H'
theorem ok_is_round (T : Txt K mg w C_GlimError C_BadRound C_BadText C_BadLine C_BadWay C_TooLong C_Lines C_NUMBERED) : OK P w K mg base CX0 3 "is_round" ["thing"] (sp1  p_is_round) := by
  refine OK.mk (k := 2) T.d_is_round sc_is_round len1 fun f cdv A outer s H vs Q E hr h => ?_
  obtain ⟨x, rfl, h⟩ := h
  refine ⟨_, (pss_one (ps_ret (pe_and (pe_f (ok_is_row (K := K) T) (hr.mono (by decide)) pass0 (pa_cons (pv 0) (pa_cons (pe_gI (24) T.g_MOST_ROUND) pa_nil))) (pe_one (pe_cmpR op_gtP (pe_callB (cLen K) (by rfl) T.b_len (by decide +kernel) (pa_cons (pv 0) pa_nil)) pe_int (nomark _)))))), ?_⟩
  show (_ : TS) { nx := fun _ H' => Q .non H', rt := Q } [some x] H
  obtain ⟨d, hx, q⟩ := h
  walk_at "go"
  refine ⟨d, 24, hx, rfl, fun H1 s1 => ?_⟩
  refine ⟨_, rfl, ?_⟩
  have q := q H1 s1
  cases d
  case str z =>
    obtain ⟨l, rfl, rfl, hl⟩ := hx.strl
    change Q (.bl (rndB l)) H1 at q
    have e : isRowD 24 (dS l) = (decide (l.length ≤ 24) && (firstBad l).isNone) := by
      show (decide ((l.length : Int) ≤ 24) && (firstBad l).isNone) = _
      congr 1
      rw [Bool.eq_iff_iff, decide_eq_true_eq, decide_eq_true_eq]
      omega
    unfold rndB at q
    cases e1 : isRowD 24 (dS l) with
    | false =>
      rw [e] at e1
      rw [← Bool.and_assoc, e1, Bool.false_and] at q
      walk_at "go"
      exact q
    | true =>
      rw [e] at e1
      rw [← Bool.and_assoc, e1, Bool.true_and] at q
      walk_at "go"
      rw [show decide (1 ≤ l.length) = decide ((0 : Int) < l.length) by rw [Bool.eq_iff_iff, decide_eq_true_eq, decide_eq_true_eq]; omega] at q
      exact q
  all_goals
    rw [show isRowD 24 _ = false from rfl]
    walk_at "go"
    exact q
end
section
variable {P : Program} {w : World} {K : PySem.W.Frag} {mg : Str → Option Value} {base : Heap} {C_GlimError C_BadRound C_BadText C_BadLine C_BadWay C_TooLong C_Lines C_NUMBERED : Addr}
def p_common : P2 := fun x y H Q _ => ∃ a b : Nat, x = .int (a : Int) ∧ y = .int (b : Int) ∧ 1 ≤ a ∧ 1 ≤ b ∧ Big a ∧ Big b ∧ Q (.int ((Nat.lcm a b : Nat) : Int)) H
theorem ok_common_beats (T : Txt K mg w C_GlimError C_BadRound C_BadText C_BadLine C_BadWay C_TooLong C_Lines C_NUMBERED) : OK P w K mg base CX0 1 "common_beats" ["first", "second"] (sp2  p_common) := by
  refine OK.mk (k := 0) T.d_common_beats sc_common_beats len2 fun f cdv A outer s H vs Q E hr h => ?_
  obtain ⟨x, y, rfl, h⟩ := h
  refine ⟨_, (pss_cons (ps_par (i := 2) (j := 3) rfl sc_common_beats.nd rfl rfl (by decide) rfl rfl (pa_cons (pv 0) (pa_cons (pv 1) pa_nil)) (by rfl)) (pss_cons (ps_while PassesOwn.never (pt_cmpR op_gtP (pv 3) pe_int (nomark _)) (pss_one (ps_par (i := 2) (j := 3) rfl sc_common_beats.nd rfl rfl (by decide) rfl rfl (pa_cons (pv 3) (pa_cons (pe_op op_modP (pv 2) (pv 3)) pa_nil)) (by rfl)))) (pss_one (ps_ret (pe_op op_mulP (pe_op op_fdivP (pv 0) (pv 2)) (pv 1)))))), ?_⟩
  show (_ : TS) { nx := fun _ H' => Q .non H', rt := Q } [some x, some y, none, none] H
  obtain ⟨a, b, rfl, rfl, a1, b1, a2, b2, q⟩ := h
  walk_at "go"
  refine i_while (fun m σ H' => ∃ n : Nat, σ = [some (.int (a : Int)), some (.int (b : Int)), some (.int (n : Int)), some (.int (m : Int))] ∧ H' = H ∧ 1 ≤ n ∧ Nat.gcd n m = Nat.gcd a b) b ⟨a, rfl, rfl, a1, rfl⟩ ?_
  rintro m σ H' ⟨n, rfl, rfl, n1, hg⟩
  walk_at "go"
  refine i_dec (fun e => i_turn ?_) (fun e => ?_)
  · walk_at "go"
    refine ⟨n % m, Nat.mod_lt _ (by omega), m, ?_, rfl, by omega, ?_⟩
    · show [_, _, _, some (V.int ((n : Int) % (m : Int)))] = _
      rw [← Int.natCast_emod]
    · rw [← hg, Nat.gcd_comm m, ← Nat.gcd_rec, Nat.gcd_comm]
  · have e0 : m = 0 := by omega
    subst e0
    rw [Nat.gcd_zero_right] at hg
    subst hg
    have g1 : Nat.gcd a b ≤ a := Nat.gcd_le_left _ (by omega)
    have g2 : 1 ≤ Nat.gcd a b := Nat.gcd_pos_of_pos_left _ a1
    have g3 : Big (Nat.gcd a b) := a2.le g1
    walk_at "go"
    refine i_fdiv (g3.div (by omega)) ?_
    walk_at "go"
    rw [← Int.natCast_ediv]
    refine i_mul_int ((a2.le (Nat.div_le_self _ _)).mul b2) ?_
    have e : ((a / Nat.gcd a b : Nat) : Int) * (b : Int) = ((Nat.lcm a b : Nat) : Int) := by
      rw [← Int.natCast_mul]
      congr 1
      unfold Nat.lcm
      rw [Nat.mul_comm (a / _), ← Nat.mul_div_assoc _ (Nat.gcd_dvd_left a b), Nat.mul_comm]
    rw [e]
    exact q
def p_repeated : P2 := fun x y H Q _ => ∃ (a : Addr) (n : Nat) (r : List Nat) (t : Nat), x = .ref a ∧ y = .int (t : Int) ∧ H a = some (Sv n r) ∧ 1 ≤ n ∧ (n ≤ 24 → r.length = n) ∧ 1 ≤ t ∧ t ≤ 1000 ∧ ∀ p, H p = none → Q (.ref p) (upd H p (Sv (n * t) (rpt t r)))
theorem ok_repeated (T : Txt K mg w C_GlimError C_BadRound C_BadText C_BadLine C_BadWay C_TooLong C_Lines C_NUMBERED) : OK P w K mg base CX0 1 "repeated" ["stretch", "times"] (sp2  p_repeated) := by
  refine OK.mk (k := 0) T.d_repeated sc_repeated len2 fun f cdv A outer s H vs Q E hr h => ?_
  obtain ⟨x, y, rfl, h⟩ := h
  refine ⟨_, (pss_cons (ps_set (i := 2) sc_repeated.nd rfl (Or.inl rfl) (pe_op op_mulP (pe_ix (ixK K) (pv 0) pe_int (fun _ _ => rfl)) (pv 1))) (pss_cons (ps_if (pt_cmpR op_gtP (pv 2) (pe_gI (24) T.g_MOST_ROUND) (nomark _)) (pss_one (ps_ret (pe_tup (pa_cons (pv 2) (pa_cons pe_non pa_nil))))) pss_nil) (pss_one (ps_ret (pe_tup (pa_cons (pv 2) (pa_cons (pe_op op_mulP (pe_ix (ixK K) (pv 0) pe_int (fun _ _ => rfl)) (pv 1)) pa_nil))))))), ?_⟩
  show (_ : TS) { nx := fun _ H' => Q .non H', rt := Q } [some x, some y, none] H
  obtain ⟨a, n, r, t, rfl, rfl, ha, n1, hr, t1, t2, q⟩ := h
  walk_at "go"
  have e : (n : Int) * (t : Int) = ((n * t : Nat) : Int) := (Int.natCast_mul _ _).symm
  rw [e]
  have nt : n ≤ n * t := Nat.le_mul_of_pos_right _ t1
  have tt : t ≤ n * t := Nat.le_mul_of_pos_left _ n1
  unfold Sv at q
  generalize hm : n * t = m at *
  walk_at "go"
  refine i_dec (fun e => ?_) (fun e => ?_)
  · walk_at "go"
    refine i_new (by show 2 ≤ 100000; omega) fun p np => ?_
    rw [if_neg (by omega)] at q
    exact q p np
  · walk_at "go"
    have hn : n ≤ 24 := by omega
    rw [if_pos hn]
    refine i_mul_str ⟨by rw [hr hn]; omega, by omega⟩ ?_
    walk_at "go"
    refine i_new (by show 2 ≤ 100000; omega) fun p np => ?_
    rw [if_pos (by omega)] at q
    exact q p np
def p_behind : P2 := fun x y H Q _ => ∃ (a b : Addr) (n m : Nat) (r s : List Nat), x = .ref a ∧ y = .ref b ∧ H a = some (Sv n r) ∧ H b = some (Sv m s) ∧ (n ≤ 24 → r.length = n) ∧ (m ≤ 24 → s.length = m) ∧ ∀ p, H p = none → Q (.ref p) (upd H p (Sv (n + m) (r ++ s)))
theorem ok_put_behind (T : Txt K mg w C_GlimError C_BadRound C_BadText C_BadLine C_BadWay C_TooLong C_Lines C_NUMBERED) : OK P w K mg base CX0 1 "put_behind" ["stretch", "other"] (sp2  p_behind) := by
  refine OK.mk (k := 0) T.d_put_behind sc_put_behind len2 fun f cdv A outer s H vs Q E hr h => ?_
  obtain ⟨x, y, rfl, h⟩ := h
  refine ⟨_, (pss_cons (ps_set (i := 2) sc_put_behind.nd rfl (Or.inl rfl) (pe_op (opAdd K) (pe_ix (ixK K) (pv 0) pe_int (fun _ _ => rfl)) (pe_ix (ixK K) (pv 1) pe_int (fun _ _ => rfl)))) (pss_cons (ps_if (pt_cmpR op_gtP (pv 2) (pe_gI (24) T.g_MOST_ROUND) (nomark _)) (pss_one (ps_ret (pe_tup (pa_cons (pv 2) (pa_cons pe_non pa_nil))))) pss_nil) (pss_one (ps_ret (pe_tup (pa_cons (pv 2) (pa_cons (pe_op (opAdd K) (pe_ix (ixK K) (pv 0) pe_int (fun _ _ => rfl)) (pe_ix (ixK K) (pv 1) pe_int (fun _ _ => rfl))) pa_nil))))))), ?_⟩
  show (_ : TS) { nx := fun _ H' => Q .non H', rt := Q } [some x, some y, none] H
  obtain ⟨a, b, n, m, r, s', rfl, rfl, ha, hb, hr, hs, q⟩ := h
  walk_at "go"
  have e : (n : Int) + (m : Int) = ((n + m : Nat) : Int) := (Int.natCast_add _ _).symm
  rw [e]
  unfold Sv at q
  walk_at "go"
  refine i_dec (fun e => ?_) (fun e => ?_)
  · walk_at "go"
    refine i_new (by show 2 ≤ 100000; omega) fun p np => ?_
    rw [if_neg (by omega)] at q
    exact q p np
  · walk_at "go"
    have hn : n ≤ 24 := by omega
    have hm : m ≤ 24 := by omega
    rw [if_pos hn, if_pos hm]
    refine i_add_str (by rw [hr hn, hs hm]; omega) ?_
    walk_at "go"
    refine i_new (by show 2 ≤ 100000; omega) fun p np => ?_
    rw [if_pos (by omega)] at q
    exact q p np
def p_first_lit (K : PySem.W.Frag) : P1 := fun x H Q _ => ∃ (a : Addr) (cs : List Nat), x = .ref a ∧ SqL K H a (cs.map fun c => S [c]) ∧ Q (S [firstLit cs]) H
theorem ok_first_lit (T : Txt K mg w C_GlimError C_BadRound C_BadText C_BadLine C_BadWay C_TooLong C_Lines C_NUMBERED) : OK P w K mg base CX0 1 "first_lit" ["signs"] (sp1  (p_first_lit K)) := by
  refine OK.mk (k := 0) T.d_first_lit sc_first_lit len1 fun f cdv A outer s H vs Q E hr h => ?_
  obtain ⟨x, rfl, h⟩ := h
  refine ⟨_, (pss_cons (ps_for PassesOwn.never rfl (piAny K (pv 0)) (pg_name (i := 1) sc_first_lit.nd rfl (Or.inl rfl)) (pss_one (ps_if (pt_cmpR (opNe K hr.units) (pv 1) (pe_S [46]) (nomark _)) (pss_one (ps_ret (pv 1))) pss_nil))) (pss_one (ps_ret (pe_S [46])))), ?_⟩
  show (_ : TS) { nx := fun _ H' => Q .non H', rt := Q } [some x, none] H
  obtain ⟨a, cs, rfl, ha, q⟩ := h
  walk_at "go"
  refine i_forL ha (fun i σ H' => ∃ v, σ = [some (.ref a), v] ∧ H' = H ∧ firstLit cs = firstLit (cs.drop i)) ⟨_, rfl, rfl, rfl⟩ ?_ ?_ ?_
  · rintro i σ H' _ ⟨v, rfl, rfl, _⟩
    exact ha
  · rintro i x σ H' hi ⟨v, rfl, rfl, hf⟩
    rw [List.getElem?_map] at hi
    obtain ⟨c, hc, rfl⟩ := Option.map_eq_some_iff.mp hi
    obtain ⟨hl, rfl⟩ := List.getElem?_eq_some_iff.mp hc
    rw [List.drop_eq_getElem_cons hl] at hf
    walk_at "go"
    refine i_decN (fun e => ?_) (fun e => ?_)
    · walk_at "go"
      have e' : cs[i] ≠ 46 := fun z => e (by rw [z])
      rw [show firstLit (cs[i] :: cs.drop (i + 1)) = cs[i] from if_neg e'] at hf
      rw [hf] at q
      exact q
    · walk_at "go"
      have e' : cs[i] = 46 := by simpa using e
      refine ⟨_, rfl, rfl, ?_⟩
      rw [hf]
      exact if_pos e'
  · rintro σ H' ⟨v, rfl, rfl, hf⟩
    walk_at "go"
    rw [List.length_map, List.drop_length] at hf
    rw [hf] at q
    exact q
def p_shown (K : PySem.W.Frag) : P1 := fun x H Q _ => ∃ (a : Addr) (qs : List Addr) (ps : List (Nat × List Nat)), x = .ref a ∧ SqL K H a (qs.map V.ref) ∧ PartsAt H qs ps ∧ ps.length ≤ 90000 ∧ (∀ p ∈ ps, 1 ≤ p.1 ∧ (p.1 ≤ 24 → p.2.length = p.1)) ∧
  Big (lcmL ps) ∧ ∀ p H', Same H H' → H' p = some (Sv (lcmL ps) (showN ps (lcmL ps))) → Q (.ref p) H'
theorem ok_shown_together (T : Txt K mg w C_GlimError C_BadRound C_BadText C_BadLine C_BadWay C_TooLong C_Lines C_NUMBERED) : OK P w K mg base CX0 2 "shown_together" ["parts"] (sp1  (p_shown K)) := by
  refine OK.mk (k := 1) T.d_shown_together sc_shown_together len1 fun f cdv A outer s H vs Q E hr h => ?_
  obtain ⟨x, rfl, h⟩ := h
  refine ⟨_, (pss_cons (ps_set (i := 1) sc_shown_together.nd rfl (Or.inr rfl) pe_int) (pss_cons (ps_for PassesOwn.never rfl (piAny K (pv 0)) (pg_name (i := 2) sc_shown_together.nd rfl (Or.inl rfl)) (pss_one (ps_set (i := 1) sc_shown_together.nd rfl (Or.inr rfl) (pe_f (ok_common_beats (K := K) T) (hr.mono (by decide)) pass0 (pa_cons (pv 1) (pa_cons (pe_ix (ixK K) (pv 2) pe_int (fun _ _ => rfl)) pa_nil)))))) (pss_cons (ps_if (pt_cmpR op_gtP (pv 1) (pe_gI (24) T.g_MOST_ROUND) (nomark _)) (pss_one (ps_ret (pe_tup (pa_cons (pv 1) (pa_cons pe_non pa_nil))))) pss_nil) (pss_cons (ps_set (i := 3) sc_shown_together.nd rfl (Or.inr rfl) (pe_lc (own := [("part", 2)]) (g := gName 2) (tt := tYes) (by rfl) sc_shown_together.nd (piAny K (pv 0)) (blkOk_by (own := [("part", 2)]) (N := ["parts", "beats", "part", "rows", "beat", "row"]) (sc := (defScope s_shown_together)) (by decide +kernel)) (fun _ _ _ _ _ => (pg_name (i := 2) sc_shown_together.nd rfl (Or.inl rfl))) (fun _ _ _ _ _ => pts_nil) (fun _ _ _ _ _ => (pe_op op_mulP (pe_ix (ixK K) (pv 2) pe_int (fun _ _ => rfl)) (pe_op op_fdivP (pv 1) (pe_ix (ixK K) (pv 2) pe_int (fun _ _ => rfl))))))) (pss_one (ps_ret (pe_tup (pa_cons (pv 1) (pa_cons (peJoin K (pe_S []) (pe_lc (own := [("beat", 4)]) (g := gName 4) (tt := tYes) (by rfl) sc_shown_together.nd (pi_range1 rfl T.b_range (pa_cons (pv 1) pa_nil)) (blkOk_by (own := [("beat", 4)]) (N := ["parts", "beats", "part", "rows", "beat", "row"]) (sc := (defScope s_shown_together)) (by decide +kernel)) (fun _ _ _ _ _ => (pg_name (i := 4) sc_shown_together.nd rfl (Or.inr rfl))) (fun _ _ _ _ _ => pts_nil) (fun _ _ _ _ _ => (pe_f (ok_first_lit (K := K) T) (hr.mono (by decide)) pass0 (pa_cons (pe_lc (own := [("row", 5)]) (g := gName 5) (tt := tYes) (by rfl) sc_shown_together.nd (piAny K (pv 3)) (Fg.blkOk_in (own := [("row", 5)]) (N := ["parts", "beats", "part", "rows", "beat", "row"]) (sc := (defScope s_shown_together)) (by rfl) (by rfl) (by decide +kernel)) (fun _ _ _ _ _ => (pg_name (i := 5) sc_shown_together.nd rfl (Or.inl rfl))) (fun _ _ _ _ _ => pts_nil) (fun _ _ _ _ _ => (pe_ix (ixK K) (pv 5) (pv 4) (fun _ _ => rfl)))) pa_nil))))) pa_nil))))))))), ?_⟩
  show (_ : TS) { nx := fun _ H' => Q .non H', rt := Q } [some x, none, none, none, none, none] H
  obtain ⟨a, qs, ps, rfl, ha, ⟨hlen, hat⟩, h100, hok, hsm, q⟩ := h
  walk_at "go"
  refine i_forL ha (fun i σ H' => ∃ v, σ = [some (.ref a), some (.int ((lcmL (ps.take i) : Nat) : Int)), v, none, none, none] ∧ H' = H) ⟨_, rfl, rfl⟩ ?_ ?_ ?_
  · rintro i σ H' _ ⟨v, rfl, rfl⟩
    exact ha
  · rintro i x σ H' hi ⟨v, rfl, rfl⟩
    rw [List.getElem?_map] at hi
    obtain ⟨qa, hqa, rfl⟩ := Option.map_eq_some_iff.mp hi
    obtain ⟨hl, e⟩ := List.getElem?_eq_some_iff.mp hqa
    have hp : ps[i]? = some ps[i] := List.getElem?_eq_getElem (by omega)
    have hq := hat i qa _ hqa hp
    have ok := hok _ (List.mem_of_getElem? hp)
    have e2 : ps.take (i + 1) = ps.take i ++ [ps[i]] := by rw [List.take_succ, hp]; rfl
    walk_at "go"
    refine ⟨lcmL (ps.take i), ps[i].1, rfl, rfl, lcmL_pos fun p hp => (hok p (List.mem_of_mem_take hp)).1, ok.1, hsm.le (lcmL_take (fun p hp => (hok p hp).1) i), hsm.le (Nat.le_of_dvd (lcmL_pos fun p hp => (hok p hp).1) (dvd_lcmL (List.mem_of_getElem? hp))), ?_⟩
    rw [← lcmL_snoc, ← e2]
    walk_at "go"
    exact ⟨_, rfl, rfl⟩
  · rintro σ H' ⟨v, rfl, rfl⟩
    rw [List.length_map, hlen, List.take_length]
    clear hsm
    have hL1 : 1 ≤ lcmL ps := lcmL_pos fun p hp => (hok p hp).1
    have hdv : ∀ p ∈ ps, p.1 ∣ lcmL ps := fun p hp => dvd_lcmL hp
    unfold Sv at q
    generalize lcmL ps = L at *
    walk_at "go"
    refine i_dec (fun e => ?_) (fun e => ?_)
    · walk_at "go"
      refine i_new (by show 2 ≤ 100000; omega) fun p np => ?_
      rw [if_neg (by omega)] at q
      exact q p _ (same_upd np) upd_same
    have hL : L ≤ 24 := by omega
    rw [if_pos hL] at q
    walk_at "go"
    refine c_lst (K := K) (a := a) (xs := qs.map V.ref) (fun R k => by walk_at "go"; exact k) ha (by rw [List.length_map]; omega) (fun _ => true) (fun i => S (rpt (L / (ps.getD i (1, [])).1) (ps.getD i (1, [])).2)) (fun _ => rfl) (fun i x H2 hi s2 QB k => k H2 (Same.refl H2)) (fun i x H2 hi s2 _ QV k => ?_) (fun Dr H2 n2 s2 d2 => ?_)
    · rw [List.getElem?_map] at hi
      obtain ⟨qa, hqa, rfl⟩ := Option.map_eq_some_iff.mp hi
      obtain ⟨hl, e'⟩ := List.getElem?_eq_some_iff.mp hqa
      have hp : ps[i]? = some ps[i] := List.getElem?_eq_getElem (by omega)
      have hq := s2 _ _ (hat i qa _ hqa hp)
      have hm := List.mem_of_getElem? hp
      have ok := hok _ hm
      have hn : ps[i].1 ≤ L := Nat.le_of_dvd hL1 (hdv _ hm)
      have hr := ok.2 (by omega)
      have ok1 := ok.1
      have e3 : ps.getD i (1, []) = ps[i] := by rw [List.getD_eq_getElem?_getD, hp]; rfl
      rw [e3] at k
      have hdd : L / ps[i].1 * ps[i].1 = L := Nat.div_mul_cancel (hdv _ hm)
      have hdl : L / ps[i].1 ≤ L := Nat.div_le_self _ _
      generalize ps[i] = pp at *
      obtain ⟨n, r⟩ := pp
      dsimp only at *
      show (_ : TE) [some (.ref a), some (.int (L : Int)), some (.ref qa), none, none, none] H2 QV
      walk_at "go"
      rw [if_pos (by omega), ← Int.natCast_ediv]
      refine i_mul_str ⟨by rw [hr, Nat.mul_comm]; omega, by omega⟩ ?_
      exact k H2 (Same.refl H2)
    rw [kept_all, List.length_map, hlen, range_getD_map ps (1, []) (fun (p : Nat × List Nat) => S (rpt (L / p.1) p.2))] at d2
    have e4 : ps.map (fun (p : Nat × List Nat) => S (rpt (L / p.1) p.2)) = (ps.map fun p => rpt (L / p.1) p.2).map S := by rw [List.map_map]; rfl
    rw [e4] at d2
    have hrl : ∀ r ∈ ps.map (fun p => rpt (L / p.1) p.2), r.length = L := fun r hr => by
      obtain ⟨p, hp, rfl⟩ := List.mem_map.mp hr
      have hn : p.1 ≤ L := Nat.le_of_dvd hL1 (hdv _ hp)
      rw [rpt_len, (hok p hp).2 (by omega), Nat.div_mul_cancel (hdv p hp)]
    have e5 : showN ps L = (List.range L).map fun b => firstLit ((ps.map fun p => rpt (L / p.1) p.2).map fun r => r.getD b 0) := by
      unfold showN
      refine List.map_congr_left fun b _ => ?_
      rw [List.map_map]
      rfl
    rw [e5] at q
    have hrs : (ps.map fun p => rpt (L / p.1) p.2).length = ps.length := by rw [List.length_map]
    generalize ps.map (fun (p : Nat × List Nat) => rpt (L / p.1) p.2) = rs at *
    walk_at "go"
    refine c_rng1A L (fun R k => by walk_at "go"; exact k) (by omega) (fun b => S [firstLit (rs.map fun r => r.getD b 0)]) (fun _ => rfl) (fun b H3 hb s3 QV k => ?_) (fun Dj H3 n3 s3 d3 => ?_)
    · show (_ : TE) [some (.ref a), some (.int (L : Int)), v, some (.ref Dr), some (.int (b : Int)), none] H3 QV
      walk_at "go"
      refine c_lst (K := K) (a := Dr) (xs := rs.map S) (fun R k => by walk_at "go"; exact k) (.inl (.inl (s3 _ _ d2))) (by rw [List.length_map]; omega) (fun _ => true) (fun i => S [(rs.getD i []).getD b 0]) (fun _ => rfl) (fun i x H4 hi s4 QB k => k H4 (Same.refl H4)) (fun i x H4 hi s4 _ QV k => ?_) (fun Di H4 n4 s4 d4 => ?_)
      · rw [List.getElem?_map] at hi
        obtain ⟨r, hr, rfl⟩ := Option.map_eq_some_iff.mp hi
        have hl := hrl r (List.mem_of_getElem? hr)
        have e6 : rs.getD i [] = r := by rw [List.getD_eq_getElem?_getD, hr]; rfl
        rw [e6] at k
        show (_ : TE) [some (.ref a), some (.int (L : Int)), v, some (.ref Dr), some (.int (b : Int)), some (S r)] H4 QV
        walk_at "go"
        refine i_ix_str (c := r.getD b 0) (by omega) (by omega) ?_ (k H4 (Same.refl H4))
        rw [Int.toNat_natCast, List.getD_eq_getElem?_getD, List.getElem?_eq_getElem (by omega)]
        rfl
      · rw [kept_all, List.length_map, range_getD_map rs [] (fun r => S [r.getD b 0])] at d4
        walk_at "go"
        refine ⟨Di, rs.map fun r => r.getD b 0, rfl, .inl (.inl (by rw [d4, List.map_map]; rfl)), ?_⟩
        exact k H4 s4
    · have e7 : (List.range L).map (fun b => S [firstLit (rs.map fun r => r.getD b 0)]) = ((List.range L).map fun b => firstLit (rs.map fun r => r.getD b 0)).map fun c => S [c] := by rw [List.map_map]; rfl
      rw [e7] at d3
      walk_at "go"
      refine i_join1 (.inl (.inl d3)) (by rw [List.length_map, List.length_range]; omega) ?_
      walk_at "go"
      refine i_new (by show 2 ≤ 100000; omega) fun p np => ?_
      exact q p _ (s2.trans (s3.trans (same_upd np))) upd_same
def p_behind_digits : P2 := fun x y H Q _ => ∃ (z : List Nat) (a : Nat), x = S z ∧ y = .int (a : Int) ∧ z.length ≤ 100000 ∧ a ≤ z.length ∧ Q (.int ((bd z a : Nat) : Int)) H
theorem ok_behind_digits (T : Txt K mg w C_GlimError C_BadRound C_BadText C_BadLine C_BadWay C_TooLong C_Lines C_NUMBERED) : OK P w K mg base CX0 1 "behind_digits" ["text", "at"] (sp2  p_behind_digits) := by
  refine OK.mk (k := 0) T.d_behind_digits sc_behind_digits len2 fun f cdv A outer s H vs Q E hr h => ?_
  obtain ⟨x, y, rfl, h⟩ := h
  refine ⟨_, (pss_cons (ps_while PassesOwn.never (pw_and (pt_cmpR op_ltP (pv 1) (pe_callB (cLen K) (by rfl) T.b_len (by decide +kernel) (pa_cons (pv 0) pa_nil)) (nomark _)) (pw_and1 (pt_cmpR (opIn K) (pe_ix (ixK K) (pv 0) (pv 1) (fun _ _ => rfl)) (pe_gS [48, 49, 50, 51, 52, 53, 54, 55, 56, 57] T.g_DIGITS_rhythmtext) (by with_unfolding_all rfl)))).pt (pss_one (ps_aug (i := 1) sc_behind_digits.nd rfl (Or.inl rfl) pe_int ip_add))) (pss_one (ps_ret (pv 1)))), ?_⟩
  show (_ : TS) { nx := fun _ H' => Q .non H', rt := Q } [some x, some y] H
  obtain ⟨z, a, rfl, rfl, hz, ha, q⟩ := h
  walk_at "go"
  refine i_while (fun m σ H' => ∃ n : Nat, σ = [some (S z), some (.int (n : Int))] ∧ H' = H ∧ n + m = z.length ∧ bd z n = bd z a) (z.length - a) ⟨a, rfl, rfl, by omega, rfl⟩ ?_
  rintro m σ H' ⟨n, rfl, rfl, hn, hb⟩
  walk_at "go"
  refine i_dec (fun e => ?_) (fun e => ?_)
  · walk_at "go"
    have hl : n < z.length := by omega
    refine i_ix_str (c := z[n]) hz (by omega) (by rw [Int.toNat_natCast]; exact List.getElem?_eq_getElem hl) ?_
    walk_at "go"
    refine i_dec (fun e => i_turn ?_) (fun e => ?_)
    · walk_at "go"
      exact ⟨m - 1, by omega, n + 1, rfl, rfl, by omega, by rw [bd_step (List.getElem?_eq_getElem hl) e, hb]⟩
    · walk_at "go"
      rw [← hb, bd_stop (fun c hc => by rw [List.getElem?_eq_getElem hl] at hc; cases hc; exact e)] at q
      exact q
  · walk_at "go"
    rw [← hb, bd_stop (fun c hc => by rw [List.getElem?_eq_none (by omega)] at hc; cases hc)] at q
    exact q
def p_within : P3 := fun x y u H Q _ => ∃ (r : List Nat) (lo hi : Nat), x = S r ∧ y = .int (lo : Int) ∧ u = .int (hi : Int) ∧ r.length ≤ 100000 ∧ (∀ c ∈ r, c ∈ DG) ∧ Q (.bl (within r lo hi)) H
theorem ok_is_within (T : Txt K mg w C_GlimError C_BadRound C_BadText C_BadLine C_BadWay C_TooLong C_Lines C_NUMBERED) : OK P w K mg base CX0 1 "is_within" ["run", "low", "high"] (sp3  p_within) := by
  refine OK.mk (k := 0) T.d_is_within sc_is_within len3 fun f cdv A outer s H vs Q E hr h => ?_
  obtain ⟨x, y, z, rfl, h⟩ := h
  refine ⟨_, (pss_one (ps_ret (pe_and (pe_chain op_leP op_leP pe_int (pe_callB (cLen K) (by rfl) T.b_len (by decide +kernel) (pa_cons (pv 0) pa_nil)) pe_int) (pe_one (pe_chain op_leP op_leP (pv 1) (pe_callTy call_intTx (by rfl) T.b_int (by decide +kernel) (pa_cons (pv 0) pa_nil)) (pv 2)))))), ?_⟩
  show (_ : TS) { nx := fun _ H' => Q .non H', rt := Q } [some x, some y, some z] H
  obtain ⟨r, lo, hi, rfl, rfl, rfl, hz, hd, q⟩ := h
  walk_at "go"
  unfold within at q
  have nn : ∀ a b : Nat, decide ((a : Int) ≤ (b : Int)) = decide (a ≤ b) := fun a b => by rw [decide_eq_decide]; omega
  refine i_dec (fun e1 => ?_) (fun e1 => ?_)
  · walk_at "go"
    refine i_dec (fun e2 => ?_) (fun e2 => ?_)
    · walk_at "go"
      refine i_intTx (by omega) (by omega) hd ?_
      walk_at "go"
      rw [decide_eq_true (show 1 ≤ r.length by omega), decide_eq_true (show r.length ≤ 2 by omega), Bool.true_and, Bool.true_and] at q
      rw [nn]
      refine i_bool (fun e => ?_) (fun e => ?_)
      · rw [e, Bool.true_and] at q
        walk_at "go"
        rw [nn]
        exact q
      · rw [e, Bool.false_and] at q
        exact q
    · rw [decide_eq_false (show ¬ r.length ≤ 2 by omega), Bool.and_false, Bool.false_and, Bool.false_and] at q
      walk_at "go"
      exact q
  · rw [decide_eq_false (show ¬ 1 ≤ r.length by omega), Bool.false_and, Bool.false_and, Bool.false_and] at q
    walk_at "go"
    exact q
end
/-- how a reading ends -/
def Out (C : Addr) (H : Hp) (Q : VK) (E : XK) : Res → Prop
  | .error k => Rz E H C "at" (.int (k : Int))
  | .ok (s, e) => ∀ p q H', Same H H' → H' q = some (Sv s.1 s.2) → H' p = some (.tup [.ref q, .int (e : Int)]) → Q (.ref p) H'
def p_rdp (C : Addr) (f : List Nat → Nat → Res) (d : Nat) : P3 := fun x y u H Q E => ∃ (z : List Nat) (a : Nat) (o : Int), x = S z ∧ y = .int (a : Int) ∧ u = .int o ∧ o + (d : Int) = 6 ∧ z.length ≤ 1700 ∧ a ≤ z.length ∧ Out C H Q E (f z a)
/-- the parts behind an opening: never, where no more may be opened -/
def PD (C : Addr) : Nat → P3
  | 0 => fun _ _ _ _ _ _ => False
  | d + 1 => p_rdp C (fun z => rd z d) d
section
variable {P : Program} {w : World} {K : PySem.W.Frag} {mg : Str → Option Value} {base : Heap} {C_GlimError C_BadRound C_BadText C_BadLine C_BadWay C_TooLong C_Lines C_NUMBERED : Addr}
theorem ok_read_item (T : Txt K mg w C_GlimError C_BadRound C_BadText C_BadLine C_BadWay C_TooLong C_Lines C_NUMBERED) (d : Nat) (R : OK P w K mg base (L2N.CX P w) (3 * d + 3) "read_parts" ["text", "at", "opened"] (sp3 (PD C_BadText d))) :
    OK P w K mg base (L2N.CX P w) (3 * d + 4) "read_item" ["text", "at", "opened"] (sp3 (p_rdp C_BadText (fun z => rdItem z d) d)) := by
  refine Fg.OK.mkXN (k := 3 * d + 3) T.d_read_item sc_read_item len3 fun f cdv A outer s H vs Q E hr h => ?_
  obtain ⟨x, y, z, rfl, h⟩ := h
  refine ⟨_, (pss_cons (ps_set (i := 3) sc_read_item.nd rfl (Or.inl rfl) (pv 1)) (pss_cons (ps_set (i := 1) sc_read_item.nd rfl (Or.inl rfl) (pe_f (ok_behind_digits (K := K) T) (hr.mono (by omega)) pass0 (pa_cons (pv 0) (pa_cons (pv 3) pa_nil)))) (pss_cons (ps_set (i := 4) sc_read_item.nd rfl (Or.inl rfl) (pe_slice (slK K) (pv 0) (po_some (pv 3)) (po_some (pv 1)))) (pss_cons (ps_if (pt_cmpR (opEq K hr.units) (pe_slice (slK K) (pv 4) po_none (po_some pe_int)) (pe_S [48]) (nomark _)) (pss_one (Fg.ps_raisePN rfl (L2N.takes_of rfl rfl rfl rfl) (Fg.pmk_EN (k := 0) (okx_BadText T) (hr.mono (by omega)) (pa_cons (pv 3) pa_nil)))) pss_nil) (Evl.pss_cut (ps_if (pw_or (pt_cmpR (opEq K hr.units) (pv 1) (pe_callB (cLen K) (by rfl) T.b_len (by decide +kernel) (pa_cons (pv 0) pa_nil)) (nomark _)) (pw_or1 (pw_and (pt_cmpR (opNotIn K) (pe_ix (ixK K) (pv 0) (pv 1) (fun _ _ => rfl)) (pe_gS [46, 103, 114, 119] T.g_SIGNS) (by with_unfolding_all rfl)) (pw_and1 (pt_cmpR (opNe K hr.units) (pe_ix (ixK K) (pv 0) (pv 1) (fun _ _ => rfl)) (pe_S [40]) (nomark _)))).pt)).pt (pss_one (Fg.ps_raisePN rfl (L2N.takes_of rfl rfl rfl rfl) (Fg.pmk_EN (k := 0) (okx_BadText T) (hr.mono (by omega)) (pa_cons (pv 1) pa_nil)))) pss_nil) (Evl.pss_cut (ps_if (pw_and (pt_cmpR (opNe K hr.units) (pv 4) (pe_S []) (nomark _)) (pw_and1 (pt_not (pt_val (pe_f (ok_is_within (K := K) T) (hr.mono (by omega)) pass0 (pa_cons (pv 4) (pa_cons pe_int (pa_cons (pe_gI (24) T.g_MOST_ROUND) pa_nil)))))))).pt (pss_one (Fg.ps_raisePN rfl (L2N.takes_of rfl rfl rfl rfl) (Fg.pmk_EN (k := 0) (okx_BadText T) (hr.mono (by omega)) (pa_cons (pv 3) pa_nil)))) pss_nil) (Evl.pss_cut (ps_set (i := 5) sc_read_item.nd rfl (Or.inl rfl) (pe_ifExp (pt_cmpR (opEq K hr.units) (pv 4) (pe_S []) (nomark _)) pe_int (pe_callTy call_intTx (by rfl) T.b_int (by decide +kernel) (pa_cons (pv 4) pa_nil)))) (pss_cons (ps_if (pt_cmpR (opNe K hr.units) (pe_ix (ixK K) (pv 0) (pv 1) (fun _ _ => rfl)) (pe_S [40]) (nomark _)) (pss_one (ps_ret (pe_tup (pa_cons (pe_f (ok_repeated (K := K) T) (hr.mono (by omega)) pass0 (pa_cons (pe_tup (pa_cons pe_int (pa_cons (pe_ix (ixK K) (pv 0) (pv 1) (fun _ _ => rfl)) pa_nil))) (pa_cons (pv 5) pa_nil))) (pa_cons (pe_op (opAdd K) (pv 1) pe_int) pa_nil))))) pss_nil) (pss_cons (ps_if (pt_cmpR (opEq K hr.units) (pv 2) (pe_gI (6) T.g_MOST_OPEN) (nomark _)) (pss_one (Fg.ps_raisePN rfl (L2N.takes_of rfl rfl rfl rfl) (Fg.pmk_EN (k := 0) (okx_BadText T) (hr.mono (by omega)) (pa_cons (pv 1) pa_nil)))) pss_nil) (pss_cons (ps_asg (pe_f R (hr.mono (by omega)) (L2N.passes_call (L2N.takes_of rfl rfl rfl rfl) (fun _ _ _ _ h => h)) (pa_cons (pv 0) (pa_cons (pe_op (opAdd K) (pv 1) pe_int) (pa_cons (pe_op (opAdd K) (pv 2) pe_int) pa_nil)))) (pgTup (n := 2) K rfl (pgs_cons (pg_name (i := 6) sc_read_item.nd rfl (Or.inl rfl)) (pgs_cons (pg_name (i := 1) sc_read_item.nd rfl (Or.inl rfl)) pgs_nil)))) (pss_cons (ps_if (pw_or (pt_cmpR (opEq K hr.units) (pv 1) (pe_callB (cLen K) (by rfl) T.b_len (by decide +kernel) (pa_cons (pv 0) pa_nil)) (nomark _)) (pw_or1 (pt_cmpR (opNe K hr.units) (pe_ix (ixK K) (pv 0) (pv 1) (fun _ _ => rfl)) (pe_S [41]) (nomark _)))).pt (pss_one (Fg.ps_raisePN rfl (L2N.takes_of rfl rfl rfl rfl) (Fg.pmk_EN (k := 0) (okx_BadText T) (hr.mono (by omega)) (pa_cons (pv 1) pa_nil)))) pss_nil) (pss_one (ps_ret (pe_tup (pa_cons (pe_f (ok_repeated (K := K) T) (hr.mono (by omega)) pass0 (pa_cons (pv 6) (pa_cons (pv 5) pa_nil))) (pa_cons (pe_op (opAdd K) (pv 1) pe_int) pa_nil)))))))))))))))), ?_⟩
  show (_ : TS) { nx := fun _ H' => Q .non H', rt := Q } [some x, some y, some z, none, none, none, none] H
  obtain ⟨z, a, o, rfl, rfl, rfl, ho, hz, ha, h⟩ := h
  replace h : Out C_BadText H Q E (item (rpOf z d) z a) := rdItem_item z d ▸ h
  have ba := bd_le ha
  have ga := bd_ge z a
  have dg := run_digits z a
  have rl : (run z a).length ≤ z.length := by unfold bd at ba; omega
  unfold item at h
  walk_at "go"
  refine ⟨z, a, rfl, rfl, by omega, ha, ?_⟩
  walk_at "go"
  refine i_sl_str (by omega) ?_
  rw [cutN_run ha]
  generalize hrun : run z a = r at *
  generalize hb : bd z a = b at *
  walk_at "go"
  rw [show Int.toNat 1 = 1 from rfl]
  refine i_dec (fun e => ?_) (fun e => ?_)
  · rw [if_pos e] at h
    walk_at "go"
    intro dd nd
    exact Rz.at h nd
  rw [if_neg e] at h
  walk_at "go"
  refine i_cut (fun σ H' => ∃ c, σ = [some (S z), some (.int (b : Int)), some (.int o), some (.int (a : Int)), some (S r), none, none] ∧ H' = H ∧ z[b]? = some c ∧ ¬ (c ∉ SG ∧ c ≠ 40)) ?_ ?_
  · walk_at "go"
    by_cases hl : b < z.length
    case neg =>
      rw [List.getElem?_eq_none (by omega)] at h
      refine i_dec (fun _ => ?_) (fun e' => absurd (by omega) e')
      walk_at "go"
      intro dd nd
      exact Rz.at h nd
    have hc : z[b]? = some z[b] := List.getElem?_eq_getElem hl
    rw [hc] at h
    generalize z[b] = c at *
    dsimp only at h
    have ixc : ∀ {H : Hp} {Q : VK}, Q (S [c]) H → ixP K (S z) (.int (b : Int)) H Q := fun k => i_ix_str (by omega) (by omega) (by rw [Int.toNat_natCast]; exact hc) k
    refine i_dec (fun e' => absurd e' (by omega)) (fun _ => ?_)
    walk_at "go"
    refine ixc ?_
    walk_at "go"
    refine i_decN (fun e1 => ?_) (fun e1 => ?_)
    · walk_at "go"
      refine ixc ?_
      walk_at "go"
      refine i_decN (fun e2 => ?_) (fun e2 => ?_)
      · walk_at "go"
        intro dd nd
        have h : Rz E H C_BadText "at" (.int (b : Int)) := by
          rw [show (if c ∉ SG ∧ c ≠ 40 then Except.error b else _ : Res) = .error b from if_pos ⟨e1, fun z => e2 (by rw [z])⟩] at h
          exact h
        exact Rz.at h nd
      · exact ⟨c, rfl, rfl, hc, fun z => z.2 (List.cons.inj e2).1⟩
    · walk_at "go"
      exact ⟨c, rfl, rfl, hc, fun z => z.1 e1⟩
  rintro σ H' ⟨c, rfl, rfl, hc, hg⟩
  have hl := (List.getElem?_eq_some_iff.mp hc).1
  have ixc : ∀ {H : Hp} {Q : VK}, Q (S [c]) H → ixP K (S z) (.int (b : Int)) H Q := fun k => i_ix_str (by omega) (by omega) (by rw [Int.toNat_natCast]; exact hc) k
  rw [hc] at h
  dsimp only at h
  replace h : Out C_BadText H' Q E (if r ≠ [] ∧ within r 2 24 = false then .error a else if c ≠ 40 then .ok (rep (1, [c]) (timesOf r), b + 1) else match rpOf z d with | none => .error b | some f => close z (timesOf r) (f (b + 1))) := by
    rw [show (if c ∉ SG ∧ c ≠ 40 then Except.error b else _ : Res) = _ from if_neg hg] at h
    exact h
  refine i_cut (fun σ H2 => σ = [some (S z), some (.int (b : Int)), some (.int o), some (.int (a : Int)), some (S r), none, none] ∧ H2 = H' ∧ ¬ (r ≠ [] ∧ within r 2 24 = false)) ?_ ?_
  · walk_at "go"
    refine i_decN (fun e1 => ?_) (fun e1 => ?_)
    · walk_at "go"
      refine ⟨r, 2, 24, rfl, rfl, rfl, by omega, dg, ?_⟩
      walk_at "go"
      cases hw : within r 2 24 with
      | true =>
        walk_at "go"
        exact ⟨rfl, rfl, fun z => by cases z.2⟩
      | false =>
        rw [if_pos ⟨e1, hw⟩] at h
        walk_at "go"
        intro dd nd
        exact Rz.at h nd
    · walk_at "go"
      exact ⟨rfl, rfl, fun z => z.1 e1⟩
  rintro σ H2 ⟨rfl, rfl, ht⟩
  rw [if_neg ht] at h
  obtain ⟨t1, t2, t3⟩ := times_ok ht
  refine i_cut (fun σ H3 => σ = [some (S z), some (.int (b : Int)), some (.int o), some (.int (a : Int)), some (S r), some (.int (timesOf r : Nat)), none] ∧ H3 = H2) ?_ ?_
  · walk_at "go"
    refine i_dec (fun e1 => ?_) (fun e1 => ?_)
    · walk_at "go"
      unfold timesOf
      rw [if_pos e1]
      exact ⟨rfl, rfl⟩
    · walk_at "go"
      have hw : within r 2 24 = true := by
        cases hw : within r 2 24 with
        | true => rfl
        | false => exact absurd ⟨e1, hw⟩ ht
      obtain ⟨w1, w2, _, _⟩ := within_iff.mp hw
      refine i_intTx w1 w2 dg ?_
      unfold timesOf
      rw [if_neg e1]
      exact ⟨rfl, rfl⟩
  rintro σ H3 ⟨rfl, rfl⟩
  generalize timesOf r = t at *
  walk_at "go"
  refine ixc ?_
  walk_at "go"
  refine i_decN (fun e1 => ?_) (fun e1 => ?_)
  · have ne : c ≠ 40 := fun z => e1 (by rw [z])
    rw [if_pos ne] at h
    walk_at "go"
    refine ixc ?_
    walk_at "go"
    refine i_new (by show 2 ≤ 100000; omega) fun p1 n1 => ?_
    walk_at "go"
    refine ⟨p1, 1, [c], t, rfl, rfl, upd_same, by omega, fun _ => rfl, t1, by omega, fun p2 n2 => ?_⟩
    walk_at "go"
    refine i_new (by show 2 ≤ 100000; omega) fun p3 n3 => ?_
    have s2 := (same_upd (o := .tup [.int 1, S [c]]) n1).trans (same_upd (o := Sv (1 * t) (rpt t [c])) n2)
    refine h p3 p2 _ (s2.trans (same_upd n3)) ?_ upd_same
    rw [upd_ne (fun e => by rw [← e, upd_same] at n3; cases n3), upd_same]
    rfl
  have e40 : c = 40 := (List.cons.inj e1).1
  rw [if_neg (fun z => z e40)] at h
  walk_at "go"
  cases d with
  | zero =>
    refine i_dec (fun _ => ?_) (fun e2 => absurd (by omega) e2)
    walk_at "go"
    intro dd nd
    exact Rz.at h nd
  | succ d =>
    refine i_dec (fun e2 => absurd e2 (by omega)) (fun _ => ?_)
    walk_at "go"
    replace h : Out C_BadText H3 Q E (close z t (rd z d (b + 1))) := h
    refine ⟨z, b + 1, o + 1, rfl, by rw [Int.natCast_add]; rfl, rfl, by omega, hz, by omega, ?_⟩
    show Out _ _ _ _ (rd z d (b + 1))
    cases hr2 : rd z d (b + 1) with
    | error k =>
      rw [hr2] at h
      exact h
    | ok se =>
      obtain ⟨s2, e2⟩ := se
      obtain ⟨g1, g2, g3, g4⟩ := rd_gd z d (b + 1) s2 e2 (by omega) hr2
      rw [hr2] at h
      intro p q H4 sm hq hp
      walk_at "go"
      unfold close at h
      dsimp only at h
      by_cases hl2 : e2 < z.length
      case neg =>
        rw [List.getElem?_eq_none (by omega), if_neg (by simp)] at h
        refine i_dec (fun _ => ?_) (fun e' => absurd (by omega) e')
        walk_at "go"
        intro dd nd
        exact Rz.at (Rz.mono h sm) nd
      have hc2 : z[e2]? = some z[e2] := List.getElem?_eq_getElem hl2
      rw [hc2] at h
      generalize z[e2] = c2 at *
      refine i_dec (fun e' => absurd e' (by omega)) (fun _ => ?_)
      walk_at "go"
      refine i_ix_str (c := c2) (by omega) (by omega) (by rw [Int.toNat_natCast]; exact hc2) ?_
      walk_at "go"
      refine i_decN (fun e' => ?_) (fun e' => ?_)
      · rw [if_neg (fun z => e' (by rw [Option.some.inj z]))] at h
        walk_at "go"
        intro dd nd
        exact Rz.at (Rz.mono h sm) nd
      · rw [if_pos (by rw [(List.cons.inj e').1])] at h
        walk_at "go"
        refine ⟨q, s2.1, s2.2, t, rfl, rfl, hq, g3, g4.2, t1, by omega, fun p2 n2 => ?_⟩
        walk_at "go"
        refine i_new (by show 2 ≤ 100000; omega) fun p3 n3 => ?_
        refine h p3 p2 _ ((sm.trans (same_upd n2)).trans (same_upd n3)) ?_ upd_same
        rw [upd_ne (fun e => by rw [← e, upd_same] at n3; cases n3), upd_same]
        rfl
end
theorem flat_one' (k : Nat) : (List.replicate k [46]).flatten = List.replicate k 46 := by
  induction k with
  | zero => rfl
  | succ k ih => rw [List.replicate_succ, List.flatten_cons, ih, List.replicate_succ]; rfl
section
variable {P : Program} {w : World} {K : PySem.W.Frag} {mg : Str → Option Value} {base : Heap} {C_GlimError C_BadRound C_BadText C_BadLine C_BadWay C_TooLong C_Lines C_NUMBERED : Addr}
def p_filled (C : Addr) : P3 := fun x y u H Q E => ∃ (z : List Nat) (a : Nat) (q : Addr) (p : Stv), x = S z ∧ y = .int (a : Int) ∧ u = .ref q ∧ H q = some (Sv p.1 p.2) ∧ (p.1 ≤ 24 → p.2.length = p.1) ∧ z.length ≤ 1700 ∧ a ≤ z.length ∧ Out C H Q E (filled z a p)
theorem ok_read_filled (T : Txt K mg w C_GlimError C_BadRound C_BadText C_BadLine C_BadWay C_TooLong C_Lines C_NUMBERED) : OK P w K mg base (L2N.CX P w) 4 "read_filled" ["text", "at", "part"] (sp3  (p_filled C_BadText)) := by
  refine Fg.OK.mkXN (k := 3) T.d_read_filled sc_read_filled len3 fun f cdv A outer s H vs Q E hr h => ?_
  obtain ⟨x, y, z, rfl, h⟩ := h
  refine ⟨_, (pss_cons (ps_set (i := 3) sc_read_filled.nd rfl (Or.inl rfl) (pe_f (ok_behind_digits (K := K) T) (hr.mono (by decide)) pass0 (pa_cons (pv 0) (pa_cons (pv 1) pa_nil)))) (pss_cons (ps_if (pt_cmpR (opEq K hr.units) (pv 3) (pv 1) (nomark _)) (pss_one (Fg.ps_raisePN rfl (L2N.takes_of rfl rfl rfl rfl) (Fg.pmk_EN (k := 0) (okx_BadText T) (hr.mono (by decide)) (pa_cons (pv 1) pa_nil)))) pss_nil) (pss_cons (ps_set (i := 4) sc_read_filled.nd rfl (Or.inl rfl) (pe_slice (slK K) (pv 0) (po_some (pv 1)) (po_some (pv 3)))) (Evl.pss_cut (ps_if (pw_or (pt_cmpR (opEq K hr.units) (pe_ix (ixK K) (pv 4) pe_int (fun _ _ => rfl)) (pe_S [48]) (nomark _)) (pw_or1 (pt_not (pt_val (pe_f (ok_is_within (K := K) T) (hr.mono (by decide)) pass0 (pa_cons (pv 4) (pa_cons (pe_callB (call_max2 rfl) (by rfl) T.b_max (by decide +kernel) (pa_cons pe_int (pa_cons (pe_ix (ixK K) (pv 2) pe_int (fun _ _ => rfl)) pa_nil))) (pa_cons (pe_gI (24) T.g_MOST_ROUND) pa_nil)))))))).pt (pss_one (Fg.ps_raisePN rfl (L2N.takes_of rfl rfl rfl rfl) (Fg.pmk_EN (k := 0) (okx_BadText T) (hr.mono (by decide)) (pa_cons (pv 1) pa_nil)))) pss_nil) (pss_cons (ps_set (i := 5) sc_read_filled.nd rfl (Or.inl rfl) (pe_callTy call_intTx (by rfl) T.b_int (by decide +kernel) (pa_cons (pv 4) pa_nil))) (pss_one (ps_ret (pe_tup (pa_cons (pe_tup (pa_cons (pv 5) (pa_cons (pe_op (opAdd K) (pe_ix (ixK K) (pv 2) pe_int (fun _ _ => rfl)) (pe_op op_mulP (pe_S [46]) (pe_op op_subP (pv 5) (pe_ix (ixK K) (pv 2) pe_int (fun _ _ => rfl))))) pa_nil))) (pa_cons (pv 3) pa_nil)))))))))), ?_⟩
  show (_ : TS) { nx := fun _ H' => Q .non H', rt := Q } [some x, some y, some z, none, none, none] H
  obtain ⟨z, a, q, ⟨n, l⟩, rfl, rfl, rfl, hq, hl, hz, ha, h⟩ := h
  dsimp only at hq hl
  have ba := bd_le ha
  have ga := bd_ge z a
  have dg := run_digits z a
  have rl : (run z a).length ≤ z.length := by unfold bd at ba; omega
  have rb := bd_eq (z := z) (a := a)
  unfold filled at h
  walk_at "go"
  refine ⟨z, a, rfl, rfl, by omega, ha, ?_⟩
  walk_at "go"
  refine i_dec (fun e => ?_) (fun e => ?_)
  · rw [if_pos (rb.mp (by omega))] at h
    walk_at "go"
    intro dd nd
    exact Rz.at h nd
  have rne : run z a ≠ [] := fun e' => e (by rw [rb.mpr e'])
  rw [if_neg rne] at h
  walk_at "go"
  refine i_sl_str (by omega) ?_
  rw [cutN_run ha]
  clear rb
  generalize run z a = r at *
  generalize bd z a = b at *
  walk_at "go"
  obtain ⟨c, r', rfl⟩ : ∃ c r', r = c :: r' := by
    cases r with
    | nil => exact absurd rfl rne
    | cons c r' => exact ⟨c, r', rfl⟩
  refine i_cut (fun σ H' => σ = [some (S z), some (.int (a : Int)), some (.ref q), some (.int (b : Int)), some (S (c :: r')), none] ∧ H' = H ∧ ¬ ((c :: r').take 1 = [48] ∨ within (c :: r') (max 1 n) 24 = false)) ?_ ?_
  · walk_at "go"
    refine i_ix_str (c := c) (by omega) (by decide) rfl ?_
    walk_at "go"
    refine i_dec (fun e1 => ?_) (fun e1 => ?_)
    · rw [if_pos (.inl e1)] at h
      walk_at "go"
      intro dd nd
      exact Rz.at h nd
    · unfold Sv at hq
      walk_at "go"
      refine ⟨1, (n : Int), rfl, ?_⟩
      have em : (if (n : Int) > 1 then (n : Int) else 1) = ((max 1 n : Nat) : Int) := by split <;> omega
      rw [em]
      walk_at "go"
      refine ⟨c :: r', max 1 n, 24, rfl, rfl, rfl, by omega, dg, ?_⟩
      walk_at "go"
      cases hw : within (c :: r') (max 1 n) 24 with
      | true =>
        walk_at "go"
        exact ⟨rfl, rfl, fun z => z.elim e1 (fun z => nomatch z)⟩
      | false =>
        rw [if_pos (.inr hw)] at h
        walk_at "go"
        intro dd nd
        exact Rz.at h nd
  rintro σ H' ⟨rfl, rfl, hg⟩
  rw [if_neg hg] at h
  have hw : within (c :: r') (max 1 n) 24 = true := by
    cases hw : within (c :: r') (max 1 n) 24 with
    | true => rfl
    | false => exact absurd (.inr hw) hg
  obtain ⟨w1, w2, w3, w4⟩ := within_iff.mp hw
  walk_at "go"
  refine i_intTx w1 w2 dg ?_
  generalize num (c :: r') = m at *
  have hn : n ≤ 24 := by omega
  unfold Sv at hq
  rw [if_pos hn] at hq
  walk_at "go"
  refine i_mul_strI (by omega) ⟨by show 1 * _ ≤ _; omega, by omega⟩ ?_
  rw [flat_one', show ((m : Int) - (n : Int)).toNat = m - n by omega]
  walk_at "go"
  refine i_add_str (by rw [hl hn, List.length_replicate]; omega) ?_
  walk_at "go"
  refine i_new (by show 2 ≤ 100000; omega) fun p1 n1 => ?_
  walk_at "go"
  refine i_new (by show 2 ≤ 100000; omega) fun p2 n2 => ?_
  refine h p2 p1 _ ((same_upd n1).trans (same_upd n2)) ?_ upd_same
  rw [upd_ne (fun e => by rw [← e, upd_same] at n2; cases n2), upd_same]
  show _ = some (HO.tup [.int (m : Int), if m ≤ 24 then _ else _])
  rw [if_pos w4]
  rfl
theorem ok_read_part (T : Txt K mg w C_GlimError C_BadRound C_BadText C_BadLine C_BadWay C_TooLong C_Lines C_NUMBERED) (d : Nat) (R : OK P w K mg base (L2N.CX P w) (3 * d + 4) "read_item" ["text", "at", "opened"] (sp3 (p_rdp C_BadText (fun z => rdItem z d) d))) :
    OK P w K mg base (L2N.CX P w) (3 * d + 5) "read_part" ["text", "at", "opened"] (sp3 (p_rdp C_BadText (fun z => Fg.part (rdItem z d) z) d)) := by
  refine Fg.OK.mkXN (k := 3 * d + 4) T.d_read_part sc_read_part len3 fun f cdv A outer s H vs Q E hr h => ?_
  obtain ⟨x, y, z, rfl, h⟩ := h
  refine ⟨_, (pss_cons (ps_set (i := 3) sc_read_part.nd rfl (Or.inl rfl) (pe_tup (pa_cons pe_int (pa_cons (pe_S []) pa_nil)))) (Evl.pss_cut (ps_while (passes_of rfl) (pw_and (pt_cmpR op_ltP (pv 1) (pe_callB (cLen K) (by rfl) T.b_len (by decide +kernel) (pa_cons (pv 0) pa_nil)) (nomark _)) (pw_and1 (pw_or (pt_cmpR (opIn K) (pe_ix (ixK K) (pv 0) (pv 1) (fun _ _ => rfl)) (pe_gS [46, 103, 114, 119] T.g_SIGNS) (by with_unfolding_all rfl)) (pw_or1 (pt_cmpR (opIn K) (pe_ix (ixK K) (pv 0) (pv 1) (fun _ _ => rfl)) (pe_gS [48, 49, 50, 51, 52, 53, 54, 55, 56, 57] T.g_DIGITS_rhythmtext) (by with_unfolding_all rfl)))).pt)).pt (pss_cons (ps_asg (pe_f R (hr.mono (by omega)) (L2N.passes_call (L2N.takes_of rfl rfl rfl rfl) (fun _ _ _ _ h => h)) (pa_cons (pv 0) (pa_cons (pv 1) (pa_cons (pv 2) pa_nil)))) (pgTup (n := 2) K rfl (pgs_cons (pg_name (i := 4) sc_read_part.nd rfl (Or.inl rfl)) (pgs_cons (pg_name (i := 1) sc_read_part.nd rfl (Or.inl rfl)) pgs_nil)))) (pss_one (ps_set (i := 3) sc_read_part.nd rfl (Or.inl rfl) (pe_f (ok_put_behind (K := K) T) (hr.mono (by omega)) pass0 (pa_cons (pv 3) (pa_cons (pv 4) pa_nil))))))) (pss_cons (ps_if (pt_cmpR (opEq K hr.units) (pe_ix (ixK K) (pv 3) pe_int (fun _ _ => rfl)) pe_int (nomark _)) (pss_one (Fg.ps_raisePN rfl (L2N.takes_of rfl rfl rfl rfl) (Fg.pmk_EN (k := 0) (okx_BadText T) (hr.mono (by omega)) (pa_cons (pv 1) pa_nil)))) pss_nil) (pss_cons (ps_if (pw_and (pt_cmpR op_ltP (pv 1) (pe_callB (cLen K) (by rfl) T.b_len (by decide +kernel) (pa_cons (pv 0) pa_nil)) (nomark _)) (pw_and1 (pt_cmpR (opEq K hr.units) (pe_ix (ixK K) (pv 0) (pv 1) (fun _ _ => rfl)) (pe_S [64]) (nomark _)))).pt (pss_one (ps_ret (pe_f (ok_read_filled (K := K) T) (hr.mono (by omega)) (L2N.passes_call (L2N.takes_of rfl rfl rfl rfl) (fun _ _ _ _ h => h)) (pa_cons (pv 0) (pa_cons (pe_op (opAdd K) (pv 1) pe_int) (pa_cons (pv 3) pa_nil)))))) pss_nil) (pss_one (ps_ret (pe_tup (pa_cons (pv 3) (pa_cons (pv 1) pa_nil))))))))), ?_⟩
  show (_ : TS) { nx := fun _ H' => Q .non H', rt := Q } [some x, some y, some z, none, none] H
  obtain ⟨z, a, o, rfl, rfl, rfl, ho, hz, ha, h⟩ := h
  replace h : Out C_BadText H Q E (Fg.part (rdItem z d) z a) := h
  unfold Fg.part at h
  have gd := rdItem_gd z d
  walk_at "go"
  refine i_new (by show 2 ≤ 100000; omega) fun p0 n0 => ?_
  walk_at "go"
  refine i_cut (fun σ H' => ∃ (b : Nat) (p : Stv) (pq : Addr) (v : Option V), σ = [some (S z), some (.int (b : Int)), some (.int o), some (.ref pq), v] ∧ a ≤ b ∧ b ≤ z.length ∧ Same H H' ∧ H' pq = some (Sv p.1 p.2) ∧ Gb p (b - a) ∧
    Out C_BadText H Q E (partEnd z p b)) ?_ ?_
  · refine i_while (fun m σ H' => ∃ (f b : Nat) (p : Stv) (pq : Addr) (v : Option V), m = z.length - b ∧ σ = [some (S z), some (.int (b : Int)), some (.int o), some (.ref pq), v] ∧ a ≤ b ∧ b ≤ z.length ∧ z.length + 1 ≤ f + b ∧ Same H H' ∧ H' pq = some (Sv p.1 p.2) ∧ Gb p (b - a) ∧
      Out C_BadText H Q E (goOn (partEnd z) (items (rdItem z d) z f b p))) (z.length - a) ⟨z.length + 1 - a, a, (0, []), p0, _, rfl, rfl, Nat.le_refl _, ha, by omega, same_upd n0, upd_same, ⟨by rw [Nat.sub_self]; decide, fun _ => rfl⟩, h⟩ ?_
    rintro m σ H' ⟨f, b, p, pq, v, rfl, rfl, hab, hb, hf, s1, hp, gp, h⟩
    obtain ⟨f', rfl⟩ : ∃ f', f = f' + 1 := ⟨f - 1, by omega⟩
    unfold items at h
    walk_at "go"
    by_cases hl : b < z.length
    case neg =>
      rw [List.getElem?_eq_none (by omega)] at h
      refine i_dec (fun e => absurd (by omega) hl) (fun _ => ?_)
      walk_at "go"
      exact ⟨b, p, pq, v, rfl, hab, hb, s1, hp, gp, h⟩
    have hc : z[b]? = some z[b] := List.getElem?_eq_getElem hl
    rw [hc] at h
    generalize z[b] = c at *
    dsimp only at h
    have ixc : ∀ {H : Hp} {Q : VK}, Q (S [c]) H → ixP K (S z) (.int (b : Int)) H Q := fun k => i_ix_str (by omega) (by omega) (by rw [Int.toNat_natCast]; exact hc) k
    have turn : isStart c = true → tSeq (tAsg (tCall (sp3 (p_rdp C_BadText (fun z => rdItem z d) d)) [] E (tCons (tVar 0) (tCons (tVar 1) (tCons (tVar 2) tNil)))) (gTup K 2 (gCons (gName 4) (gCons (gName 1) gNil)))) (tAsg (tCall (sp2 p_behind) [] E0 (tCons (tVar 3) (tCons (tVar 4) tNil))) (gName 3))
        { nx := fun σ' H2 => ∃ m', m' < z.length - b ∧ ∃ (f b : Nat) (p : Stv) (pq : Addr) (v : Option V), m' = z.length - b ∧ σ' = [some (S z), some (.int (b : Int)), some (.int o), some (.ref pq), v] ∧ a ≤ b ∧ b ≤ z.length ∧ z.length + 1 ≤ f + b ∧ Same H H2 ∧ H2 pq = some (Sv p.1 p.2) ∧ Gb p (b - a) ∧ Out C_BadText H Q E (goOn (partEnd z) (items (rdItem z d) z f b p)), rt := Q }
        [some (S z), some (.int (b : Int)), some (.int o), some (.ref pq), v] H' := fun hs => by
      rw [if_pos hs] at h
      walk_at "go"
      refine ⟨z, b, o, rfl, rfl, rfl, ho, hz, hb, ?_⟩
      show Out _ _ _ _ (rdItem z d b)
      cases hr2 : rdItem z d b with
      | error k =>
        rw [hr2] at h
        exact Rz.mono h s1
      | ok se =>
        obtain ⟨s2, e2⟩ := se
        obtain ⟨g1, g2, g3, g4⟩ := gd b s2 e2 (by omega) hr2
        rw [hr2] at h
        intro p4 q4 H4 sm hq hp4
        walk_at "go"
        refine ⟨pq, q4, p.1, s2.1, p.2, s2.2, rfl, rfl, sm _ _ hp, hq, gp.2, g4.2, fun p5 n5 => ?_⟩
        walk_at "go"
        refine ⟨z.length - e2, by omega, f', e2, beh p s2, p5, _, rfl, rfl, by omega, g2, by omega, (s1.trans sm).trans (same_upd n5), upd_same, ?_, h⟩
        have := gp.beh g4
        rw [show b - a + (e2 - b) = e2 - a by omega] at this
        exact this
    have stop : isStart c = false → Out C_BadText H Q E (partEnd z p b) := fun hs => by
      rw [if_neg (by rw [hs]; decide)] at h
      exact h
    refine i_dec (fun _ => ?_) (fun e => absurd (by omega) e)
    walk_at "go"
    refine ixc ?_
    walk_at "go"
    refine i_dec (fun e1 => ?_) (fun e1 => ?_)
    · walk_at "go"
      refine i_turn ?_
      exact turn (by unfold isStart; rw [decide_eq_true e1]; rfl)
    walk_at "go"
    refine ixc ?_
    walk_at "go"
    refine i_dec (fun e2 => i_turn ?_) (fun e2 => ?_)
    · exact turn (by unfold isStart; rw [decide_eq_true e2, Bool.or_true])
    · exact ⟨b, p, pq, v, rfl, hab, hb, s1, hp, gp, stop (by unfold isStart; rw [decide_eq_false e1, decide_eq_false e2]; rfl)⟩
  · rintro σ H' ⟨b, ⟨n, l⟩, pq, v, rfl, hab, hb, s1, hp, gp, h⟩
    unfold partEnd at h
    dsimp only at h hp
    have ps : H' pq = some (.tup [.int (n : Int), if n ≤ 24 then S l else .non]) := hp
    walk_at "go"
    refine i_dec (fun e => ?_) (fun e => ?_)
    · rw [if_pos (by omega)] at h
      walk_at "go"
      intro dd nd
      exact Rz.at (Rz.mono h s1) nd
    rw [if_neg (by omega)] at h
    walk_at "go"
    have plain : Out C_BadText H Q E (.ok ((n, l), b)) → ∀ p4, H' p4 = none → Q (.ref p4) (upd H' p4 (.tup [.ref pq, .int (b : Int)])) := fun h p4 n4 =>
      h p4 pq _ (s1.trans (same_upd n4)) ((upd_ne (ne_of_none hp n4)).trans hp) upd_same
    by_cases hl : b < z.length
    case neg =>
      rw [List.getElem?_eq_none (by omega), if_neg (by simp)] at h
      refine i_dec (fun e => absurd (by omega) hl) (fun _ => ?_)
      walk_at "go"
      exact i_new (by show 2 ≤ 100000; omega) (plain h)
    have hc : z[b]? = some z[b] := List.getElem?_eq_getElem hl
    rw [hc] at h
    generalize z[b] = c at *
    refine i_dec (fun _ => ?_) (fun e => absurd (by omega) e)
    walk_at "go"
    refine i_ix_str (c := c) (by omega) (by omega) (by rw [Int.toNat_natCast]; exact hc) ?_
    walk_at "go"
    refine i_dec (fun e2 => ?_) (fun e2 => ?_)
    · rw [if_pos (by rw [(List.cons.inj e2).1])] at h
      walk_at "go"
      refine ⟨z, b + 1, pq, (n, l), rfl, by rw [Int.natCast_add]; rfl, rfl, hp, gp.2, hz, by omega, ?_⟩
      revert h
      generalize filled z (b + 1) (n, l) = r
      cases r with
      | error k => exact fun h => Rz.mono h s1
      | ok se => exact fun h p q H2 s2 => h p q H2 (s1.trans s2)
    · rw [if_neg (fun z => e2 (by rw [Option.some.inj z]))] at h
      walk_at "go"
      exact i_new (by show 2 ≤ 100000; omega) (plain h)
end
theorem Out.mono {C : Addr} {H H' : Hp} {Q : VK} {E : XK} {r : Res} (h : Out C H Q E r) (s : Same H H') : Out C H' Q E r := by
  cases r with
  | error k => exact Rz.mono h s
  | ok se => exact fun p q H2 s2 => h p q H2 (s.trans s2)
section
variable {P : Program} {w : World} {K : PySem.W.Frag} {mg : Str → Option Value} {base : Heap} {C_GlimError C_BadRound C_BadText C_BadLine C_BadWay C_TooLong C_Lines C_NUMBERED : Addr}
theorem ok_read_parts (T : Txt K mg w C_GlimError C_BadRound C_BadText C_BadLine C_BadWay C_TooLong C_Lines C_NUMBERED) (d : Nat) (R : OK P w K mg base (L2N.CX P w) (3 * d + 5) "read_part" ["text", "at", "opened"] (sp3 (p_rdp C_BadText (fun z => Fg.part (rdItem z d) z) d))) :
    OK P w K mg base (L2N.CX P w) (3 * d + 6) "read_parts" ["text", "at", "opened"] (sp3 (PD C_BadText (d + 1))) := by
  refine Fg.OK.mkXN (k := 3 * d + 5) T.d_read_parts sc_read_parts len3 fun f cdv A outer s H vs Q E hr h => ?_
  obtain ⟨x, y, z, rfl, h⟩ := h
  refine ⟨_, (pss_cons (ps_asg (pe_f R (hr.mono (by omega)) (L2N.passes_call (L2N.takes_of rfl rfl rfl rfl) (fun _ _ _ _ h => h)) (pa_cons (pv 0) (pa_cons (pv 1) (pa_cons (pv 2) pa_nil)))) (pgTup (n := 2) K rfl (pgs_cons (pg_name (i := 3) sc_read_parts.nd rfl (Or.inl rfl)) (pgs_cons (pg_name (i := 1) sc_read_parts.nd rfl (Or.inl rfl)) pgs_nil)))) (pss_cons (ps_set (i := 4) sc_read_parts.nd rfl (Or.inl rfl) (pe_lst (pa_cons (pv 3) pa_nil))) (Evl.pss_cut (ps_while (passes_of rfl) (pw_and (pt_cmpR op_ltP (pv 1) (pe_callB (cLen K) (by rfl) T.b_len (by decide +kernel) (pa_cons (pv 0) pa_nil)) (nomark _)) (pw_and1 (pt_cmpR (opEq K hr.units) (pe_ix (ixK K) (pv 0) (pv 1) (fun _ _ => rfl)) (pe_S [38]) (nomark _)))).pt (pss_cons (ps_asg (pe_f R (hr.mono (by omega)) (L2N.passes_call (L2N.takes_of rfl rfl rfl rfl) (fun _ _ _ _ h => h)) (pa_cons (pv 0) (pa_cons (pe_op (opAdd K) (pv 1) pe_int) (pa_cons (pv 2) pa_nil)))) (pgTup (n := 2) K rfl (pgs_cons (pg_name (i := 3) sc_read_parts.nd rfl (Or.inl rfl)) (pgs_cons (pg_name (i := 1) sc_read_parts.nd rfl (Or.inl rfl)) pgs_nil)))) (pss_one (ps_expr (peApp K (pv 4) (pa_cons (pv 3) pa_nil)))))) (pss_one (ps_ret (pe_tup (pa_cons (pe_f (ok_shown_together (K := K) T) (hr.mono (by omega)) pass0 (pa_cons (pv 4) pa_nil)) (pa_cons (pv 1) pa_nil)))))))), ?_⟩
  show (_ : TS) { nx := fun _ H' => Q .non H', rt := Q } [some x, some y, some z, none, none] H
  obtain ⟨z, a, o, rfl, rfl, rfl, ho, hz, ha, h⟩ := h
  replace h : Out C_BadText H Q E (rd z d a) := h
  rw [rd_eq] at h
  unfold Fg.parts at h
  have gd := part_gd (rdItem_gd z d)
  walk_at "go"
  refine ⟨z, a, o, rfl, rfl, rfl, ho, hz, ha, ?_⟩
  show Out _ _ _ _ (Fg.part (rdItem z d) z a)
  cases hr1 : Fg.part (rdItem z d) z a with
  | error k =>
    rw [hr1] at h
    exact h
  | ok se =>
  obtain ⟨s1, e1⟩ := se
  obtain ⟨g1, g2, g3, g4⟩ := gd a s1 e1 ha hr1
  rw [hr1] at h
  intro p1 q1 H1 sm1 hq1 hp1
  walk_at "go"
  refine i_new (by show 1 ≤ 100000; omega) fun Dl nD => ?_
  walk_at "go"
  have nD0 := sm1.free nD
  refine i_cut (fun σ H' => ∃ (b : Nat) (ps : List Stv) (qs : List Addr) (v : Option V), σ = [some (S z), some (.int (b : Int)), some (.int o), v, some (.ref Dl)] ∧ a ≤ b ∧ b ≤ z.length ∧ Same H H' ∧ H' Dl = some (.lst (qs.map V.ref)) ∧ PartsAt H' qs ps ∧ ps.length ≤ b ∧ Gps ps (b - a) ∧
    Out C_BadText H Q E (.ok (shown ps, b))) ?_ ?_
  · refine i_while (fun m σ H' => ∃ (f b : Nat) (ps : List Stv) (qs : List Addr) (v : Option V), m = z.length - b ∧ σ = [some (S z), some (.int (b : Int)), some (.int o), v, some (.ref Dl)] ∧ a ≤ b ∧ b ≤ z.length ∧ z.length + 1 ≤ f + b ∧ Same H H' ∧ H' Dl = some (.lst (qs.map V.ref)) ∧ PartsAt H' qs ps ∧ ps.length ≤ b ∧ Gps ps (b - a) ∧
      Out C_BadText H Q E (more (Fg.part (rdItem z d) z) z f b ps)) (z.length - e1) ⟨z.length + 1 - e1, e1, [s1], [q1], _, rfl, rfl, by omega, g2, by omega, Same.upd sm1 nD0, upd_same, ⟨rfl, ?_⟩, by show 1 ≤ e1; omega, Gps.one g3 g4, h⟩ ?_
    · intro i q p h1 h2
      match i, h1, h2 with
      | 0, h1, h2 => cases h1; cases h2; exact (upd_ne (ne_of_none hq1 nD)).trans hq1
    rintro m σ H' ⟨f, b, ps, qs, v, rfl, rfl, hab, hb, hf, sm, hD, hP, hL, gp, h⟩
    obtain ⟨f', rfl⟩ : ∃ f', f = f' + 1 := ⟨f - 1, by omega⟩
    unfold more at h
    walk_at "go"
    by_cases hl : b < z.length
    case neg =>
      rw [List.getElem?_eq_none (by omega), if_neg (by simp)] at h
      refine i_dec (fun e => absurd (by omega) hl) (fun _ => ?_)
      walk_at "go"
      exact ⟨b, ps, qs, v, rfl, hab, hb, sm, hD, hP, hL, gp, h⟩
    have hc : z[b]? = some z[b] := List.getElem?_eq_getElem hl
    rw [hc] at h
    generalize z[b] = c at *
    refine i_dec (fun _ => ?_) (fun e => absurd (by omega) e)
    walk_at "go"
    refine i_ix_str (c := c) (by omega) (by omega) (by rw [Int.toNat_natCast]; exact hc) ?_
    walk_at "go"
    refine i_dec (fun e2 => i_turn ?_) (fun e2 => ?_)
    · rw [if_pos (by rw [(List.cons.inj e2).1])] at h
      walk_at "go"
      refine ⟨z, b + 1, o, rfl, by rw [Int.natCast_add]; rfl, rfl, ho, hz, by omega, ?_⟩
      show Out _ _ _ _ (Fg.part (rdItem z d) z (b + 1))
      cases hr2 : Fg.part (rdItem z d) z (b + 1) with
      | error k =>
        rw [hr2] at h
        exact Rz.mono h sm
      | ok se =>
        obtain ⟨s2, e2⟩ := se
        obtain ⟨g5, g6, g7, g8⟩ := gd (b + 1) s2 e2 (by omega) hr2
        rw [hr2] at h
        intro p2 q2 H2 sm2 hq2 hp2
        walk_at "go"
        have hD2 := sm2 _ _ hD
        refine i_appAt hD2 ?_
        walk_at "go"
        have hlen := hP.1
        refine i_appEnd hD2 (by rw [List.length_map]; omega) ?_
        refine ⟨z.length - e2, by omega, f', e2, ps ++ [s2], qs ++ [q2], _, rfl, rfl, by omega, g6, by omega, Same.upd (sm.trans sm2) nD0, ?_, ⟨by rw [List.length_append, List.length_append, hlen]; rfl, ?_⟩, by rw [List.length_append]; show ps.length + 1 ≤ e2; omega, ?_, h⟩
        · rw [upd_same, List.map_append]; rfl
        · intro i q p h1 h2
          have key : H2 q = some (Sv p.1 p.2) := by
            by_cases hi : i < qs.length
            · rw [List.getElem?_append_left hi] at h1
              rw [List.getElem?_append_left (by omega)] at h2
              exact sm2 _ _ (hP.2 i q p h1 h2)
            · rw [List.getElem?_append_right (by omega)] at h1
              rw [List.getElem?_append_right (by omega)] at h2
              have e0 : i - qs.length = 0 := by
                have := (List.getElem?_eq_some_iff.mp h1).1
                rw [List.length_singleton] at this
                omega
              rw [e0] at h1
              rw [show i - ps.length = 0 by omega] at h2
              cases h1; cases h2
              exact hq2
          rw [upd_ne (fun e => by rw [e, hD2] at key; cases key)]
          exact key
        · exact (gp.snoc g7 g8).mono (by omega)
    · rw [if_neg (fun z => e2 (by rw [Option.some.inj z]))] at h
      exact ⟨b, ps, qs, v, rfl, hab, hb, sm, hD, hP, hL, gp, h⟩
  · rintro σ H' ⟨b, ps, qs, v, rfl, hab, hb, sm, hD, hP, hL, gp, h⟩
    walk_at "go"
    refine ⟨Dl, qs, ps, rfl, .inl (.inl hD), hP, by omega, gp.2, gp.big (by omega), fun p H3 s3 h3 => ?_⟩
    walk_at "go"
    refine i_new (by show 2 ≤ 100000; omega) fun p4 n4 => ?_
    exact h p4 p _ ((sm.trans s3).trans (same_upd n4)) ((upd_ne (ne_of_none h3 n4)).trans h3) upd_same
theorem parts_all (T : Txt K mg w C_GlimError C_BadRound C_BadText C_BadLine C_BadWay C_TooLong C_Lines C_NUMBERED) : ∀ d, OK P w K mg base (L2N.CX P w) (3 * d + 3) "read_parts" ["text", "at", "opened"] (sp3 (PD C_BadText d))
  | 0 => by
    refine Fg.OK.mkXN (k := 2) T.d_read_parts sc_read_parts len3 fun f cdv A outer s H vs Q E hr h => ?_
    obtain ⟨x, y, u, rfl, h⟩ := h
    exact h.elim
  | d + 1 => ok_read_parts T d (ok_read_part T d (ok_read_item T d (parts_all T d)))
/-- the whole text -/
def OutR (C CT : Addr) (H : Hp) (Q : VK) (E : XK) (z : List Nat) : Prop :=
  match rd z 6 0 with
  | .error k => Rz E H C "at" (.int (k : Int))
  | .ok (s, e) => if e < z.length then Rz E H C "at" (.int (e : Int)) else if 24 < s.1 then Rz E H CT "number" (.int (s.1 : Int)) else ∀ H', Same H H' → Q (S s.2) H'
def p_round (C CT : Addr) : P1 := fun x H Q E => (∃ z : List Nat, x = S z ∧ z.length ≤ 1700 ∧ OutR C CT H Q E z) ∨ (NoStr H x ∧ Rz E H C "at" (.int (-1)))
theorem ok_read_round (T : Txt K mg w C_GlimError C_BadRound C_BadText C_BadLine C_BadWay C_TooLong C_Lines C_NUMBERED) : OK P w K mg base (L2N.CX P w) 25 "read_round" ["text"] (sp1  (p_round C_BadText C_TooLong)) := by
  refine Fg.OK.mkXN (k := 24) T.d_read_round sc_read_round len1 fun f cdv A outer s H vs Q E hr h => ?_
  obtain ⟨x, rfl, h⟩ := h
  refine ⟨_, (pss_cons (ps_if (pt_not (pt_val (pe_callB (cIsi K) (by rfl) T.b_isinstance (by decide +kernel) (pa_cons (pv 0) (pa_cons (pe_bltn (v := .ty "str") (by rfl) T.b_str (by decide +kernel) rfl) pa_nil))))) (pss_one (Fg.ps_raisePN rfl (L2N.takes_of rfl rfl rfl rfl) (Fg.pmk_EN (k := 0) (okx_BadText T) (hr.mono (by decide)) (pa_cons (pe_un un_neg pe_int) pa_nil)))) pss_nil) (pss_cons (ps_asg (pe_f (parts_all (K := K) T 7) (hr.mono (by decide)) (L2N.passes_call (L2N.takes_of rfl rfl rfl rfl) (fun _ _ _ _ h => h)) (pa_cons (pv 0) (pa_cons pe_int (pa_cons pe_int pa_nil)))) (pgTup (n := 2) K rfl (pgs_cons (pg_name (i := 1) sc_read_round.nd rfl (Or.inl rfl)) (pgs_cons (pg_name (i := 2) sc_read_round.nd rfl (Or.inl rfl)) pgs_nil)))) (pss_cons (ps_if (pt_cmpR op_ltP (pv 2) (pe_callB (cLen K) (by rfl) T.b_len (by decide +kernel) (pa_cons (pv 0) pa_nil)) (nomark _)) (pss_one (Fg.ps_raisePN rfl (L2N.takes_of rfl rfl rfl rfl) (Fg.pmk_EN (k := 0) (okx_BadText T) (hr.mono (by decide)) (pa_cons (pv 2) pa_nil)))) pss_nil) (pss_cons (ps_if (pt_cmpR op_gtP (pe_ix (ixK K) (pv 1) pe_int (fun _ _ => rfl)) (pe_gI (24) T.g_MOST_ROUND) (nomark _)) (pss_one (Fg.ps_raisePN rfl (L2N.takes_of rfl rfl rfl rfl) (Fg.pmk_EN (k := 0) (okx_TooLong T) (hr.mono (by decide)) (pa_cons (pe_ix (ixK K) (pv 1) pe_int (fun _ _ => rfl)) pa_nil)))) pss_nil) (pss_one (ps_ret (pe_ix (ixK K) (pv 1) pe_int (fun _ _ => rfl)))))))), ?_⟩
  show (_ : TS) { nx := fun _ H' => Q .non H', rt := Q } [some x, none, none] H
  rcases h with ⟨z, rfl, hz, h⟩ | ⟨h, hr⟩
  · unfold OutR at h
    walk_at "go"
    refine ⟨z, 0, 0, rfl, rfl, rfl, by decide, hz, by omega, ?_⟩
    show Out _ _ _ _ (rd z 6 0)
    cases hr1 : rd z 6 0 with
    | error k =>
      rw [hr1] at h
      exact h
    | ok se =>
    obtain ⟨⟨n, l⟩, e⟩ := se
    obtain ⟨g1, g2, g3, g4⟩ := rd_gd z 6 0 (n, l) e (by omega) hr1
    rw [hr1] at h
    dsimp only at h g3
    intro p q H1 sm hq hp
    have ps : H1 q = some (.tup [.int (n : Int), if n ≤ 24 then S l else .non]) := hq
    walk_at "go"
    refine i_dec (fun e1 => ?_) (fun e1 => ?_)
    · rw [if_pos (by omega)] at h
      walk_at "go"
      intro dd nd
      exact Rz.at (Rz.mono h sm) nd
    rw [if_neg (by omega)] at h
    walk_at "go"
    refine i_dec (fun e2 => ?_) (fun e2 => ?_)
    · rw [if_pos (by omega)] at h
      walk_at "go"
      intro dd nd
      exact Rz.at (Rz.mono h sm) nd
    · rw [if_neg (by omega)] at h
      walk_at "go"
      rw [if_pos (by omega)]
      exact h H1 sm
  · rcases h with rfl | ⟨b, rfl⟩ | ⟨i, rfl⟩ | ⟨a, xs, rfl, h | h⟩
    · walk_at "go"
      intro dd nd
      exact Rz.at hr nd
    · walk_at "go"
      intro dd nd
      exact Rz.at hr nd
    · walk_at "go"
      intro dd nd
      exact Rz.at hr nd
    · walk_at "go"
      refine i_isi_tup_str h ?_
      walk_at "go"
      intro dd nd
      exact Rz.at hr nd
    · walk_at "go"
      refine i_isi_lst_str h ?_
      walk_at "go"
      intro dd nd
      exact Rz.at hr nd
end
def IsRound (l : List Nat) : Prop := 1 ≤ l.length ∧ l.length ≤ 24 ∧ ∀ c ∈ l, c ∈ SG
def oS : Option (List Nat) → V
  | none => .non
  | some t => S t
/-- no round, and what BadRound bears of it -/
def BadR (H : Hp) (x : V) (k : Int) : Prop := (NoStr H x ∧ k = -1) ∨ ∃ l, x = S l ∧ l.length ≤ 1000 ∧ ((¬ (1 ≤ l.length ∧ l.length ≤ 24) ∧ k = -1) ∨ ((1 ≤ l.length ∧ l.length ≤ 24) ∧ ∃ p, firstBad l = some p ∧ k = (p : Int)))
theorem BadR.mono {H H' : Hp} {x : V} {k : Int} (h : BadR H x k) (s : Same H H') : BadR H' x k := by
  rcases h with ⟨h, e⟩ | h
  · exact .inl ⟨h.mono s, e⟩
  · exact .inr h
def BadX (C : Addr) (H : Hp) (x : V) (E : XK) : Prop := ∃ k, BadR H x k ∧ Rz E H C "number" (.int k)
theorem BadX.mono {C : Addr} {H H' : Hp} {x : V} {E : XK} (h : BadX C H x E) (s : Same H H') : BadX C H' x E := by
  obtain ⟨k, h1, h2⟩ := h
  exact ⟨k, h1.mono s, h2.mono s⟩
theorem flat_rep (n c : Nat) : (List.replicate n [c]).flatten = List.replicate n c := by
  induction n with
  | zero => rfl
  | succ n ih => rw [List.replicate_succ, List.flatten_cons, ih, List.replicate_succ]; rfl
theorem cutN_mid {z : List Nat} {a b : Nat} : cutN z (some (a : Int)) (some ((a + b : Nat) : Int)) = (z.drop a).take b := by
  unfold cutN
  rw [HT.sIx_nat, HT.sIx_nat]
  by_cases h : a ≤ z.length
  · rw [Nat.min_eq_left h]
    by_cases h2 : a + b ≤ z.length
    · rw [Nat.min_eq_left h2]; congr 1; omega
    · rw [Nat.min_eq_right (by omega), List.take_of_length_le (by rw [List.length_drop]; omega), List.take_of_length_le (by rw [List.length_drop]; omega)]
  · have e1 : min a z.length = z.length := by omega
    have e2 : min (a + b) z.length = z.length := by omega
    rw [e1, e2, Nat.sub_self, List.take_zero, List.drop_of_length_le (show z.length ≤ a by omega), List.take_nil]
section
variable {P : Program} {w : World} {K : PySem.W.Frag} {mg : Str → Option Value} {base : Heap} {C_GlimError C_BadRound C_BadText C_BadLine C_BadWay C_TooLong C_Lines C_NUMBERED : Addr}
def p_check_round (C : Addr) : P1 := fun x H Q E => (∃ l, x = S l ∧ IsRound l ∧ ∀ H', Same H H' → Q .non H') ∨ BadX C H x E
theorem ok_check_round (T : Txt K mg w C_GlimError C_BadRound C_BadText C_BadLine C_BadWay C_TooLong C_Lines C_NUMBERED) : OK P w K mg base (L2.CX P w) 3 "check_round" ["thing"] (sp1  (p_check_round C_BadRound)) := by
  refine OK.mkX (k := 2) T.d_check_round sc_check_round len1 fun f cdv A outer s H vs Q E hr h => ?_
  obtain ⟨x, rfl, h⟩ := h
  refine ⟨_, (pss_cons (ps_if (pw_or (pt_not (pt_val (pe_callB (cIsi K) (by rfl) T.b_isinstance (by decide +kernel) (pa_cons (pv 0) (pa_cons (pe_bltn (v := .ty "str") (by rfl) T.b_str (by decide +kernel) rfl) pa_nil))))) (pw_or1 (pt_not (pt_chain op_leP op_leP pe_int (pe_callB (cLen K) (by rfl) T.b_len (by decide +kernel) (pa_cons (pv 0) pa_nil)) (pe_gI (24) T.g_MOST_ROUND))))).pt (pss_one (ps_raiseP rfl (takes_of rfl rfl rfl rfl) (pmk_E (k := 0) (okx_BadRound T) (hr.mono (by decide)) (pa_cons (pe_un un_neg pe_int) pa_nil)))) pss_nil) (pss_cons (ps_set (i := 1) sc_check_round.nd rfl (Or.inl rfl) (pe_f (ok_wrong_sign (K := K) T) (hr.mono (by decide)) pass0 (pa_cons (pv 0) pa_nil))) (pss_one (ps_if (pt_cmpR op_isNotP (pv 1) pe_non (nomark _)) (pss_one (ps_raiseP rfl (takes_of rfl rfl rfl rfl) (pmk_E (k := 0) (okx_BadRound T) (hr.mono (by decide)) (pa_cons (pv 1) pa_nil)))) pss_nil)))), ?_⟩
  show (_ : TS) { nx := fun _ H' => Q .non H', rt := Q } [some x, none] H
  rcases h with ⟨l, rfl, ⟨h1, h2, h3⟩, q⟩ | ⟨k, h | ⟨l, rfl, hl, h⟩, z⟩
  · walk_at "go"
    refine i_dec (fun e1 => ?_) (fun e1 => absurd (by omega) e1)
    walk_at "go"
    refine i_decN (fun e2 => absurd (by omega) e2) (fun e2 => ?_)
    walk_at "go"
    refine ⟨l, rfl, by omega, fun H1 s1 => ?_⟩
    rw [firstBad_none h3, show oV none = V.non from rfl]
    walk_at "go"
    exact q H1 s1
  · obtain ⟨h, rfl⟩ := h
    rcases h with rfl | ⟨b, rfl⟩ | ⟨i, rfl⟩ | ⟨a, xs, rfl, h | h⟩
    · walk_at "go"
      intro d nd
      exact z.at nd
    · walk_at "go"
      intro d nd
      exact z.at nd
    · walk_at "go"
      intro d nd
      exact z.at nd
    · walk_at "go"
      refine i_isi_tup_str h ?_
      walk_at "go"
      intro d nd
      exact z.at nd
    · walk_at "go"
      refine i_isi_lst_str h ?_
      walk_at "go"
      intro d nd
      exact z.at nd
  · rcases h with ⟨h, rfl⟩ | ⟨⟨h1, h2⟩, p, hp, rfl⟩
    · walk_at "go"
      refine i_dec (fun e1 => ?_) (fun e1 => ?_)
      · walk_at "go"
        refine i_decN (fun e2 => ?_) (fun e2 => absurd (by omega) h)
        walk_at "go"
        intro d nd
        exact z.at nd
      · walk_at "go"
        intro d nd
        exact z.at nd
    · walk_at "go"
      refine i_dec (fun e1 => ?_) (fun e1 => absurd (by omega) e1)
      walk_at "go"
      refine i_decN (fun e2 => absurd (by omega) e2) (fun e2 => ?_)
      walk_at "go"
      refine ⟨l, rfl, by omega, fun H1 s1 => ?_⟩
      rw [hp, show oV (some p) = V.int (p : Int) from rfl]
      walk_at "go"
      intro d nd
      exact (z.mono s1).at nd
def p_shortlex : P1 := fun x H Q _ => ∃ l, x = S l ∧ l.length ≤ 100000 ∧ ∀ p, H p = none → Q (.ref p) (upd H p (.tup [.int (l.length : Int), S l]))
theorem ok_shortlex (T : Txt K mg w C_GlimError C_BadRound C_BadText C_BadLine C_BadWay C_TooLong C_Lines C_NUMBERED) : OK P w K mg base CX0 1 "shortlex" ["row"] (sp1  p_shortlex) := by
  refine OK.mk (k := 0) T.d_shortlex sc_shortlex len1 fun f cdv A outer s H vs Q E hr h => ?_
  obtain ⟨x, rfl, h⟩ := h
  refine ⟨_, (pss_one (ps_ret (pe_tup (pa_cons (pe_callB (cLen K) (by rfl) T.b_len (by decide +kernel) (pa_cons (pv 0) pa_nil)) (pa_cons (pv 0) pa_nil))))), ?_⟩
  show (_ : TS) { nx := fun _ H' => Q .non H', rt := Q } [some x] H
  obtain ⟨l, rfl, h1, q⟩ := h
  walk_at "go"
  exact i_new (by show 2 ≤ 100000; omega) q
def p_least : P1 := fun x H Q _ => ∃ (a : Addr) (xs : List (List Nat)), x = .ref a ∧ H a = some (.lst (xs.map S)) ∧ xs ≠ [] ∧ (∀ y ∈ xs, y.length ≤ 1000) ∧ ∀ m H', m ∈ xs → (∀ y ∈ xs, ¬ lt2 y m) → Same H H' → Q (S m) H'
theorem ok_least_text (T : Txt K mg w C_GlimError C_BadRound C_BadText C_BadLine C_BadWay C_TooLong C_Lines C_NUMBERED) : OK P w K mg base CX0 3 "least_text" ["texts"] (sp1  p_least) := by
  refine OK.mk (k := 2) T.d_least_text sc_least_text len1 fun f cdv A outer s H vs Q E hr h => ?_
  obtain ⟨x, rfl, h⟩ := h
  refine ⟨_, (pss_one (ps_ret (pe_minK K (ok_shortlex (K := K) T) (hr.mono (by decide)) T.b_min (pv 0)))), ?_⟩
  show (_ : TS) { nx := fun _ H' => Q .non H', rt := Q } [some x] H
  obtain ⟨a, xs, rfl, ha, hne, hl, q⟩ := h
  walk_at "go"
  refine i_minK ?_
  walk_at "go"
  exact ⟨a, xs, rfl, .inl (.inl ha), hne, fun H' y s hy Q' k => ⟨y, rfl, Nat.le_trans (hl y hy) (by decide), k⟩, q⟩
def p_closed : P2 := fun x y H Q _ => ∃ (p : List Nat) (a : Addr) (n : Nat) (g : List Nat → Option V), x = S p ∧ y = .ref a ∧ 1 ≤ p.length ∧ p.length ≤ 24 ∧ TD n H a g ∧ (∀ u, u ≠ [] → u <+: p → g u = some (S (fT u))) ∧ ∀ H', Same H H' → Q (S (fC p)) H'
theorem ok_closed_text (T : Txt K mg w C_GlimError C_BadRound C_BadText C_BadLine C_BadWay C_TooLong C_Lines C_NUMBERED) : OK P w K mg base CX0 4 "closed_text" ["part", "texts"] (sp2  p_closed) := by
  refine OK.mk (k := 3) T.d_closed_text sc_closed_text len2 fun f cdv A outer s H vs Q E hr h => ?_
  obtain ⟨x, y, rfl, h⟩ := h
  refine ⟨_, (pss_cons (ps_set (i := 2) sc_closed_text.nd rfl (Or.inl rfl) (pe_lst (pa_cons (pe_dget (hu_of hr) (pv 1) (pv 0) (fun _ _ => rfl)) pa_nil))) (pss_cons (ps_for PassesOwn.never rfl (pi_range2 rfl T.b_range (pa_cons pe_int (pa_cons (pe_callB (cLen K) (by rfl) T.b_len (by decide +kernel) (pa_cons (pv 0) pa_nil)) pa_nil))) (pg_name (i := 3) sc_closed_text.nd rfl (Or.inl rfl)) (pss_one (ps_if (pt_cmpR (opEq K hr.units) (pe_slice (slK K) (pv 0) (po_some (pv 3)) po_none) (pe_op op_mulP (pe_S [46]) (pe_op op_subP (pe_callB (cLen K) (by rfl) T.b_len (by decide +kernel) (pa_cons (pv 0) pa_nil)) (pv 3))) (nomark _)) (pss_one (ps_expr (peApp K (pv 2) (pa_cons (pe_op (opAdd K) (pe_op (opAdd K) (pe_dget (hu_of hr) (pv 1) (pe_slice (slK K) (pv 0) po_none (po_some (pv 3))) (fun _ _ => rfl)) (pe_S [64])) (pe_callTy Fg.call_strS (by rfl) T.b_str (by decide +kernel) (pa_cons (pe_callB (cLen K) (by rfl) T.b_len (by decide +kernel) (pa_cons (pv 0) pa_nil)) pa_nil))) pa_nil)))) pss_nil))) (pss_one (ps_ret (pe_f (ok_least_text (K := K) T) (hr.mono (by decide)) pass0 (pa_cons (pv 2) pa_nil)))))), ?_⟩
  show (_ : TS) { nx := fun _ H' => Q .non H', rt := Q } [some x, some y, none, none] H
  obtain ⟨p, a, n, g, rfl, rfl, h1, h2, td, hg, q⟩ := h
  have hp : p ≠ [] := List.length_pos_iff.mp h1
  walk_at "go"
  refine td_get td (hg p hp (List.prefix_refl p)) ?_
  walk_at "go"
  refine i_new (by show 1 ≤ 100000; omega) fun L nL => ?_
  walk_at "go"
  refine f_rng2 1 p.length (fun R k => by walk_at "go"; exact k) (by omega) (fun i σ H' => ∃ (v : Option V) (xs : List (List Nat)), σ = [some (S p), some (.ref a), some (.ref L), v] ∧ Same H H' ∧ H' L = some (.lst (xs.map S)) ∧ xs.length ≤ 1 + i ∧ (∀ t ∈ xs, t.length ≤ 100) ∧ ∀ t, t ∈ xs ↔ (t = fT p ∨ ∃ u j, u ≠ [] ∧ 1 ≤ j ∧ p = u ++ List.replicate j 46 ∧ u.length < 1 + i ∧ t = fT u ++ (64 :: dec p.length)))
    ⟨none, [fT p], rfl, same_upd nL, upd_same, Nat.le_refl _, fun t ht => by rw [List.mem_singleton.mp ht]; exact Nat.le_trans (fT_len p) (by omega), fun t => ?_⟩ ?_ ?_
  · rw [List.mem_singleton]
    refine ⟨.inl, ?_⟩
    rintro (h | ⟨u, j, hu, hj, _, hl, _⟩)
    · exact h
    · have := List.length_pos_iff.mpr hu; omega
  · rintro i σ H' hi ⟨v, xs, rfl, s1, eL, hx1, hx2, hx3⟩
    walk_at "go"
    refine i_mul_strI (by omega) ⟨by show 1 * _ ≤ _; omega, by omega⟩ ?_
    rw [flat_rep, show ((p.length : Int) - ((1 + i : Nat) : Int)).toNat = p.length - (1 + i) by omega, Int.toNat_natCast]
    walk_at "go"
    have td1 := td.mono s1
    refine i_dec (fun e => ?_) (fun e => ?_)
    · have hpre : p.take (1 + i) <+: p := List.take_prefix _ _
      have htl : (p.take (1 + i)).length = 1 + i := by rw [List.length_take]; omega
      have hne : p.take (1 + i) ≠ [] := fun z => by
        have htl := htl
        rw [z] at htl
        have : 0 = 1 + i := htl
        omega
      have hfl := fT_len (p.take (1 + i))
      walk_at "go"
      refine i_appAt eL ?_
      walk_at "go"
      rw [Int.toNat_natCast]
      refine td_get td1 (hg _ hne hpre) ?_
      walk_at "go"
      refine ⟨p.length, rfl, by omega, ?_⟩
      have dl := dec_len p.length
      walk_at "go"
      refine i_appEnd eL (by rw [List.length_map]; omega) ?_
      have ht : fT (p.take (1 + i)) ++ [64] ++ dec p.length = fT (p.take (1 + i)) ++ (64 :: dec p.length) := by simp
      refine ⟨_, xs ++ [fT (p.take (1 + i)) ++ (64 :: dec p.length)], rfl, Same.upd s1 nL, by rw [upd_same, List.map_append, ← ht]; rfl, by rw [List.length_append]; show xs.length + 1 ≤ _; omega, fun t h => ?_, fun t => ?_⟩
      · rcases List.mem_append.mp h with h | h
        · exact hx2 t h
        · rw [List.mem_singleton.mp h, List.length_append, List.length_cons]; omega
      · rw [List.mem_append, List.mem_singleton, hx3]
        constructor
        · rintro ((h | ⟨u, j, hu, hj, he, hl, h⟩) | h)
          · exact .inl h
          · exact .inr ⟨u, j, hu, hj, he, by omega, h⟩
          · exact .inr ⟨p.take (1 + i), p.length - (1 + i), hne, by omega, by rw [← e, List.take_append_drop], by omega, h⟩
        · rintro (h | ⟨u, j, hu, hj, he, hl, h⟩)
          · exact .inl (.inl h)
          · by_cases hlu : u.length < 1 + i
            · exact .inl (.inr ⟨u, j, hu, hj, he, hlu, h⟩)
            · have : u = p.take (1 + i) := by rw [he, show 1 + i = u.length by omega, List.take_left]
              exact .inr (by rw [h, this])
    · walk_at "go"
      refine ⟨_, xs, rfl, s1, eL, by omega, hx2, fun t => ?_⟩
      rw [hx3]
      refine or_congr Iff.rfl ⟨?_, ?_⟩
      · rintro ⟨u, j, hu, hj, he, hl, h⟩
        exact ⟨u, j, hu, hj, he, by omega, h⟩
      · rintro ⟨u, j, hu, hj, he, hl, h⟩
        refine ⟨u, j, hu, hj, he, ?_, h⟩
        by_cases hlu : u.length < 1 + i
        · exact hlu
        · have hul : u.length = 1 + i := by omega
          refine absurd ?_ e
          rw [← hul, he, List.drop_left, List.length_append, List.length_replicate]
          congr 1; omega
  · rintro σ H' ⟨v, xs, rfl, s1, eL, hx1, hx2, hx3⟩
    walk_at "go"
    have hmem : fT p ∈ xs := (hx3 _).mpr (.inl rfl)
    refine ⟨L, xs, rfl, eL, List.ne_nil_of_mem hmem, fun y hy => Nat.le_trans (hx2 y hy) (by decide), fun m H2 hm hb s2 => ?_⟩
    have key : ∀ t, ClC fT p t ↔ t ∈ xs := fun t => by
      rw [hx3]
      refine or_congr Iff.rfl ⟨?_, ?_⟩
      · rintro ⟨u, j, hu, hj, he, h⟩
        have := congrArg List.length he
        rw [List.length_append, List.length_replicate] at this
        exact ⟨u, j, hu, hj, he, by omega, h⟩
      · rintro ⟨u, j, hu, hj, he, hl, h⟩
        exact ⟨u, j, hu, hj, he, h⟩
    have : fC p = m := fC_isL hp ⟨(key m).mpr hm, fun y hy => hb y ((key y).mp hy)⟩
    rw [← this]
    exact q H2 (s1.trans s2)
end
/-- what a stretch's repeated parts give, of parts shorter than m -/
def CandB (m : Nat) (p t : List Nat) : Prop := ∃ k u, u ≠ [] ∧ 2 ≤ k ∧ p = rpt k u ∧ u.length < m ∧ ((u.length = 1 ∧ t = dec k ++ u) ∨ t = dec k ++ ([40] ++ (fC u ++ [41])))
theorem rpt_take {k : Nat} {u p : List Nat} (hk : 1 ≤ k) (h : p = rpt k u) : p.take u.length = u := by
  obtain ⟨k', rfl⟩ : ∃ k', k = k' + 1 := ⟨k - 1, by omega⟩
  rw [h, rpt_succ, List.take_left]
section
variable {P : Program} {w : World} {K : PySem.W.Frag} {mg : Str → Option Value} {base : Heap} {C_GlimError C_BadRound C_BadText C_BadLine C_BadWay C_TooLong C_Lines C_NUMBERED : Addr}
def p_item : P2 := fun x y H Q _ => ∃ (p : List Nat) (a : Addr) (n : Nat) (g : List Nat → Option V), x = S p ∧ y = .ref a ∧ 1 ≤ p.length ∧ p.length ≤ 24 ∧ TD n H a g ∧ (∀ u, u ≠ [] → u <+: p → u.length < p.length → g u = some (S (fT u))) ∧ ∀ H', Same H H' → Q (oS (fI p)) H'
theorem ok_item_text (T : Txt K mg w C_GlimError C_BadRound C_BadText C_BadLine C_BadWay C_TooLong C_Lines C_NUMBERED) : OK P w K mg base CX0 5 "item_text" ["part", "texts"] (sp2  p_item) := by
  refine OK.mk (k := 4) T.d_item_text sc_item_text len2 fun f cdv A outer s H vs Q E hr h => ?_
  obtain ⟨x, y, rfl, h⟩ := h
  refine ⟨_, (pss_cons (ps_if (pt_cmpR (opEq K hr.units) (pe_callB (cLen K) (by rfl) T.b_len (by decide +kernel) (pa_cons (pv 0) pa_nil)) pe_int (nomark _)) (pss_one (ps_ret (pv 0))) pss_nil) (pss_cons (ps_set (i := 2) sc_item_text.nd rfl (Or.inl rfl) (pe_lst pa_nil)) (pss_cons (ps_for PassesOwn.never rfl (pi_range2 rfl T.b_range (pa_cons pe_int (pa_cons (pe_op (opAdd K) (pe_op op_fdivP (pe_callB (cLen K) (by rfl) T.b_len (by decide +kernel) (pa_cons (pv 0) pa_nil)) pe_int) pe_int) pa_nil))) (pg_name (i := 3) sc_item_text.nd rfl (Or.inl rfl)) (pss_cons (ps_set (i := 4) sc_item_text.nd rfl (Or.inl rfl) (pe_op op_fdivP (pe_callB (cLen K) (by rfl) T.b_len (by decide +kernel) (pa_cons (pv 0) pa_nil)) (pv 3))) (pss_one (ps_if (pt_cmpR (opEq K hr.units) (pe_op op_mulP (pe_slice (slK K) (pv 0) po_none (po_some (pv 3))) (pv 4)) (pv 0) (nomark _)) (Evl.pss_cut (ps_if (pt_cmpR (opEq K hr.units) (pv 3) pe_int (nomark _)) (pss_one (ps_expr (peApp K (pv 2) (pa_cons (pe_op (opAdd K) (pe_callTy Fg.call_strS (by rfl) T.b_str (by decide +kernel) (pa_cons (pv 4) pa_nil)) (pe_ix (ixK K) (pv 0) pe_int (fun _ _ => rfl))) pa_nil)))) pss_nil) (pss_one (ps_expr (peApp K (pv 2) (pa_cons (pe_op (opAdd K) (pe_op (opAdd K) (pe_op (opAdd K) (pe_callTy Fg.call_strS (by rfl) T.b_str (by decide +kernel) (pa_cons (pv 4) pa_nil)) (pe_S [40])) (pe_f (ok_closed_text (K := K) T) (hr.mono (by decide)) pass0 (pa_cons (pe_slice (slK K) (pv 0) po_none (po_some (pv 3))) (pa_cons (pv 1) pa_nil)))) (pe_S [41])) pa_nil))))) pss_nil)))) (pss_cons (ps_if (pt_not (ptTruth K (pv 2) (fun _ => rfl))) (pss_one (ps_ret pe_non)) pss_nil) (pss_one (ps_ret (pe_f (ok_least_text (K := K) T) (hr.mono (by decide)) pass0 (pa_cons (pv 2) pa_nil)))))))), ?_⟩
  show (_ : TS) { nx := fun _ H' => Q .non H', rt := Q } [some x, some y, none, none, none] H
  obtain ⟨p, a, n, g, rfl, rfl, h1, h2, td, hg, q⟩ := h
  have hp : p ≠ [] := List.length_pos_iff.mp h1
  walk_at "go"
  refine i_dec (fun e1 => ?_) (fun e1 => ?_)
  · walk_at "go"
    have := q H (Same.refl H)
    rw [show fI p = some p by unfold fI itS; exact if_pos (by omega)] at this
    exact this
  have hp1 : p.length ≠ 1 := fun z => e1 (by omega)
  walk_at "go"
  refine i_new (by show 0 ≤ 100000; omega) fun L nL => ?_
  walk_at "go"
  refine f_rng2 1 (p.length / 2 + 1) (fun R k => by walk_at "go"; rw [show (p.length : Int) / 2 + 1 = ((p.length / 2 + 1 : Nat) : Int) by omega]; exact k) (by omega) (fun i σ H' => ∃ (v4 v5 : Option V) (xs : List (List Nat)), σ = [some (S p), some (.ref a), some (.ref L), v4, v5] ∧ Same H H' ∧ H' L = some (.lst (xs.map S)) ∧ xs.length ≤ 2 * i ∧ (∀ t ∈ xs, t.length ≤ 100) ∧ ∀ t, t ∈ xs ↔ CandB (1 + i) p t)
    ⟨none, none, [], rfl, same_upd nL, upd_same, Nat.le_refl _, by simp, fun t => ?_⟩ ?_ ?_
  · constructor
    · intro h; simp at h
    · rintro ⟨k, u, hu, _, _, hl, _⟩
      have := List.length_pos_iff.mpr hu
      omega
  · rintro i σ H' hi ⟨v4, v5, xs, rfl, s1, eL, hx1, hx2, hx3⟩
    have hm : 1 + i ≤ p.length / 2 := by omega
    have hk2 : 2 ≤ p.length / (1 + i) := (Nat.le_div_iff_mul_le (by omega)).mpr (by omega)
    have hk24 : p.length / (1 + i) ≤ 24 := Nat.le_trans (Nat.div_le_self _ _) h2
    walk_at "go"
    have hdiv : (p.length : Int) / ((1 + i : Nat) : Int) = ((p.length / (1 + i) : Nat) : Int) := by rw [Int.natCast_ediv]
    rw [hdiv]
    generalize hk : p.length / (1 + i) = k at *
    have htl : (p.take (1 + i)).length = 1 + i := by rw [List.length_take]; omega
    have hkl : (1 + i) * k ≤ p.length := by rw [← hk]; exact Nat.mul_div_le _ _
    rw [Int.toNat_natCast]
    refine i_mul_strI (Int.natCast_nonneg _) ⟨by rw [htl, Int.toNat_natCast]; omega, by rw [Int.toNat_natCast]; omega⟩ ?_
    rw [Int.toNat_natCast, show (List.replicate k (p.take (1 + i))).flatten = rpt k (p.take (1 + i)) from rfl]
    walk_at "go"
    refine i_dec (fun e => ?_) (fun e => ?_)
    · have hne : p.take (1 + i) ≠ [] := fun z => by
        have htl := htl
        rw [z] at htl
        have : 0 = 1 + i := htl
        omega
      have dl := dec_len k
      have hcl := fC_len hne
      -- what stands behind the inner if
      refine i_cut (fun σ' H' => ∃ ys : List (List Nat), σ' = [some (S p), some (.ref a), some (.ref L), some (.int ((1 + i : Nat) : Int)), some (.int (k : Int))] ∧ Same H H' ∧ H' L = some (.lst (ys.map S)) ∧ ys.length ≤ 2 * i + 1 ∧ (∀ t ∈ ys, t.length ≤ 100) ∧ ∀ t, t ∈ ys ↔ (CandB (1 + i) p t ∨ ((p.take (1 + i)).length = 1 ∧ t = dec k ++ p.take (1 + i)))) ?_ ?_
      · walk_at "go"
        refine i_dec (fun e0 => ?_) (fun e0 => ?_)
        · walk_at "go"
          refine i_appAt eL ?_
          walk_at "go"
          refine ⟨k, rfl, by omega, ?_⟩
          walk_at "go"
          obtain ⟨c, hc⟩ : ∃ c, p[0]? = some c := ⟨_, List.getElem?_eq_getElem (by omega)⟩
          have hi0 : i = 0 := by omega
          have htk : p.take (1 + i) = [c] := by
            rw [hi0]
            cases p with
            | nil => simp at hc
            | cons x r => cases hc; rfl
          refine i_ix_str (by omega) (by decide) hc ?_
          walk_at "go"
          refine i_appEnd eL (by rw [List.length_map]; omega) ?_
          refine ⟨xs ++ [dec k ++ p.take (1 + i)], rfl, Same.upd s1 nL, by rw [upd_same, List.map_append, htk]; rfl, by rw [List.length_append]; show xs.length + 1 ≤ _; omega, fun t h => ?_, fun t => ?_⟩
          · rcases List.mem_append.mp h with h | h
            · exact hx2 t h
            · rw [List.mem_singleton.mp h, List.length_append]; omega
          · rw [List.mem_append, List.mem_singleton, hx3]
            refine or_congr Iff.rfl ⟨fun h => ⟨by omega, h⟩, fun h => h.2⟩
        · walk_at "go"
          refine ⟨xs, rfl, s1, eL, by omega, hx2, fun t => ?_⟩
          rw [hx3]
          exact ⟨.inl, fun h => h.elim id fun h => absurd h.1 (by omega)⟩
      rintro σ' H1 ⟨ys, rfl, s2, eL2, hy1, hy2, hy3⟩
      walk_at "go"
      refine i_appAt eL2 ?_
      walk_at "go"
      refine ⟨k, rfl, by omega, ?_⟩
      walk_at "go"
      rw [Int.toNat_natCast]
      refine ⟨p.take (1 + i), a, n, g, rfl, rfl, by omega, by omega, td.mono s2, fun u hu hpre => hg u hu (hpre.trans (List.take_prefix _ _)) (by have := hpre.length_le; omega), fun H2 s3 => ?_⟩
      walk_at "go"
      have eL3 := s3 _ _ eL2
      refine i_appEnd eL3 (by rw [List.length_map]; omega) ?_
      have hg2 : dec k ++ [40] ++ fC (p.take (1 + i)) ++ [41] = dec k ++ ([40] ++ (fC (p.take (1 + i)) ++ [41])) := by simp
      refine ⟨_, _, ys ++ [dec k ++ ([40] ++ (fC (p.take (1 + i)) ++ [41]))], rfl, Same.upd (s2.trans s3) nL, by rw [upd_same, List.map_append, ← hg2]; rfl, by rw [List.length_append]; show ys.length + 1 ≤ _; omega, fun t h => ?_, fun t => ?_⟩
      · rcases List.mem_append.mp h with h | h
        · exact hy2 t h
        · rw [List.mem_singleton.mp h]; simp only [List.length_append, List.length_singleton]; omega
      · rw [List.mem_append, List.mem_singleton, hy3]
        constructor
        · rintro ((⟨k', u, hu, hk', hp', hl, h⟩ | ⟨h, ht⟩) | h)
          · exact ⟨k', u, hu, hk', hp', by omega, h⟩
          · exact ⟨k, p.take (1 + i), hne, hk2, e.symm, by omega, .inl ⟨h, ht⟩⟩
          · exact ⟨k, p.take (1 + i), hne, hk2, e.symm, by omega, .inr h⟩
        · rintro ⟨k', u, hu, hk', hp', hl, h⟩
          by_cases hlu : u.length < 1 + i
          · exact .inl (.inl ⟨k', u, hu, hk', hp', hlu, h⟩)
          · have hul : u.length = 1 + i := by omega
            have hut : u = p.take (1 + i) := by rw [← hul, rpt_take (by omega) hp']
            have hkk : k' = k := by
              have := congrArg List.length hp'
              rw [rpt_len, hul] at this
              rw [← hk, this, Nat.mul_div_cancel _ (by omega)]
            subst hkk hut
            rcases h with h | h
            · exact .inl (.inr h)
            · exact .inr h
    · walk_at "go"
      refine ⟨_, _, xs, rfl, s1, eL, by omega, hx2, fun t => ?_⟩
      rw [hx3]
      constructor
      · rintro ⟨k', u, hu, hk', hp', hl, h⟩
        exact ⟨k', u, hu, hk', hp', by omega, h⟩
      · rintro ⟨k', u, hu, hk', hp', hl, h⟩
        refine ⟨k', u, hu, hk', hp', ?_, h⟩
        by_cases hlu : u.length < 1 + i
        · exact hlu
        · have hul : u.length = 1 + i := by omega
          have hut : u = p.take (1 + i) := by rw [← hul, rpt_take (by omega) hp']
          have hkk : k' = k := by
            have := congrArg List.length hp'
            rw [rpt_len, hul] at this
            rw [← hk, this, Nat.mul_div_cancel _ (by omega)]
          exact absurd (by rw [← hut, ← hkk, ← hp']) e
  · rintro σ H' ⟨v4, v5, xs, rfl, s1, eL, hx1, hx2, hx3⟩
    have key : ∀ t, Cand fC p t ↔ t ∈ xs := fun t => by
      rw [hx3]
      constructor
      · rintro ⟨k, u, hu, hk, hp', h⟩
        have := congrArg List.length hp'
        rw [rpt_len] at this
        have h2u : 2 * u.length ≤ k * u.length := Nat.mul_le_mul_right _ hk
        exact ⟨k, u, hu, hk, hp', by omega, h⟩
      · rintro ⟨k, u, hu, hk, hp', hl, h⟩
        exact ⟨k, u, hu, hk, hp', h⟩
    walk_at "go"
    cases xs with
    | nil =>
      refine i_truL0 eL ?_
      have := q H' s1
      rw [fI_none hp1 fun t h => by have := (key t).mp h; simp at this] at this
      walk_at "go"
      exact this
    | cons x r =>
      refine i_truL1 eL (by simp) ?_
      walk_at "go"
      refine ⟨L, x :: r, rfl, eL, by simp, fun y hy => Nat.le_trans (hx2 y hy) (by decide), fun m H2 hm hb s2 => ?_⟩
      have := q H2 (s1.trans s2)
      rw [fI_isL hp1 (m := m) ⟨(key m).mpr hm, fun y hy => hb y ((key y).mp hy)⟩] at this
      exact this
end
def sub (z : List Nat) (a m : Nat) : List Nat := (z.drop a).take m
theorem sub_len {z : List Nat} {a m : Nat} (h : a + m ≤ z.length) : (sub z a m).length = m := by
  unfold sub
  rw [List.length_take, List.length_drop]
  omega
theorem sub_ne {z : List Nat} {a m : Nat} (h : a + m ≤ z.length) (hm : 1 ≤ m) : sub z a m ≠ [] := fun e => by
  have := sub_len h
  rw [e] at this
  have : 0 = m := this
  omega
theorem sub_take {z : List Nat} {a m k : Nat} (h : k ≤ m) : (sub z a m).take k = sub z a k := by
  unfold sub
  rw [List.take_take, Nat.min_eq_left h]
theorem sub_drop {z : List Nat} {a m k : Nat} : (sub z a m).drop k = sub z (a + k) (m - k) := by
  unfold sub
  rw [List.drop_take, List.drop_drop]
theorem sub_pre {z u : List Nat} {a m : Nat} (h : a + m ≤ z.length) (hp : u <+: sub z a m) : u = sub z a u.length ∧ u.length ≤ m := by
  have hl := hp.length_le
  rw [sub_len h] at hl
  refine ⟨?_, hl⟩
  rw [← sub_take hl]
  exact List.prefix_iff_eq_take.mp hp
section
variable {P : Program} {w : World} {K : PySem.W.Frag} {mg : Str → Option Value} {base : Heap} {C_GlimError C_BadRound C_BadText C_BadLine C_BadWay C_TooLong C_Lines C_NUMBERED : Addr}
def p_items : P3 := fun x y z H Q _ => ∃ (p : List Nat) (a b : Addr) (n m : Nat) (gi gt : List Nat → Option V), x = S p ∧ y = .ref a ∧ z = .ref b ∧ 1 ≤ p.length ∧ p.length ≤ 24 ∧ TD n H a gi ∧ TD m H b gt ∧ (∀ k, 1 ≤ k → k ≤ p.length → gi (p.take k) = some (oS (fI (p.take k)))) ∧ (∀ k, 1 ≤ k → k ≤ p.length → gt (p.drop k) = some (S (fT (p.drop k)))) ∧ ∀ H', Same H H' → Q (S (fT p)) H'
theorem ok_items_text (T : Txt K mg w C_GlimError C_BadRound C_BadText C_BadLine C_BadWay C_TooLong C_Lines C_NUMBERED) : OK P w K mg base CX0 4 "items_text" ["part", "items", "texts"] (sp3  p_items) := by
  refine OK.mk (k := 3) T.d_items_text sc_items_text len3 fun f cdv A outer s H vs Q E hr h => ?_
  obtain ⟨x, y, z, rfl, h⟩ := h
  refine ⟨_, (pss_cons (ps_set (i := 3) sc_items_text.nd rfl (Or.inl rfl) (pe_lst pa_nil)) (pss_cons (ps_for PassesOwn.never rfl (pi_range2 rfl T.b_range (pa_cons pe_int (pa_cons (pe_op (opAdd K) (pe_callB (cLen K) (by rfl) T.b_len (by decide +kernel) (pa_cons (pv 0) pa_nil)) pe_int) pa_nil))) (pg_name (i := 4) sc_items_text.nd rfl (Or.inl rfl)) (pss_one (ps_if (pt_cmpR op_isNotP (pe_dget (hu_of hr) (pv 1) (pe_slice (slK K) (pv 0) po_none (po_some (pv 4))) (fun _ _ => rfl)) pe_non (nomark _)) (pss_one (ps_expr (peApp K (pv 3) (pa_cons (pe_op (opAdd K) (pe_dget (hu_of hr) (pv 1) (pe_slice (slK K) (pv 0) po_none (po_some (pv 4))) (fun _ _ => rfl)) (pe_dget (hu_of hr) (pv 2) (pe_slice (slK K) (pv 0) (po_some (pv 4)) po_none) (fun _ _ => rfl))) pa_nil)))) pss_nil))) (pss_one (ps_ret (pe_f (ok_least_text (K := K) T) (hr.mono (by decide)) pass0 (pa_cons (pv 3) pa_nil)))))), ?_⟩
  show (_ : TS) { nx := fun _ H' => Q .non H', rt := Q } [some x, some y, some z, none, none] H
  obtain ⟨p, a, b, n, m, gi, gt, rfl, rfl, rfl, h1, h2, ti, tt, hi, ht, q⟩ := h
  have hp : p ≠ [] := List.length_pos_iff.mp h1
  walk_at "go"
  refine i_new (by show 0 ≤ 100000; omega) fun L nL => ?_
  walk_at "go"
  refine f_rng2 1 (p.length + 1) (fun R k => by walk_at "go"; rw [Int.natCast_add] at k; exact k) (by omega) (fun i σ H' => ∃ (v4 : Option V) (xs : List (List Nat)), σ = [some (S p), some (.ref a), some (.ref b), some (.ref L), v4] ∧ Same H H' ∧ H' L = some (.lst (xs.map S)) ∧ xs.length ≤ i ∧ (∀ t ∈ xs, t.length ≤ 100) ∧ ∀ t, t ∈ xs ↔ ∃ k s, 1 ≤ k ∧ k < 1 + i ∧ fI (p.take k) = some s ∧ t = s ++ fT (p.drop k))
    ⟨none, [], rfl, same_upd nL, upd_same, Nat.le_refl _, by simp, fun t => ?_⟩ ?_ ?_
  · constructor
    · intro h; simp at h
    · rintro ⟨k, s, hk, hk', _⟩
      omega
  · rintro i σ H' hlt ⟨v4, xs, rfl, s1, eL, hx1, hx2, hx3⟩
    have tl : (p.take (1 + i)).length = 1 + i := by rw [List.length_take]; omega
    have hne : p.take (1 + i) ≠ [] := fun z => by
      have tl := tl
      rw [z] at tl
      have : 0 = 1 + i := tl
      omega
    have e1 := hi (1 + i) (by omega) (by omega)
    have e2 := ht (1 + i) (by omega) (by omega)
    walk_at "go"
    rw [Int.toNat_natCast]
    refine td_get (ti.mono s1) e1 ?_
    cases hI : fI (p.take (1 + i)) with
    | none =>
      show (_ : Prop)
      rw [show oS none = V.non from rfl]
      walk_at "go"
      refine ⟨_, xs, rfl, s1, eL, by omega, hx2, fun t => ?_⟩
      rw [hx3]
      constructor
      · rintro ⟨k, s, hk, hk', hs, h⟩
        exact ⟨k, s, hk, by omega, hs, h⟩
      · rintro ⟨k, s, hk, hk', hs, h⟩
        refine ⟨k, s, hk, ?_, hs, h⟩
        by_cases e : k < 1 + i
        · exact e
        · rw [show k = 1 + i by omega, hI] at hs; cases hs
    | some s =>
      have sl := fI_len hne (by omega) hI
      have fl := fT_len (p.drop (1 + i))
      rw [List.length_drop] at fl
      rw [hI] at e1
      show (_ : Prop)
      rw [show oS (some s) = S s from rfl] at e1 ⊢
      walk_at "go"
      refine i_appAt eL ?_
      walk_at "go"
      rw [Int.toNat_natCast]
      refine td_get (ti.mono s1) e1 ?_
      walk_at "go"
      rw [Int.toNat_natCast]
      refine td_get (tt.mono s1) e2 ?_
      walk_at "go"
      refine i_appEnd eL (by rw [List.length_map]; omega) ?_
      refine ⟨_, xs ++ [s ++ fT (p.drop (1 + i))], rfl, Same.upd s1 nL, by rw [upd_same, List.map_append]; rfl, by rw [List.length_append]; show xs.length + 1 ≤ _; omega, fun t h => ?_, fun t => ?_⟩
      · rcases List.mem_append.mp h with h | h
        · exact hx2 t h
        · rw [List.mem_singleton.mp h, List.length_append]; omega
      · rw [List.mem_append, List.mem_singleton, hx3]
        constructor
        · rintro (⟨k, s', hk, hk', hs, h⟩ | h)
          · exact ⟨k, s', hk, by omega, hs, h⟩
          · exact ⟨1 + i, s, by omega, by omega, hI, h⟩
        · rintro ⟨k, s', hk, hk', hs, h⟩
          by_cases e : k < 1 + i
          · exact .inl ⟨k, s', hk, e, hs, h⟩
          · rw [show k = 1 + i by omega] at hs h
            rw [hI] at hs
            cases hs
            exact .inr h
  · rintro σ H' ⟨v4, xs, rfl, s1, eL, hx1, hx2, hx3⟩
    have h0 : [p[0]] ++ fT (p.drop 1) ∈ xs := (hx3 _).mpr ⟨1, [p[0]], Nat.le_refl _, by omega, by
      have : p.take 1 = [p[0]] := by
        cases p with
        | nil => exact absurd rfl hp
        | cons x r => rfl
      rw [this]; exact fI_one, rfl⟩
    walk_at "go"
    refine ⟨L, xs, rfl, eL, List.ne_nil_of_mem h0, fun y hy => Nat.le_trans (hx2 y hy) (by decide), fun m' H2 hm hb s2 => ?_⟩
    have hT : fT p = m' := by
      refine fT_first hp ?_ ?_
      · obtain ⟨k, s, hk, hk', hs, h⟩ := (hx3 m').mp hm
        refine ⟨p.take k, p.drop k, s, (List.take_append_drop k p).symm, fun z => ?_, hs, h⟩
        have := congrArg List.length z
        rw [List.length_take] at this
        have this : min k p.length = 0 := this
        omega
      · intro a b s e ha hs
        have h1' : 1 ≤ a.length := List.length_pos_iff.mpr ha
        have hl : a.length ≤ p.length := by rw [e, List.length_append]; omega
        refine hb _ ((hx3 _).mpr ⟨a.length, s, h1', by omega, by rw [e, List.take_left]; exact hs, by rw [e, List.drop_left]⟩)
    rw [← hT]
    exact q H2 (s1.trans s2)
/-- the dicts behind so many turns -/
def Ds (z : List Nat) (H : Hp) (I T : Addr) (N : Nat) (dom : Nat → Nat → Prop) : Prop := ∃ gi gt n m, TD n H I gi ∧ TD m H T gt ∧ n ≤ N ∧ m ≤ N + 1 ∧ gt [] = some (S []) ∧ (∀ u v, u ≠ [] → gt u = some v → v = S (fT u) ∧ gi u = some (oS (fI u))) ∧ ∀ a k, dom a k → 1 ≤ k → a + k ≤ z.length → (gt (sub z a k)).isSome = true
theorem Ds.got {z : List Nat} {H : Hp} {I T : Addr} {N : Nat} {dom dom' : Nat → Nat → Prop} (h : Ds z H I T N dom) (hd : ∀ a k, dom' a k → 1 ≤ k → a + k ≤ z.length → dom a k) : Ds z H I T N dom' := by
  obtain ⟨gi, gt, n, m, a1, a2, a3, a4, a5, a6, a7⟩ := h
  exact ⟨gi, gt, n, m, a1, a2, a3, a4, a5, a6, fun a k x y w => a7 a k (hd a k x y w) y w⟩
def p_fold (C : Addr) : P1 := fun x H Q E => (∃ l, x = S l ∧ IsRound l ∧ ∀ H', Same H H' → Q (S (fC l)) H') ∨ BadX C H x E
theorem ok_fold_round (T : Txt K mg w C_GlimError C_BadRound C_BadText C_BadLine C_BadWay C_TooLong C_Lines C_NUMBERED) : OK P w K mg base (L2.CX P w) 6 "fold_round" ["row"] (sp1  (p_fold C_BadRound)) := by
  refine OK.mkX (k := 5) T.d_fold_round sc_fold_round len1 fun f cdv A outer s H vs Q E hr h => ?_
  obtain ⟨x, rfl, h⟩ := h
  refine ⟨_, (pss_cons (ps_expr (pe_f (ok_check_round (K := K) T) (hr.mono (by decide)) (passes_call (takes_of rfl rfl rfl rfl) (fun _ _ _ _ h => h)) (pa_cons (pv 0) pa_nil))) (pss_cons (ps_set (i := 1) sc_fold_round.nd rfl (Or.inl rfl) pe_dnewK) (pss_cons (ps_set (i := 2) sc_fold_round.nd rfl (Or.inl rfl) (pe_disp (pps_cons (pe_S []) (pe_S []) pps_nil) (by rfl) (by rfl) (fun z => by cases z) (by decide))) (pss_cons (ps_for (passes_of rfl) rfl (pi_range2 rfl T.b_range (pa_cons pe_int (pa_cons (pe_op (opAdd K) (pe_callB (cLen K) (by rfl) T.b_len (by decide +kernel) (pa_cons (pv 0) pa_nil)) pe_int) pa_nil))) (pg_name (i := 3) sc_fold_round.nd rfl (Or.inl rfl)) (pss_one (ps_for (passes_of rfl) rfl (pi_range1 rfl T.b_range (pa_cons (pe_op (opAdd K) (pe_op op_subP (pe_callB (cLen K) (by rfl) T.b_len (by decide +kernel) (pa_cons (pv 0) pa_nil)) (pv 3)) pe_int) pa_nil)) (pg_name (i := 4) sc_fold_round.nd rfl (Or.inl rfl)) (pss_cons (ps_set (i := 5) sc_fold_round.nd rfl (Or.inl rfl) (pe_slice (slK K) (pv 0) (po_some (pv 4)) (po_some (pe_op (opAdd K) (pv 4) (pv 3))))) (pss_one (ps_if (pt_cmp (pc_dnotin (hu_of hr) (pv 5) (pv 2))) (pss_cons (ps_dput (hu_of hr) (pv 1) (pv 5) (pe_f (ok_item_text (K := K) T) (hr.mono (by decide)) pass0 (pa_cons (pv 5) (pa_cons (pv 2) pa_nil))) rfl) (pss_one (ps_dput (hu_of hr) (pv 2) (pv 5) (pe_f (ok_items_text (K := K) T) (hr.mono (by decide)) pass0 (pa_cons (pv 5) (pa_cons (pv 1) (pa_cons (pv 2) pa_nil)))) rfl))) pss_nil)))))) (pss_one (ps_ret (pe_f (ok_closed_text (K := K) T) (hr.mono (by decide)) pass0 (pa_cons (pv 0) (pa_cons (pv 2) pa_nil))))))))), ?_⟩
  show (_ : TS) { nx := fun _ H' => Q .non H', rt := Q } [some x, none, none, none, none, none] H
  rcases h with ⟨z, rfl, hz, q⟩ | h
  case inr =>
    walk_at "go"
    exact .inr h
  have hz1 := hz.1
  have hz2 := hz.2.1
  walk_at "go"
  refine .inl ⟨z, rfl, hz, fun H1 s1 => ?_⟩
  walk_at "go"
  refine i_dnewK fun I nI => ?_
  walk_at "go"
  refine i_disp1 (l := []) (v := S []) (fun H R k => k) (fun H R k => k) fun Tt o nT td => ?_
  have neIT : I ≠ Tt := fun e => by rw [← e, upd_same] at nT; cases nT
  have nT1 : H1 Tt = none := by rw [upd_ne (Ne.symm neIT)] at nT; exact nT
  have ti : TD 0 (upd (upd H1 I (.dK [])) Tt o) I (fun _ => none) := TD.new.at (upd_ne neIT)
  have sB : Same H1 (upd (upd H1 I (.dK [])) Tt o) := Same.upd (same_upd nI) nT1
  have ds0 : Ds z (upd (upd H1 I (.dK [])) Tt o) I Tt 0 (fun a k => k < 1) := ⟨_, _, 0, 1, ti, td, Nat.le_refl _, Nat.le_refl _, by unfold setT; rw [if_pos rfl], (fun u v hu e => by
    unfold setT at e
    rw [if_neg hu] at e
    cases e), fun a k h1 h2 => absurd h2 (by have : k < 1 := h1; omega)⟩
  generalize (upd (upd H1 I (.dK [])) Tt o) = H2 at *
  walk_at "go"
  refine f_rng2 1 (z.length + 1) (fun R k => by walk_at "go"; rw [Int.natCast_add] at k; exact k) (by omega) (fun i σ H' => ∃ v3 v4 v5 : Option V, σ = [some (S z), some (.ref I), some (.ref Tt), v3, v4, v5] ∧ Same H1 H' ∧ Ds z H' I Tt (30 * i) (fun a k => k < 1 + i) ∧ i ≤ 24) ⟨_, _, _, rfl, sB, ds0, by omega⟩ ?_ ?_
  · rintro i σ H3 hi ⟨v3, v4, v5, rfl, s3, ds, hi24⟩
    walk_at "go"
    refine f_rng1 (z.length - i) (fun R k => by walk_at "go"; rw [show (z.length : Int) - ((1 + i : Nat) : Int) + 1 = ((z.length - i : Nat) : Int) by omega]; exact k) (by omega) (fun j σ H' => ∃ v4 v5 : Option V, σ = [some (S z), some (.ref I), some (.ref Tt), some (.int ((1 + i : Nat) : Int)), v4, v5] ∧ Same H1 H' ∧ Ds z H' I Tt (30 * i + j) (fun a k => k < 1 + i ∨ (k = 1 + i ∧ a < j)) ∧ j ≤ 24) ⟨_, _, rfl, s3, ds.got (fun a k h _ _ => by omega), by omega⟩ ?_ ?_
    · rintro j σ H4 hj ⟨v4, v5, rfl, s4, ds4, hj24⟩
      have hjm : j + (1 + i) ≤ z.length := by omega
      have hpl := sub_len hjm
      have hpn := sub_ne hjm (by omega)
      walk_at "go"
      rw [← Int.natCast_add]
      refine i_sl_str (by omega) ?_
      rw [cutN_mid, show (z.drop j).take (1 + i) = sub z j (1 + i) from rfl]
      walk_at "go"
      obtain ⟨gi, gt, n, m, t1, t2, hn, hm, g0, gv, gd⟩ := id ds4
      refine td_ask t2 ?_
      -- what is known of its parts
      have pre : ∀ k, 1 ≤ k → k ≤ i → gt (sub z j k) = some (S (fT (sub z j k))) ∧ gi (sub z j k) = some (oS (fI (sub z j k))) := fun k k1 k2 => by
        have h := gd j k (.inl (by omega)) k1 (by omega)
        obtain ⟨v, hv⟩ := Option.isSome_iff_exists.mp h
        obtain ⟨e1, e2⟩ := gv _ v (sub_ne (by omega) k1) hv
        exact ⟨by rw [hv, e1], e2⟩
      cases hgt : gt (sub z j (1 + i)) with
      | some v =>
        simp only [Option.isSome_some, Bool.not_true]
        walk_at "go"
        refine ⟨_, _, rfl, s4, ?_, by omega⟩
        refine ⟨gi, gt, n, m, t1, t2, by omega, by omega, g0, gv, fun a k hd k1 k2 => ?_⟩
        by_cases e : k = 1 + i ∧ a = j
        · rw [e.1, e.2, hgt]; rfl
        · exact gd a k (by omega) k1 k2
      | none =>
        simp only [Option.isSome_none, Bool.not_false]
        walk_at "go"
        refine ⟨sub z j (1 + i), Tt, m, gt, rfl, rfl, by omega, by omega, t2, fun u hu hpre hlt => ?_, fun H5 s5 => ?_⟩
        · obtain ⟨e1, e2⟩ := sub_pre hjm hpre
          have hu1 := List.length_pos_iff.mpr hu
          rw [e1]
          exact (pre u.length hu1 (by omega)).1
        walk_at "go"
        refine td_put (t1.mono s5) (by omega) fun o5 t3 => ?_
        have nI4 : H1 I = none := by
          cases hI : H1 I with
          | none => rfl
          | some x => rw [hI] at nI; cases nI
        have t4 : TD m (upd H5 I o5) Tt gt := (t2.mono s5).at (upd_ne (Ne.symm neIT))
        walk_at "go"
        refine ⟨sub z j (1 + i), I, Tt, n + 1, m, _, gt, rfl, rfl, rfl, by omega, by omega, t3, t4, fun k k1 k2 => ?_, fun k k1 k2 => ?_, fun H6 s6 => ?_⟩
        · rw [hpl] at k2
          unfold setT
          by_cases e : k = 1 + i
          · rw [e, List.take_of_length_le (by omega), if_pos rfl]
          · rw [sub_take (by omega)]
            rw [if_neg (fun h => by
              have := congrArg List.length h
              rw [sub_len (by omega), hpl] at this
              omega)]
            exact (pre k k1 (by omega)).2
        · rw [hpl] at k2
          rw [sub_drop]
          by_cases e : k = 1 + i
          · rw [e, Nat.sub_self]
            show gt (((z.drop _).take 0)) = _
            rw [List.take_zero, g0]
            show _ = some (S (fT (((z.drop _).take 0))))
            rw [List.take_zero, fT_nil]
          · have h := gd (j + k) (1 + i - k) (.inl (by omega)) (by omega) (by omega)
            obtain ⟨v, hv⟩ := Option.isSome_iff_exists.mp h
            rw [hv, (gv _ v (sub_ne (by omega) (by omega)) hv).1]
        walk_at "go"
        refine td_put (t4.mono s6) (by omega) fun o6 t5 => ?_
        have t6 : TD (n + 1) (upd H6 Tt o6) I _ := (t3.mono s6).at (upd_ne neIT)
        refine ⟨_, _, rfl, Same.upd (Same.trans (Same.upd (s4.trans s5) nI4) s6) nT1, ?_, by omega⟩
        refine ⟨_, _, n + 1, m + 1, t6, t5, by omega, by omega, ?_, fun u v hu e => ?_, fun a k hd k1 k2 => ?_⟩
        · unfold setT
          rw [if_neg (fun h => hpn h.symm)]
          exact g0
        · unfold setT at e ⊢
          by_cases hu' : u = sub z j (1 + i)
          · rw [if_pos hu'] at e ⊢
            rw [hu']
            exact ⟨(Option.some.inj e).symm, rfl⟩
          · rw [if_neg hu'] at e ⊢
            exact gv u v hu e
        · unfold setT
          by_cases hu' : sub z a k = sub z j (1 + i)
          · rw [if_pos hu']; rfl
          · rw [if_neg hu']
            refine gd a k ?_ k1 k2
            rcases hd with hd | ⟨hd1, hd2⟩
            · exact .inl hd
            · refine .inr ⟨hd1, ?_⟩
              by_cases e : a = j
              · exact absurd (by rw [hd1, e]) hu'
              · omega
    · rintro σ H4 ⟨v4, v5, rfl, s4, ds4, hj24⟩
      refine ⟨_, _, _, rfl, s4, ?_, by omega⟩
      obtain ⟨gi, gt, n, m, t1, t2, hn, hm, g0, gv, gd⟩ := ds4
      exact ⟨gi, gt, n, m, t1, t2, by omega, by omega, g0, gv, fun a k hd k1 k2 => gd a k (by omega) k1 k2⟩
  · rintro σ H3 ⟨v3, v4, v5, rfl, s3, ds, hi24⟩
    obtain ⟨gi, gt, n, m, t1, t2, hn, hm, g0, gv, gd⟩ := ds
    walk_at "go"
    refine ⟨z, Tt, m, gt, rfl, rfl, hz1, hz2, t2, fun u hu hpre => ?_, fun H4 s4 => q H4 ((s1.trans s3).trans s4)⟩
    have e1 := List.prefix_iff_eq_take.mp hpre
    have hl := hpre.length_le
    have hu1 := List.length_pos_iff.mpr hu
    have h := gd 0 u.length (by omega) hu1 (by omega)
    have e2 : sub z 0 u.length = u := by unfold sub; rw [List.drop_zero, ← e1]
    rw [e2] at h
    obtain ⟨v, hv⟩ := Option.isSome_iff_exists.mp h
    rw [hv, (gv u v hu hv).1]
end
section
variable {P : Program} {w : World} {K : PySem.W.Frag} {mg : Str → Option Value} {base : Heap} {C_GlimError C_BadRound C_BadText C_BadLine C_BadWay C_TooLong C_Lines C_NUMBERED : Addr}
/-- a number of at most nine digits, without a nought ahead -/
def numL (l : List Nat) : Bool := decide (1 ≤ l.length) && decide (l.length ≤ 9) && l.all (fun c => decide (c ∈ DG)) && (decide (l = [48]) || decide (l.head? ≠ some 48))
def p_is_number : P1 := fun x H Q _ => ∃ l, x = S l ∧ l.length ≤ 10000 ∧ Q (.bl (numL l)) H
theorem ok_is_number (T : Txt K mg w C_GlimError C_BadRound C_BadText C_BadLine C_BadWay C_TooLong C_Lines C_NUMBERED) : OK P w K mg base CX0 1 "is_number" ["text"] (sp1  p_is_number) := by
  refine OK.mk (k := 0) T.d_is_number sc_is_number len1 fun f cdv A outer s H vs Q E hr h => ?_
  obtain ⟨x, rfl, h⟩ := h
  refine ⟨_, (pss_cons (ps_if (pt_not (pt_chain op_leP op_leP pe_int (pe_callB (cLen K) (by rfl) T.b_len (by decide +kernel) (pa_cons (pv 0) pa_nil)) pe_int)) (pss_one (ps_ret pe_bl)) pss_nil) (pss_cons (ps_for PassesOwn.never rfl (piAny K (pv 0)) (pg_name (i := 1) sc_is_number.nd rfl (Or.inl rfl)) (pss_one (ps_if (pt_cmpR (opNotIn K) (pv 1) (pe_gS [48, 49, 50, 51, 52, 53, 54, 55, 56, 57] T.g_DIGITS_lines) (by with_unfolding_all rfl)) (pss_one (ps_ret pe_bl)) pss_nil))) (pss_one (ps_ret (pe_or (pe_cmpR (opEq K hr.units) (pv 0) (pe_S [48]) (nomark _)) (pe_one (pe_cmpR (opNe K hr.units) (pe_ix (ixK K) (pv 0) pe_int (fun _ _ => rfl)) (pe_S [48]) (nomark _)))))))), ?_⟩
  show (_ : TS) { nx := fun _ H' => Q .non H', rt := Q } [some x, none] H
  obtain ⟨l, rfl, hl, q⟩ := h
  unfold numL at q
  walk_at "go"
  refine i_dec (fun e1 => ?_) (fun e1 => ?_)
  case refine_2 =>
    walk_at "go"
    rw [decide_eq_false (show ¬ 1 ≤ l.length by omega)] at q
    simpa using q
  walk_at "go"
  rw [decide_eq_true (show 1 ≤ l.length by omega)] at q
  refine i_decN (fun e2 => ?_) (fun e2 => ?_)
  · rw [decide_eq_false (show ¬ l.length ≤ 9 by omega)] at q
    walk_at "go"
    simpa using q
  rw [decide_eq_true (show l.length ≤ 9 by omega)] at q
  walk_at "go"
  refine i_forS (z := l) (fun i σ H' => ∃ v1, σ = [some (S l), v1] ∧ H' = H ∧ ∀ k < i, ∀ c, l[k]? = some c → c ∈ DG) ⟨none, rfl, rfl, fun k hk => absurd hk (Nat.not_lt_zero _)⟩ ?_ ?_
  · rintro i c σ H' hc ⟨v1, rfl, rfl, hb⟩
    show (_ : TS) _ [some (S l), some (S [c])] _
    walk_at "go"
    refine i_decN (fun e => ?_) (fun e => ?_)
    · walk_at "go"
      have e3 : l.all (fun c => decide (c ∈ DG)) = false := by
        rw [List.all_eq_false]
        exact ⟨c, List.mem_of_getElem? hc, by simpa using e⟩
      rw [e3] at q
      simpa using q
    · walk_at "go"
      refine ⟨_, rfl, rfl, fun k hk c' hc' => ?_⟩
      rcases Nat.lt_or_ge k i with h | h
      · exact hb k h c' hc'
      · have : k = i := by omega
        subst this
        rw [hc] at hc'
        cases hc'
        exact e
  · rintro σ H' ⟨v1, rfl, rfl, hb⟩
    have e3 : l.all (fun c => decide (c ∈ DG)) = true := by
      rw [List.all_eq_true]
      intro c hc
      obtain ⟨k, hk, e⟩ := List.mem_iff_getElem.mp hc
      exact decide_eq_true (hb k hk c (by rw [List.getElem?_eq_getElem hk, e]))
    rw [e3] at q
    walk_at "go"
    refine i_dec (fun e => ?_) (fun e => ?_)
    · rw [decide_eq_true e] at q
      simpa using q
    · rw [decide_eq_false e] at q
      walk_at "go"
      cases l with
      | nil => simp at e1
      | cons c r =>
        refine i_ix_str (c := c) (by omega) (by decide) rfl ?_
        walk_at "go"
        have e4 : (decide ((c :: r).head? ≠ some 48)) = !decide ([c] = [48]) := by
          rw [Bool.eq_iff_iff]; simp
        rw [e4] at q
        simpa using q
end
theorem kN : ¬ (("texts" : Str) = "now") := by decide +kernel
def LF (t : Addr) (n : Nat) : List (Str × V) := putF "now" (.int (n : Int)) (putF "texts" (.ref t) [])
theorem LF_eq (t : Addr) (n : Nat) : LF t n = ([("texts", V.ref t), ("now", V.int (n : Int))] : List (Str × V)) := by
  show (if ("texts" : Str) = "now" then [(("texts" : Str), V.int (n : Int))] else (("texts" : Str), V.ref t) :: putF "now" (V.int (n : Int)) []) = _
  rw [if_neg kN]
  all_goals rfl
theorem LF_texts (t : Addr) (n : Nat) : (LF t n).lookup ("texts" : Str) = some (.ref t) := by
  unfold LF
  rw [lookup_putF, if_neg kN, lookup_putF, if_pos rfl]
theorem LF_now (t : Addr) (n : Nat) : (LF t n).lookup ("now" : Str) = some (.int (n : Int)) := by
  unfold LF
  rw [lookup_putF, if_pos rfl]
theorem LF_no (t : Addr) (n : Nat) {m : Str} (h1 : ¬ m = "now") (h2 : ¬ m = "texts") : (LF t n).lookup m = none := by
  unfold LF
  rw [lookup_putF, if_neg h1, lookup_putF, if_neg h2]
  all_goals rfl
theorem LF_put (t : Addr) (n m : Nat) : putF "now" (.int (m : Int)) (LF t n) = LF t m := by
  rw [LF_eq, LF_eq]
  show (if ("texts" : Str) = "now" then _ else (("texts" : Str), V.ref t) :: (if ("now" : Str) = "now" then [(("now" : Str), V.int (m : Int))] else _)) = _
  rw [if_neg kN, if_pos rfl]
  all_goals rfl
/-- a reader at p over the lines ds, at line n -/
structure Rdr (C : Addr) (A H : Hp) (p t : Addr) (n : Nat) (ds : List PyData) : Prop where
  sa : Same A H
  tx : At A (.ref t) (.tuple ds)
  ob : ∃ dx, H p = some (.ins C dx (LF t n))
theorem Rdr.same {C : Addr} {A H H' : Hp} {p t : Addr} {n : Nat} {ds : List PyData} (r : Rdr C A H p t n ds) (s : Same H H') : Rdr C A H' p t n ds := by
  obtain ⟨sa, tx, dx, ob⟩ := r
  exact ⟨sa.trans s, tx, dx, s _ _ ob⟩
/-- the wish for BadLine -/
def Bl (E : XK) (H : Hp) (C : Addr) (line word : Nat) : Prop := Rzf E H C [("word", .int (word : Int)), ("line", .int (line : Int))]
theorem Bl.mono {E : XK} {H H1 : Hp} {C : Addr} {l w : Nat} (h : Bl E H C l w) (s : Same H H1) : Bl E H1 C l w := Rzf.mono h s
theorem Bl.at {E : XK} {H : Hp} {C : Addr} {l w : Nat} (h : Bl E H C l w) {d : Addr} (n : H d = none) : E (.ref C) (some d) (upd H d (.xd [("word", .int (w : Int)), ("line", .int (l : Int))])) := Rzf.at h n
section
variable {P : Program} {w : World} {K : PySem.W.Frag} {mg : Str → Option Value} {base : Heap} {C_GlimError C_BadRound C_BadText C_BadLine C_BadWay C_TooLong C_Lines C_NUMBERED : Addr}
def p_over (C : Addr) : P1 := fun x H Q _ => ∃ A p t n ds, x = .ref p ∧ Rdr C A H p t n ds ∧ Q (.bl (decide (ds.length ≤ n))) H
theorem ok_Lines_is_over (T : Txt K mg w C_GlimError C_BadRound C_BadText C_BadLine C_BadWay C_TooLong C_Lines C_NUMBERED) : MOK P w K mg base CX0 1 C_Lines "is_over" ["self"] [] (sp1  (p_over C_Lines)) := by
  refine MOK.mk (k := 0) T.m_Lines_is_over sc_Lines_is_over len1 fun f cdv A outer s H vs Q E hr h => ?_
  obtain ⟨x, rfl, h⟩ := h
  refine ⟨_, (pss_one (ps_ret (pe_cmpR op_geP (peFld K (pv 0)) (pe_callB (cLen K) (by rfl) T.b_len (by decide +kernel) (pa_cons (peFld K (pv 0)) pa_nil)) (nomark _)))), ?_⟩
  show (_ : TS) { nx := fun _ H' => Q .non H', rt := Q } [some x] H
  obtain ⟨A0, p, t, n, ds, rfl, ⟨sa, tx, dx, ob⟩, q⟩ := h
  obtain ⟨t', xs, e, hH, hl, al⟩ := tx.tupled
  cases e
  walk_at "go"
  refine i_fld ob T.cl_Lines T.na_Lines_now (LF_now t n) ?_
  walk_at "go"
  refine i_fld ob T.cl_Lines T.na_Lines_texts (LF_texts t n) ?_
  walk_at "go"
  refine i_len_tup (.inl (.inl (sa _ _ hH))) ?_
  walk_at "go"
  have e1 : decide ((xs.length : Int) ≤ (n : Int)) = decide (ds.length ≤ n) := by
    rw [al.len, Bool.eq_iff_iff]; simp
  rw [e1]
  exact q
def p_words (C CB : Addr) : P1 := fun x H Q E => ∃ A p t n ds, x = .ref p ∧ Rdr C A H p t n ds ∧
  (match ds[n]? with | some (.str z) => (∀ l, H l = none → Q (.ref l) (upd H l (.lst ((wrds z).map S)))) | _ => Bl E H CB n 0)
theorem ok_Lines_words (T : Txt K mg w C_GlimError C_BadRound C_BadText C_BadLine C_BadWay C_TooLong C_Lines C_NUMBERED) : MOK P w K mg base (L2.CX P w) 3 C_Lines "words" ["self"] [] (sp1  (p_words C_Lines C_BadLine)) := by
  refine MOK.mkX (k := 2) T.m_Lines_words sc_Lines_words len1 fun f cdv A outer s H vs Q E hr h => ?_
  obtain ⟨x, rfl, h⟩ := h
  refine ⟨_, (pss_cons (ps_if (pw_or (pt_cmpR op_geP (peFld K (pv 0)) (pe_callB (cLen K) (by rfl) T.b_len (by decide +kernel) (pa_cons (peFld K (pv 0)) pa_nil)) (nomark _)) (pw_or1 (pt_not (pt_val (pe_callB (cIsi K) (by rfl) T.b_isinstance (by decide +kernel) (pa_cons (pe_ix (ixK K) (peFld K (pv 0)) (peFld K (pv 0)) (fun _ _ => rfl)) (pa_cons (pe_bltn (v := .ty "str") (by rfl) T.b_str (by decide +kernel) rfl) pa_nil))))))).pt (pss_one (ps_raiseP rfl (takes_of rfl rfl rfl rfl) (pmk_E2 (k := 0) (okx_BadLine T) (hr.mono (by decide)) (pa_cons (peFld K (pv 0)) (pa_cons pe_int pa_nil))))) pss_nil) (pss_one (ps_ret (peSplit K (pe_ix (ixK K) (peFld K (pv 0)) (peFld K (pv 0)) (fun _ _ => rfl)) (pa_cons (pe_S [32]) pa_nil))))), ?_⟩
  show (_ : TS) { nx := fun _ H' => Q .non H', rt := Q } [some x] H
  obtain ⟨A0, p, t, n, ds, rfl, ⟨sa, tx, dx, ob⟩, q⟩ := h
  obtain ⟨t', xs, e, hH, hl, al⟩ := tx.tupled
  cases e
  have ll := al.len
  have now : ∀ {P : V → Prop}, P (.int (n : Int)) → _ := fun {P} k => i_fld (P := P) ob T.cl_Lines T.na_Lines_now (LF_now t n) k
  have txt : ∀ {P : V → Prop}, P (.ref t) → _ := fun {P} k => i_fld (P := P) ob T.cl_Lines T.na_Lines_texts (LF_texts t n) k
  walk_at "go"
  refine now ?_
  walk_at "go"
  refine txt ?_
  walk_at "go"
  refine i_len_tup (.inl (.inl (sa _ _ hH))) ?_
  walk_at "go"
  refine i_dec (fun e => ?_) (fun e => ?_)
  · rw [List.getElem?_eq_none (by omega)] at q
    walk_at "go"
    refine now ?_
    walk_at "go"
    intro dd nd
    exact Bl.at q nd
  have hn : n < ds.length := by omega
  have hd : ds[n]? = some ds[n] := List.getElem?_eq_getElem hn
  obtain ⟨v, hv, av⟩ := al.at hd
  rw [hd] at q
  have av := av.same sa
  generalize ds[n] = d at *
  have ix : ∀ {R : VK}, R v H → ixP K (.ref t) (.int (n : Int)) H R := fun k => i_ix_tup (.inl (.inl (sa _ _ hH))) (atI_nat hv) k
  walk_at "go"
  refine txt ?_
  walk_at "go"
  refine now ?_
  walk_at "go"
  refine ix ?_
  walk_at "go"
  cases es : isStrD d with
  | false =>
    refine i_isiStr false av es ?_
    walk_at "go"
    refine now ?_
    walk_at "go"
    intro dd nd
    have q' : Bl E H C_BadLine n 0 := by
      cases d <;> first
        | exact q
        | cases es
    exact Bl.at q' nd
  | true =>
    obtain ⟨z, rfl⟩ : ∃ z, d = .str z := by
      cases d <;> first
        | exact ⟨_, rfl⟩
        | cases es
    refine i_isiStr true av rfl ?_
    walk_at "go"
    refine txt ?_
    walk_at "go"
    refine now ?_
    walk_at "go"
    refine ix ?_
    walk_at "go"
    obtain ⟨l, rfl, rfl, hl0⟩ := av.strl
    refine ⟨rfl, ?_⟩
    walk_at "go"
    refine ⟨⟨l.toArray⟩, ⟨#[32]⟩, rfl, rfl, rfl, ?_, ?_⟩
    · rw [str_len]
      exact Nat.le_trans (show l.length + 2 ≤ 100000 by omega) (by decide)
    · intro pp np
      rw [words_V]
      exact q pp np
end
open PySem.NumText (AllDigits digitsVal)
/-- the word at place k of line n, or what is told of it -/
def wd (ds : List PyData) (n k : Nat) : List Nat ⊕ Nat := match ds[n]? with
  | some (.str z) => if k < (wrds z).length then .inl ((wrds z).getD k []) else .inr (wrds z).length
  | _ => .inr 0
theorem line_len {A : Hp} {t : Addr} {ds : List PyData} {n : Nat} {z : Str} (h : At A (.ref t) (.tuple ds)) (e : ds[n]? = some (.str z)) : z.length ≤ 10000 := by
  obtain ⟨_, xs, _, _, _, al⟩ := h.tupled
  obtain ⟨v, _, av⟩ := al.at e
  obtain ⟨l, _, rfl, hl⟩ := av.strl
  rw [str_len]; exact hl
theorem wd_len {A : Hp} {t : Addr} {ds : List PyData} {n k : Nat} {w : List Nat} (h : At A (.ref t) (.tuple ds)) (e : wd ds n k = .inl w) : w.length ≤ 10000 := by
  unfold wd at e
  split at e
  · rename_i z ez
    split at e
    · rename_i hk
      have hz := line_len h ez
      have e2 : (wrds z).getD k [] = w := by injection e
      rw [List.getD_eq_getElem?_getD, List.getElem?_eq_getElem hk] at e2
      have := words_len (x := z) (w := w) (by rw [← e2]; exact List.getElem_mem hk)
      omega
    · cases e
  · cases e
def numW : List Nat → Option Int
  | [c] => if 49 ≤ c ∧ c ≤ 57 then some ((c : Int) - 48) else none
  | _ => none
theorem numL_digits {w : List Nat} (h : numL w = true) : AllDigits w ∧ w ≠ [] ∧ w.length ≤ 9 ∧ (w = [48] ∨ w.head? ≠ some 48) := by
  unfold numL at h
  rw [Bool.and_eq_true, Bool.and_eq_true, Bool.and_eq_true, Bool.or_eq_true, decide_eq_true_eq, decide_eq_true_eq, decide_eq_true_eq, decide_eq_true_eq, List.all_eq_true] at h
  obtain ⟨⟨⟨h1, h2⟩, h3⟩, h4⟩ := h
  refine ⟨fun c hc => ?_, fun z => ?_, h2, h4⟩
  · have := of_decide_eq_true (h3 c hc)
    simp at this
    omega
  · rw [z] at h1; simp at h1
theorem fold_ge : ∀ (r : List Nat) (acc : Nat), acc ≤ r.foldl (fun acc c => acc * 10 + (c - 48)) acc
  | [], _ => Nat.le_refl _
  | c :: r, acc => Nat.le_trans (by omega) (fold_ge r (acc * 10 + (c - 48)))
theorem num_one {w : List Nat} (h : numL w = true) : intText? ⟨w.toArray⟩ = some ((digitsVal w : Nat) : Int) ∧ (1 ≤ digitsVal w ∧ digitsVal w ≤ 9 → numW w = some ((digitsVal w : Nat) : Int)) ∧ (¬ (1 ≤ digitsVal w ∧ digitsVal w ≤ 9) → numW w = none) := by
  obtain ⟨h1, h2, h3, h4⟩ := numL_digits h
  refine ⟨intText_digits (x := ⟨w.toArray⟩) (by simpa using h1) (by simpa using h2) (by rw [str_len]; omega), ?_⟩
  match w, h1, h2, h4 with
  | [c], h1, _, _ =>
    have hc := h1 c (by simp)
    have e : digitsVal [c] = c - 48 := by simp [digitsVal]
    rw [e]
    refine ⟨fun z => ?_, fun z => ?_⟩
    · show (if 49 ≤ c ∧ c ≤ 57 then some ((c : Int) - 48) else none) = _
      rw [if_pos (by omega)]
      congr 1
      omega
    · show (if 49 ≤ c ∧ c ≤ 57 then some ((c : Int) - 48) else none) = _
      rw [if_neg (by omega)]
  | a :: b :: r, h1, _, h4 =>
    have ha := h1 a (by simp)
    have h5 : a ≠ 48 := by
      rcases h4 with z | z
      · simp at z
      · simpa using z
    have e : 10 ≤ digitsVal (a :: b :: r) := by
      have := fold_ge r ((0 * 10 + (a - 48)) * 10 + (b - 48))
      show 10 ≤ r.foldl _ ((0 * 10 + (a - 48)) * 10 + (b - 48))
      omega
    exact ⟨fun z => by omega, fun _ => rfl⟩
theorem numW_L {w : List Nat} {v : Int} (h : numW w = some v) : numL w = true := by
  match w, h with
  | [c], h =>
    have h' : (if 49 ≤ c ∧ c ≤ 57 then some ((c : Int) - 48) else none) = some v := h
    by_cases hc : 49 ≤ c ∧ c ≤ 57
    · unfold numL
      have e1 : c ∈ DG := by
        simp
        omega
      have e2 : c ≠ 48 := by omega
      rw [List.all_cons, decide_eq_true e1]
      simp [e2]
    · rw [if_neg hc] at h'
      cases h'
def seqOf : PyData → Option (List PyData)
  | .list ds => some ds
  | .tuple ds => some ds
  | _ => none
section
variable {P : Program} {w : World} {K : PySem.W.Frag} {mg : Str → Option Value} {base : Heap} {C_GlimError C_BadRound C_BadText C_BadLine C_BadWay C_TooLong C_Lines C_NUMBERED : Addr}
def p_first (C CB : Addr) : P1 := fun x H Q E => ∃ A p t n ds, x = .ref p ∧ Rdr C A H p t n ds ∧ n < ds.length ∧
  (match ds[n]? with | some (.str z) => ∀ H', Same H H' → Q (S ((wrds z).getD 0 [])) H' | _ => Bl E H CB n 0)
theorem ok_Lines_first_word (T : Txt K mg w C_GlimError C_BadRound C_BadText C_BadLine C_BadWay C_TooLong C_Lines C_NUMBERED) : MOK P w K mg base (L2.CX P w) 4 C_Lines "first_word" ["self"] [] (sp1  (p_first C_Lines C_BadLine)) := by
  refine MOK.mkX (k := 3) T.m_Lines_first_word sc_Lines_first_word len1 fun f cdv A outer s H vs Q E hr h => ?_
  obtain ⟨x, rfl, h⟩ := h
  refine ⟨_, (pss_cons (ps_if (pt_cmpR op_geP (peFld K (pv 0)) (pe_callB (cLen K) (by rfl) T.b_len (by decide +kernel) (pa_cons (peFld K (pv 0)) pa_nil)) (nomark _)) (pss_one (ps_ret pe_non)) pss_nil) (pss_one (ps_ret (pe_ix (ixK K) (pe_m0 (pv 0) T.cl_Lines (ok_Lines_words (K := K) T) (hr.mono (by decide)) (passes_call (takes_of rfl rfl rfl rfl) (fun _ _ _ _ h => h))) pe_int (fun _ _ => rfl))))), ?_⟩
  show (_ : TS) { nx := fun _ H' => Q .non H', rt := Q } [some x] H
  obtain ⟨A0, p, t, n, ds, rfl, R, hn, q⟩ := h
  obtain ⟨sa, tx, dx, ob⟩ := id R
  obtain ⟨t', xs, e, hH, hl, al⟩ := tx.tupled
  cases e
  have ll := al.len
  have now : ∀ {P : V → Prop}, P (.int (n : Int)) → _ := fun {P} k => i_fld (P := P) ob T.cl_Lines T.na_Lines_now (LF_now t n) k
  have txt : ∀ {P : V → Prop}, P (.ref t) → _ := fun {P} k => i_fld (P := P) ob T.cl_Lines T.na_Lines_texts (LF_texts t n) k
  walk_at "go"
  refine now ?_
  walk_at "go"
  refine txt ?_
  walk_at "go"
  refine i_len_tup (.inl (.inl (sa _ _ hH))) ?_
  walk_at "go"
  rw [decide_eq_false (show ¬ ((xs.length : Int) ≤ (n : Int)) by omega)]
  walk_at "go"
  refine i_self ob (LF_no t n (by decide +kernel) (by decide +kernel)) ?_
  walk_at "go"
  refine ⟨A0, p, t, n, ds, rfl, R, ?_⟩
  have hd : ds[n]? = some ds[n] := List.getElem?_eq_getElem hn
  rw [hd] at q ⊢
  generalize ds[n] = d at *
  cases d with
  | str z =>
    intro l nl
    have hw := words_pos z
    walk_at "go"
    refine i_ix_lst (v := S ((wrds z).getD 0 [])) (.inl (.inl upd_same)) (atI_int (by decide) ?_) ?_
    · show ((wrds z).map S)[0]? = _
      rw [List.getElem?_map, List.getD_eq_getElem?_getD, List.getElem?_eq_getElem (by omega)]
      rfl
    · exact q _ (same_upd nl)
  | _ => exact q
def p_fail (C CB : Addr) : P2 := fun x y H Q E => ∃ A p t n ds, ∃ k : Nat, x = .ref p ∧ y = .int (k : Int) ∧ Rdr C A H p t n ds ∧ Bl E H CB n k
theorem ok_Lines_fail_at (T : Txt K mg w C_GlimError C_BadRound C_BadText C_BadLine C_BadWay C_TooLong C_Lines C_NUMBERED) : MOK P w K mg base (L2.CX P w) 3 C_Lines "fail_at" ["self", "number"] [] (sp2  (p_fail C_Lines C_BadLine)) := by
  refine MOK.mkX (k := 2) T.m_Lines_fail_at sc_Lines_fail_at len2 fun f cdv A outer s H vs Q E hr h => ?_
  obtain ⟨x, y, rfl, h⟩ := h
  refine ⟨_, (pss_one (ps_raiseP rfl (takes_of rfl rfl rfl rfl) (pmk_E2 (k := 0) (okx_BadLine T) (hr.mono (by decide)) (pa_cons (peFld K (pv 0)) (pa_cons (pv 1) pa_nil))))), ?_⟩
  show (_ : TS) { nx := fun _ H' => Q .non H', rt := Q } [some x, some y] H
  obtain ⟨A0, p, t, n, ds, k, rfl, rfl, R, q⟩ := h
  obtain ⟨sa, tx, dx, ob⟩ := id R
  walk_at "go"
  refine i_fld ob T.cl_Lines T.na_Lines_now (LF_now t n) ?_
  walk_at "go"
  intro dd nd
  exact Bl.at q nd
def p_word_at (C CB : Addr) : P2 := fun x y H Q E => ∃ A p t n ds, ∃ k : Nat, x = .ref p ∧ y = .int (k : Int) ∧ Rdr C A H p t n ds ∧
  (match wd ds n k with | .inl w => ∀ H', Same H H' → Q (S w) H' | .inr e => Bl E H CB n e)
theorem ok_Lines_word_at (T : Txt K mg w C_GlimError C_BadRound C_BadText C_BadLine C_BadWay C_TooLong C_Lines C_NUMBERED) : MOK P w K mg base (L2.CX P w) 4 C_Lines "word_at" ["self", "number"] [] (sp2  (p_word_at C_Lines C_BadLine)) := by
  refine MOK.mkX (k := 3) T.m_Lines_word_at sc_Lines_word_at len2 fun f cdv A outer s H vs Q E hr h => ?_
  obtain ⟨x, y, rfl, h⟩ := h
  refine ⟨_, (pss_cons (ps_set (i := 2) sc_Lines_word_at.nd rfl (Or.inl rfl) (pe_m0 (pv 0) T.cl_Lines (ok_Lines_words (K := K) T) (hr.mono (by decide)) (passes_call (takes_of rfl rfl rfl rfl) (fun _ _ _ _ h => h)))) (pss_cons (ps_if (pt_cmpR op_geP (pv 1) (pe_callB (cLen K) (by rfl) T.b_len (by decide +kernel) (pa_cons (pv 2) pa_nil)) (nomark _)) (pss_one (ps_raiseP rfl (takes_of rfl rfl rfl rfl) (pmk_E2 (k := 0) (okx_BadLine T) (hr.mono (by decide)) (pa_cons (peFld K (pv 0)) (pa_cons (pe_callB (cLen K) (by rfl) T.b_len (by decide +kernel) (pa_cons (pv 2) pa_nil)) pa_nil))))) pss_nil) (pss_one (ps_ret (pe_ix (ixK K) (pv 2) (pv 1) (fun _ _ => rfl)))))), ?_⟩
  show (_ : TS) { nx := fun _ H' => Q .non H', rt := Q } [some x, some y, none] H
  obtain ⟨A0, p, t, n, ds, k, rfl, rfl, R, q⟩ := h
  obtain ⟨sa, tx, dx, ob⟩ := id R
  unfold wd at q
  walk_at "go"
  refine i_self ob (LF_no t n (by decide +kernel) (by decide +kernel)) ?_
  walk_at "go"
  refine ⟨A0, p, t, n, ds, rfl, R, ?_⟩
  cases e : ds[n]? with
  | none => rw [e] at q; exact q
  | some d =>
  rw [e] at q
  cases d with
  | str z =>
    intro l nl
    have s1 : Same H (upd H l (.lst ((wrds z).map S))) := same_upd nl
    have zl := line_len tx e
    have wm := words_many z
    walk_at "go"
    refine i_len_lst (.inl (.inl upd_same)) ?_
    walk_at "go"
    rw [List.length_map]
    change (match (if k < (wrds z).length then Sum.inl ((wrds z).getD k []) else Sum.inr (wrds z).length) with | .inl w => ∀ H', Same H H' → Q (S w) H' | .inr e => Bl E H C_BadLine n e) at q
    refine i_dec (fun e1 => ?_) (fun e1 => ?_)
    · rw [if_neg (by omega)] at q
      walk_at "go"
      refine i_fld (s1 _ _ ob) T.cl_Lines T.na_Lines_now (LF_now t n) ?_
      walk_at "go"
      refine i_len_lst (.inl (.inl upd_same)) ?_
      walk_at "go"
      rw [List.length_map]
      intro dd nd
      exact Bl.at (q.mono s1) nd
    · have hk : k < (wrds z).length := by omega
      rw [if_pos hk] at q
      walk_at "go"
      refine i_ix_lst (v := S ((wrds z).getD k [])) (.inl (.inl upd_same)) (atI_nat ?_) ?_
      · rw [List.getElem?_map, List.getD_eq_getElem?_getD, List.getElem?_eq_getElem hk]
        rfl
      · exact q _ s1
  | _ => exact q
/-- the number that a word tells, if it lies there -/
def numIn (lo hi : Int) (w : List Nat) : Option Int := if numL w = true ∧ lo ≤ (digitsVal w : Int) ∧ (digitsVal w : Int) ≤ hi then some (digitsVal w : Int) else none
def p_number_at (C CB : Addr) : P4 := fun x y z u H Q E => ∃ A p t n ds, ∃ k : Nat, ∃ lo hi : Int, x = .ref p ∧ y = .int (k : Int) ∧ z = .int lo ∧ u = .int hi ∧ Rdr C A H p t n ds ∧
  (match wd ds n k with | .inl w => (match numIn lo hi w with | some v => ∀ H', Same H H' → Q (.int v) H' | none => Bl E H CB n k) | .inr e => Bl E H CB n e)
theorem ok_Lines_number_at (T : Txt K mg w C_GlimError C_BadRound C_BadText C_BadLine C_BadWay C_TooLong C_Lines C_NUMBERED) : MOK P w K mg base (L2.CX P w) 5 C_Lines "number_at" ["self", "number", "low", "high"] [] (sp4  (p_number_at C_Lines C_BadLine)) := by
  refine MOK.mkX (k := 4) T.m_Lines_number_at sc_Lines_number_at len4 fun f cdv A outer s H vs Q E hr h => ?_
  obtain ⟨x, y, z, u, rfl, h⟩ := h
  refine ⟨_, (pss_cons (ps_set (i := 4) sc_Lines_number_at.nd rfl (Or.inl rfl) (pe_m (pv 0) T.cl_Lines (ok_Lines_word_at (K := K) T) (hr.mono (by decide)) (passes_call (takes_of rfl rfl rfl rfl) (fun _ _ _ _ h => h)) (pa_cons (pv 1) pa_nil))) (pss_cons (ps_if (pw_or (pt_not (pt_val (pe_f (ok_is_number (K := K) T) (hr.mono (by decide)) pass0 (pa_cons (pv 4) pa_nil)))) (pw_or1 (pt_not (pt_chain op_leP op_leP (pv 2) (pe_callTy call_intTx (by rfl) T.b_int (by decide +kernel) (pa_cons (pv 4) pa_nil)) (pv 3))))).pt (pss_one (ps_raiseP rfl (takes_of rfl rfl rfl rfl) (pmk_E2 (k := 0) (okx_BadLine T) (hr.mono (by decide)) (pa_cons (peFld K (pv 0)) (pa_cons (pv 1) pa_nil))))) pss_nil) (pss_one (ps_ret (pe_callTy call_intTx (by rfl) T.b_int (by decide +kernel) (pa_cons (pv 4) pa_nil)))))), ?_⟩
  show (_ : TS) { nx := fun _ H' => Q .non H', rt := Q } [some x, some y, some z, some u, none] H
  obtain ⟨A0, p, t, n, ds, k, lo, hi, rfl, rfl, rfl, rfl, R, q⟩ := h
  obtain ⟨sa, tx, dx, ob⟩ := id R
  walk_at "go"
  refine i_self ob (LF_no t n (by decide +kernel) (by decide +kernel)) ?_
  walk_at "go"
  refine ⟨A0, p, t, n, ds, k, rfl, rfl, R, ?_⟩
  cases e : wd ds n k with
  | inr e1 => rw [e] at q; exact q
  | inl w =>
  rw [e] at q
  have wl := wd_len tx e
  intro H1 s1
  have q : (match (if numL w = true ∧ lo ≤ (digitsVal w : Int) ∧ (digitsVal w : Int) ≤ hi then some (digitsVal w : Int) else none) with | some v => ∀ H', Same H H' → Q (.int v) H' | none => Bl E H C_BadLine n k) := q
  have bad : ¬ (numL w = true ∧ lo ≤ (digitsVal w : Int) ∧ (digitsVal w : Int) ≤ hi) → Bl E H1 C_BadLine n k := fun z => by
    rw [if_neg z] at q
    exact Bl.mono q s1
  walk_at "go"
  refine ⟨w, rfl, wl, ?_⟩
  cases en : numL w with
  | false =>
    walk_at "go"
    refine i_fld (s1 _ _ ob) T.cl_Lines T.na_Lines_now (LF_now t n) ?_
    walk_at "go"
    intro dd nd
    exact Bl.at (bad (fun z => by rw [en] at z; cases z.1)) nd
  | true =>
    obtain ⟨h1, _, _⟩ := num_one en
    have h9 := (numL_digits en).2.2.1
    have it : ∀ {Q : VK}, Q (.int ((digitsVal w : Nat) : Int)) H1 → rIntTx [S w] H1 Q := fun k => ⟨_, _, rfl, h1, by rw [str_len]; omega, k⟩
    walk_at "go"
    refine it ?_
    walk_at "go"
    refine i_dec (fun e1 => ?_) (fun e1 => ?_)
    · walk_at "go"
      refine i_decN (fun e2 => ?_) (fun e2 => ?_)
      · walk_at "go"
        refine i_fld (s1 _ _ ob) T.cl_Lines T.na_Lines_now (LF_now t n) ?_
        walk_at "go"
        intro dd nd
        exact Bl.at (bad (fun z => e2 z.2.2)) nd
      · walk_at "go"
        refine it ?_
        rw [if_pos ⟨en, e1, e2⟩] at q
        exact q _ s1
    · walk_at "go"
      refine i_fld (s1 _ _ ob) T.cl_Lines T.na_Lines_now (LF_now t n) ?_
      walk_at "go"
      intro dd nd
      exact Bl.at (bad (fun z => e1 z.2.1)) nd
end
section
variable {P : Program} {w : World} {K : PySem.W.Frag} {mg : Str → Option Value} {base : Heap} {C_GlimError C_BadRound C_BadText C_BadLine C_BadWay C_TooLong C_Lines C_NUMBERED : Addr}
def p_close (C CB : Addr) : P2 := fun x y H Q E => ∃ A p t n ds dx z, ∃ k : Nat, x = .ref p ∧ y = .int (k : Int) ∧ Same A H ∧ At A (.ref t) (.tuple ds) ∧ H p = some (.ins C dx (LF t n)) ∧ ds[n]? = some (.str z) ∧
  (if k < (wrds z).length then Bl E H CB n k else ∀ H', But p H H' → H' p = some (.ins C dx (LF t (n + 1))) → Q .non H')
theorem ok_Lines_close_at (T : Txt K mg w C_GlimError C_BadRound C_BadText C_BadLine C_BadWay C_TooLong C_Lines C_NUMBERED) : MOK P w K mg base (L2.CX P w) 4 C_Lines "close_at" ["self", "number"] [] (sp2  (p_close C_Lines C_BadLine)) := by
  refine MOK.mkX (k := 3) T.m_Lines_close_at sc_Lines_close_at len2 fun f cdv A outer s H vs Q E hr h => ?_
  obtain ⟨x, y, rfl, h⟩ := h
  refine ⟨_, (pss_cons (ps_if (pt_cmpR op_gtP (pe_callB (cLen K) (by rfl) T.b_len (by decide +kernel) (pa_cons (pe_m0 (pv 0) T.cl_Lines (ok_Lines_words (K := K) T) (hr.mono (by decide)) (passes_call (takes_of rfl rfl rfl rfl) (fun _ _ _ _ h => h))) pa_nil)) (pv 1) (nomark _)) (pss_one (ps_raiseP rfl (takes_of rfl rfl rfl rfl) (pmk_E2 (k := 0) (okx_BadLine T) (hr.mono (by decide)) (pa_cons (peFld K (pv 0)) (pa_cons (pv 1) pa_nil))))) pss_nil) (pss_one (psFldAug K (pv 0) pe_int in_add))), ?_⟩
  show (_ : TS) { nx := fun _ H' => Q .non H', rt := Q } [some x, some y] H
  obtain ⟨A0, p, t, n, ds, dx, z, k, rfl, rfl, sa, tx, ob, e, q⟩ := h
  have R : Rdr C_Lines A0 H p t n ds := ⟨sa, tx, dx, ob⟩
  have zl := line_len tx e
  have wm := words_many z
  walk_at "go"
  refine i_self ob (LF_no t n (by decide +kernel) (by decide +kernel)) ?_
  walk_at "go"
  refine ⟨A0, p, t, n, ds, rfl, R, ?_⟩
  rw [e]
  intro l nl
  have s1 : Same H (upd H l (.lst ((wrds z).map S))) := same_upd nl
  have ob1 := s1 _ _ ob
  walk_at "go"
  refine i_len_lst (.inl (.inl upd_same)) ?_
  walk_at "go"
  rw [List.length_map]
  refine i_dec (fun e1 => ?_) (fun e1 => ?_)
  · rw [if_pos (by omega)] at q
    walk_at "go"
    refine i_fld ob1 T.cl_Lines T.na_Lines_now (LF_now t n) ?_
    walk_at "go"
    intro dd nd
    exact Bl.at (q.mono s1) nd
  · rw [if_neg (by omega)] at q
    walk_at "go"
    refine ⟨_, rfl, p, C_Lines, dx, _, _, rfl, ob1, T.cl_Lines, T.na_Lines_now, LF_now t n, _, _, rfl, rfl, dx, _, ob1, by rw [LF_eq]; show 2 < 1000; decide, ?_⟩
    have e2 : putF "now" (V.int ((n : Int) + 1)) (LF t n) = LF t (n + 1) := by
      have := LF_put t n (n + 1)
      rw [← this]
      rfl
    rw [e2]
    exact q _ ((But.of s1).trans But.put) upd_same
def p_linit (C CB : Addr) : P3 := fun x y z H Q E => ∃ A p dx d, x = .ref p ∧ z = .int 0 ∧ Same A H ∧ A p = none ∧ H p = some (.ins C dx []) ∧ At A y d ∧
  (match seqOf d with
    | none => Bl E H CB 0 0
    | some ds => ∀ A' H' t, Same A A' → Same A' H' → But p H H' → (∀ b, A b = none → A' b ≠ none → H b = none) → H' p = some (.ins C dx (LF t 0)) → At A' (.ref t) (.tuple ds) → Q .non H')
theorem ok_Lines___init__ (T : Txt K mg w C_GlimError C_BadRound C_BadText C_BadLine C_BadWay C_TooLong C_Lines C_NUMBERED) : MkOK P w K mg base (L2.CX P w) 3 "Lines" C_Lines ["self", "texts", "at"] [.int (0)] (sp3  (p_linit C_Lines C_BadLine)) := by
  refine MkOK.mkX (k := 2) T.m_Lines___init__ sc_Lines___init__ len3 fun f cdv A outer s H vs Q E hr h => ?_
  obtain ⟨x, y, z, rfl, h⟩ := h
  refine ⟨_, (pss_cons (ps_if (pt_not (pt_val (pe_callB (cIsiT K) (by rfl) T.b_isinstance (by decide +kernel) (pa_cons (pv 1) (pa_cons (pe_tup (pa_cons (pe_bltn (v := .ty "list") (by rfl) T.b_list (by decide +kernel) rfl) (pa_cons (pe_bltn (v := .ty "tuple") (by rfl) T.b_tuple (by decide +kernel) rfl) pa_nil))) pa_nil))))) (pss_one (ps_raiseP rfl (takes_of rfl rfl rfl rfl) (pmk_E2 (k := 0) (okx_BadLine T) (hr.mono (by decide)) (pa_cons pe_int (pa_cons pe_int pa_nil))))) pss_nil) (pss_cons (psFld K (pv 0) (pe_callTy (cTup K) (by rfl) T.b_tuple (by decide +kernel) (pa_cons (pv 1) pa_nil))) (pss_one (psFld K (pv 0) (pv 2))))), ?_⟩
  show (_ : TS) { nx := fun _ H' => Q .non H', rt := Q } [some x, some y, some z] H
  obtain ⟨A0, p, dx, d, rfl, rfl, sa, np, ob, hd, q⟩ := h
  walk_at "go"
  refine i_new (by show 2 ≤ 100000; omega) fun tp ntp => ?_
  have s1 : Same H (upd H tp (.tup [.ty "list", .ty "tuple"])) := same_upd ntp
  have ob1 := s1 _ _ ob
  have fin : ∀ (A' H2 : Hp) (t : Addr) (ds : List PyData), seqOf d = some ds → Same A0 A' → Same A' H2 → Same H H2 → A' p = none → (∀ b, A0 b = none → A' b ≠ none → H b = none) → At A' (.ref t) (.tuple ds) →
      Q .non (upd (upd H2 p (.ins C_Lines dx (putF "texts" (.ref t) []))) p (.ins C_Lines dx (putF "now" (.int 0) (putF "texts" (.ref t) [])))) := fun A' H2 t ds e sA s2 s3 n2 nw at2 => by
    rw [e] at q
    refine q A' _ t sA (fun b o eb => ?_) (fun b o nb eb => ?_) nw upd_same at2
    · have nb := ne_of_none eb n2
      rw [upd_ne nb, upd_ne nb]; exact s2 b o eb
    · rw [upd_ne nb, upd_ne nb]; exact s3 b o eb
  walk_at "go"
  cases es : isSeqD d with
  | false =>
    refine i_isiSeq false ((hd.same sa).same s1) upd_same es ?_
    walk_at "go"
    intro dd nd
    have q' : Bl E H C_BadLine 0 0 := by
      cases d <;> first
        | exact q
        | cases es
    exact Bl.at (q'.mono s1) nd
  | true =>
    refine i_isiSeq true ((hd.same sa).same s1) upd_same es ?_
    walk_at "go"
    cases d
    case list ds =>
      obtain ⟨a, xs, rfl, hH, hl, al⟩ := hd.listed
      refine i_tuple_lst (.inl (.inl (s1 _ _ (sa _ _ hH)))) fun t nt => ?_
      have s2 := s1.trans (same_upd (o := .tup xs) nt)
      have nat0 : A0 t = none := sa.free (s1.free nt)
      have ob2 := s2 _ _ ob
      walk_at "go"
      refine i_put ob2 T.cl_Lines T.na_Lines_texts (by show 0 < 1000; decide) ?_
      walk_at "go"
      refine i_put upd_same T.cl_Lines T.na_Lines_now (by show 1 < 1000; decide) ?_
      refine fin (upd A0 t (.tup xs)) _ t ds rfl (same_upd nat0) (fun b o eb => ?_) s2 ?_ (fun b h1 h2 => ?_) (At.mkTup upd_same (al.same (same_upd nat0)) (by rw [← al.len]; exact hl))
      · by_cases hb : b = t
        · rw [hb, upd_same] at eb
          rw [hb, upd_same]; exact eb
        · rw [upd_ne hb] at eb
          rw [upd_ne hb]; exact s1 _ _ (sa _ _ eb)
      · have : p ≠ t := ne_of_none (s1 _ _ ob) nt
        rw [upd_ne this]; exact np
      · by_cases hb : b = t
        · rw [hb]; exact s1.free nt
        · rw [upd_ne hb] at h2
          exact absurd h1 h2
    case tuple ds =>
      obtain ⟨a, xs, rfl, hH, hl, al⟩ := hd.tupled
      refine ⟨a, xs, rfl, .inr ⟨.inl (.inl (s1 _ _ (sa _ _ hH))), ?_⟩⟩
      walk_at "go"
      refine i_put ob1 T.cl_Lines T.na_Lines_texts (by show 0 < 1000; decide) ?_
      walk_at "go"
      refine i_put upd_same T.cl_Lines T.na_Lines_now (by show 1 < 1000; decide) ?_
      exact fin A0 _ a ds rfl (Same.refl _) (sa.trans s1) s1 np (fun b h1 h2 => absurd h1 h2) hd
    all_goals cases es
end
section
variable {K : PySem.W.Frag} {σ : L2.St} {H H0 : Hp} {Q : VK} {te : TE} {ta : TA} {j : Nat} {vs : List Nat} {d : Dd}
theorem c_rngD (Pz : Int → Prop) (ha : ∀ R : List V → Hp → Prop, (∀ (z : Int) H1, Dr K d H0 H1 → Pz z → R [.int z] H1) → ta σ H R) (hz : ∀ z, Pz z → 0 ≤ z ∧ z ≤ 100000)
    (Pc : Nat → List V → Prop) (h0 : Pc 0 []) (hl : ∀ i acc, Pc i acc → acc.length ≤ 100000) (hw : ∀ x, wipe ((wipe σ vs).set j (some x)) vs = wipe σ vs)
    (he : ∀ (z : Int) (i : Nat) acc Hk H2, Pz z → (i : Int) < z → Pc i acc → Dr K d Hk H2 → ∀ QV : VK, (∀ y H3, Dr K d Hk H3 → Pc (i + 1) (acc ++ [y]) → QV y H3) → te ((wipe σ vs).set j (some (.int (i : Int)))) H2 QV)
    (q : ∀ (z : Int) Dl H3 acc, Pz z → H0 Dl = none → Pc z.toNat acc → Dr K d (upd H0 Dl (.lst acc)) H3 → Q (.ref Dl) H3) : tLc (iRng1 ta) (gName j) tYes te vs σ H Q := by
  refine ha _ fun z H1 dr pz => ⟨z, rfl, by have := hz z pz; omega, by have := hz z pz; omega, fun Dl nD => ?_⟩
  have n0 : H0 Dl = none := dr.free nD
  refine lc_range (fun i H' => ∃ acc, Pc i acc ∧ Dr K d (upd H0 Dl (.lst acc)) H') ⟨[], h0, dr.new nD⟩ (fun i H' hi p => ?_) (fun H' p => ?_)
  · obtain ⟨acc, pc, dr'⟩ := p
    rw [Int.zero_add]
    refine ⟨hw _, ?_⟩
    refine i_yes (i_tt ?_)
    refine he z i acc _ H' pz (by omega) pc dr' _ fun y H3 dr3 pc' => ⟨acc, dr3.old upd_same, Nat.lt_of_le_of_lt (hl i acc pc) (by decide), _, pc', dr3.put dr.cells n0⟩
  · obtain ⟨acc, pc, dr'⟩ := p
    exact q z Dl H' acc pz n0 pc dr'
end
section
variable {K : PySem.W.Frag} {σ : L2.St} {H H0 : Hp} {Q : VK} {te tl : TE} {j : Nat} {vs : List Nat} {d : Dd} {a : Addr} {xs : List V}
/-- a comprehension over a list that is known, whose elements draw -/
theorem c_lstD (dr : Dr K d H0 H) (hx : H0 a = some (.lst xs)) (ha : ∀ R : VK, R (.ref a) H → tl σ H R) (hn : xs.length ≤ 100000)
    (Pc : Nat → List V → Prop) (h0 : Pc 0 []) (hl : ∀ i acc, Pc i acc → acc.length ≤ 100000) (hw : ∀ x, wipe ((wipe σ vs).set j (some x)) vs = wipe σ vs)
    (he : ∀ (i : Nat) x acc Hk H2, xs[i]? = some x → Pc i acc → Dr K d Hk H2 → ∀ QV : VK, (∀ y H3, Dr K d Hk H3 → Pc (i + 1) (acc ++ [y]) → QV y H3) → te ((wipe σ vs).set j (some x)) H2 QV)
    (q : ∀ Dl H3 acc, H0 Dl = none → Pc xs.length acc → Dr K d (upd H0 Dl (.lst acc)) H3 → Q (.ref Dl) H3) : tLc (iAny K tl) (gName j) tYes te vs σ H Q := by
  refine ha _ (.inl ⟨a, xs, rfl, .inl (.inl (dr.old hx)), fun Dl nD => ?_⟩)
  have n0 : H0 Dl = none := dr.free nD
  have ne : a ≠ Dl := ne_of_none hx n0
  refine lc_list (xs := xs) (fun i H' => ∃ acc, Pc i acc ∧ Dr K d (upd H0 Dl (.lst acc)) H') ⟨[], h0, dr.new nD⟩ (fun i H' _ p => ?_) (fun i x H' hi p => ?_) (fun H' p => ?_)
  · obtain ⟨acc, _, dr'⟩ := p
    exact .inl (.inl (dr'.old ((upd_ne ne).trans hx)))
  · obtain ⟨acc, pc, dr'⟩ := p
    refine ⟨hw _, ?_⟩
    refine i_yes (i_tt ?_)
    refine he i x acc _ H' hi pc dr' _ fun y H3 dr3 pc' => ⟨acc, dr3.old upd_same, Nat.lt_of_le_of_lt (hl i acc pc) (by decide), _, pc', dr3.put dr.cells n0⟩
  · obtain ⟨acc, pc, dr'⟩ := p
    exact q Dl H' acc n0 pc dr'
end
section
variable {K : PySem.W.Frag} {d : Dd} {H0 H : Hp} {q : Addr} {o : HO}
theorem Dr.self (h : Dr K d H0 H) : ∃ o, H d.a = some o := by
  obtain ⟨s0, n0, hc, hl, p, b, u, x, sd, ha, hp⟩ := h
  exact ⟨_, ha⟩
theorem Dr.ne (h : Dr K d H0 H) (n : H q = none) : q ≠ d.a := fun z => by
  obtain ⟨o, e⟩ := h.self
  rw [← z, n] at e
  cases e
end
/-- a new object, known or not -/
theorem Dr.skip {K : PySem.W.Frag} {d : Dd} {H0 H : Hp} {q : Addr} {o : HO} (h : Dr K d H0 H) (n : H q = none) : Dr K d H0 (upd H q o) := h.same (same_upd n)
theorem Dr.step {K : PySem.W.Frag} {d : Dd} {Hk H : Hp} {p : Addr} (o : HO) (h : Dr K d Hk H) (n : H p = none) : ∃ Hk', Same Hk Hk' ∧ Hk' p = some o ∧ Dr K d Hk' (upd H p o) := ⟨upd Hk p o, same_upd (h.free n), upd_same, h.new n⟩
theorem Dr.back {K : PySem.W.Frag} {d : Dd} {H0 H1 H H' : Hp} (h : Dr K d H1 H) (dr : Dr K d H0 H') (s : Same H0 H1) : Dr K d H0 H := by
  obtain ⟨s1, n1, hc1, hl, p, b, u, x, sd, ha, hp⟩ := h
  obtain ⟨s0, n0, hc, _⟩ := dr
  exact ⟨s.trans s1, n0, hc, hl, p, b, u, x, sd, ha, hp⟩
theorem mem_set {α : Type} {l : List α} {i : Nat} {a x : α} (h : x ∈ l.set i a) : x ∈ l ∨ x = a := List.mem_or_eq_of_mem_set h
theorem atAll_set {H : Hp} {zs : List V} {ds : List PyData} {v : V} {d : PyData} (h : AtAll H zs ds) (hv : At H v d) (i : Nat) : AtAll H (zs.set i v) (ds.set i d) := by
  refine atAll_of (by rw [List.length_set, List.length_set]; exact h.len) fun j x e hx he => ?_
  rw [List.getElem?_set] at hx he
  by_cases z : i = j
  · subst z
    rw [if_pos rfl] at hx he
    split at hx
    · cases hx
      split at he
      · cases he; exact hv
      · cases he
    · cases hx
  · rw [if_neg z] at hx he
    obtain ⟨c, hc, ac⟩ := h.get hx
    rw [he] at hc
    cases hc
    exact ac
def joinH (A f : Hp) : Hp := fun b => match A b with
  | some o => some o
  | none => f b
section
variable {K : PySem.W.Frag} {d : Dd} {f A A1 H H1 : Hp} {q : Addr} {o o' : HO}
theorem joinH_some (h : A q = some o) : joinH A f q = some o := by unfold joinH; rw [h]
theorem joinH_none (h : A q = none) : joinH A f q = f q := by unfold joinH; rw [h]
theorem joinH_upd : joinH (upd A q o) f = upd (joinH A f) q o := by
  funext b
  by_cases h : b = q
  · rw [h, upd_same]; exact joinH_some upd_same
  · rw [upd_ne h]
    unfold joinH
    rw [upd_ne h]
def D2 (K : PySem.W.Frag) (d : Dd) (f A H : Hp) : Prop := Same A H ∧ Dr K d (joinH A f) H ∧ ∀ b, f b ≠ none → A b = none
theorem D2.old (h : D2 K d f A H) (e : A q = some o) : H q = some o := h.1 _ _ e
theorem D2.free (h : D2 K d f A H) (n : H q = none) : A q = none := h.1.free n
theorem D2.fr (h : D2 K d f A H) (e : f q = some o) : H q = some o := h.2.1.1 _ _ (by rw [joinH_none (h.2.2 q (by rw [e]; simp))]; exact e)
theorem D2.same (h : D2 K d f A H) (s : Same H H1) : D2 K d f A H1 := ⟨h.1.trans s, h.2.1.same s, h.2.2⟩
theorem D2.new (h : D2 K d f A H) (n : H q = none) : D2 K d f (upd A q o) (upd H q o) := by
  have e := h.2.1.new (o := o) n
  rw [← joinH_upd] at e
  refine ⟨fun b u hb => ?_, e, fun b hb => ?_⟩
  · by_cases hq : b = q
    · rw [hq, upd_same] at hb; rw [hq, upd_same]; exact hb
    · rw [upd_ne hq] at hb; rw [upd_ne hq]; exact h.1 _ _ hb
  · have hq : b ≠ q := fun z => by
      cases ef : f b with
      | none => exact hb ef
      | some u =>
        have := h.fr ef
        rw [z, n] at this
        cases this
    rw [upd_ne hq]
    exact h.2.2 b hb
theorem D2.step (h : D2 K d f A H) (o : HO) (n : H q = none) : ∃ A1, Same A A1 ∧ A1 q = some o ∧ D2 K d f A1 (upd H q o) := ⟨_, same_upd (h.free n), upd_same, h.new n⟩
theorem D2.cells (h : D2 K d f A H) : SqL K (joinH A f) d.c (d.ns.map V.int) := h.2.1.cells
theorem D2.less (h : D2 K d f (upd A q o) H) (hc : SqL K (joinH A f) d.c (d.ns.map V.int)) (n : A q = none) : D2 K d f A H := by
  have e := h.2.1
  rw [joinH_upd] at e
  have nf : f q = none := by
    cases ef : f q with
    | none => rfl
    | some u =>
      have := h.2.2 q (by rw [ef]; simp)
      rw [upd_same] at this
      cases this
  refine ⟨(same_upd n).trans h.1, e.less hc (by rw [joinH_none n]; exact nf), fun b hb => ?_⟩
  have := h.2.2 b hb
  rwa [upd_ne (fun z => by rw [z, nf] at hb; exact hb rfl)] at this
theorem pick2 {many : Int} {Q : VK} {E : XK} (h : D2 K d f A H) (hm : many ≤ 10000000000000000000000000000000000000000) (q : ∀ (n : Int) H', D2 K d f A H' → Btw n many → Q (.int n) H') : p_L_pick K (.ref d.a) (.int many) H Q E :=
  ⟨joinH A f, d, many, rfl, rfl, h.2.1, hm, fun n H' e b => q n H' ⟨fun c u hc => e.1 _ _ (joinH_some hc), e, h.2.2⟩ b⟩
/-- one object -/
def oneH (q : Addr) (o : HO) : Hp := fun b => if b = q then some o else none
theorem joinH_one (n : A q = none) : joinH A (oneH q o) = upd A q o := by
  funext b
  by_cases h : b = q
  · rw [h, upd_same, joinH_none n]; exact if_pos rfl
  · rw [upd_ne h]
    cases e : A b with
    | some u => exact joinH_some e
    | none => rw [joinH_none e]; exact if_neg h
theorem D2.of (h : Dr K d (upd A q o) H) (n : A q = none) : D2 K d (oneH q o) A H :=
  ⟨(same_upd n).trans h.1, by rw [joinH_one n]; exact h, fun b hb => by
    by_cases e : b = q
    · rw [e]; exact n
    · exact absurd (if_neg e) hb⟩
theorem D2.to (h : D2 K d (oneH q o) A H) : A q = none ∧ Dr K d (upd A q o) H := by
  have n : A q = none := h.2.2 q (by rw [show oneH q o q = some o from if_pos rfl]; simp)
  exact ⟨n, by rw [← joinH_one n]; exact h.2.1⟩
end


section
variable {K : PySem.W.Frag} {d : Dd} {f A A1 H H1 H0 : Hp} {q L wl p r : Addr} {o o' x y : HO} {xs zs : List V}
theorem D2.nf (h : D2 K d f (upd A q o) H) : f q = none := by
  cases ef : f q with
  | none => rfl
  | some u =>
    have := h.2.2 q (by rw [ef]; simp)
    rw [upd_same] at this
    cases this
theorem D2.lst (h : D2 K d f (upd A q o) H) : H q = some o := h.old upd_same
theorem D2.skip (h : D2 K d f A H) (n : H q = none) : D2 K d f A (upd H q o) := h.same (same_upd n)
theorem D2.put (h : D2 K d f (upd A q o) H) (hc : SqL K (joinH A f) d.c (d.ns.map V.int)) (n : A q = none) : D2 K d f (upd A q o') (upd H q o') := by
  have nf := h.nf
  have e := h.2.1
  rw [joinH_upd] at e
  have e2 := e.put (o' := o') hc (by rw [joinH_none n]; exact nf)
  rw [← joinH_upd] at e2
  refine ⟨fun b u hb => ?_, e2, fun b hb => ?_⟩
  · by_cases hq : b = q
    · rw [hq, upd_same] at hb; rw [hq, upd_same]; exact hb
    · rw [upd_ne hq] at hb; rw [upd_ne hq]; exact h.1 _ _ ((upd_ne hq).trans hb)
  · have hq : b ≠ q := fun z => by rw [z] at hb; exact hb nf
    have := h.2.2 b hb
    rw [upd_ne hq] at this
    rw [upd_ne hq]; exact this
theorem D2.sq (h0 : D2 K d f H0 H) (s : Same H0 A) (h : D2 K d f (upd A q o) H1) : SqL K (joinH A f) d.c (d.ns.map V.int) := by
  have hc := h0.2.1.cells
  have s2 : Same (joinH H0 f) (joinH A f) := fun b u e => by
    cases e0 : H0 b with
    | some w =>
      rw [joinH_some e0] at e
      rw [joinH_some (s _ _ e0)]; exact e
    | none =>
      rw [joinH_none e0] at e
      have nq : b ≠ q := fun z => by rw [z, h.nf] at e; cases e
      have := h.2.2 b (by rw [e]; simp)
      rw [upd_ne nq] at this
      rw [joinH_none this]; exact e
  exact s2.seq hc
/-- a list goes into the frame -/
theorem D2.hide (h : D2 K d f (upd A L o) H) (n : A L = none) : D2 K d (joinH (oneH L o) f) A H := by
  have ej : joinH A (joinH (oneH L o) f) = joinH (upd A L o) f := by
    funext b
    by_cases h1 : b = L
    · rw [h1, joinH_none n, joinH_some (show oneH L o L = some o from if_pos rfl), joinH_some upd_same]
    · have e1 : joinH (oneH L o) f b = f b := joinH_none (show oneH L o b = none from if_neg h1)
      cases e : A b with
      | some u => rw [joinH_some e, joinH_some ((upd_ne h1).trans e)]
      | none => rw [joinH_none e, joinH_none ((upd_ne h1).trans e)]; exact e1
  refine ⟨(same_upd n).trans h.1, by rw [ej]; exact h.2.1, fun b hb => ?_⟩
  by_cases h1 : b = L
  · rw [h1]; exact n
  · rw [joinH_none (show oneH L o b = none from if_neg h1)] at hb
    have := h.2.2 b hb
    rw [upd_ne h1] at this
    exact this
theorem D2.show (h : D2 K d (joinH (oneH L o) f) A H) (nf : f L = none) : A L = none ∧ D2 K d f (upd A L o) H := by
  have n : A L = none := h.2.2 L (by rw [joinH_some (show oneH L o L = some o from if_pos rfl)]; simp)
  have ej : joinH A (joinH (oneH L o) f) = joinH (upd A L o) f := by
    funext b
    by_cases h1 : b = L
    · rw [h1, joinH_none n, joinH_some (show oneH L o L = some o from if_pos rfl), joinH_some upd_same]
    · have e1 : joinH (oneH L o) f b = f b := joinH_none (show oneH L o b = none from if_neg h1)
      cases e : A b with
      | some u => rw [joinH_some e, joinH_some ((upd_ne h1).trans e)]
      | none => rw [joinH_none e, joinH_none ((upd_ne h1).trans e)]; exact e1
  refine ⟨n, fun b u hb => ?_, by rw [← ej]; exact h.2.1, fun b hb => ?_⟩
  · by_cases h1 : b = L
    · rw [h1, upd_same] at hb
      cases hb
      rw [h1]
      exact h.fr (joinH_some (if_pos rfl))
    · rw [upd_ne h1] at hb; exact h.1 _ _ hb
  · have h1 : b ≠ L := fun z => by rw [z] at hb; exact hb nf
    rw [upd_ne h1]
    exact h.2.2 b (by rw [joinH_none (show oneH L o b = none from if_neg h1)]; exact hb)
end

def noF : Hp := fun _ => none
section
variable {K : PySem.W.Frag} {d : Dd} {f A A0 A1 A2 H H1 H0 G G2 : Hp} {q L : Addr} {o : HO} {xs : List V} {ds : List PyData}
theorem join_noF : joinH A noF = A := by
  funext b
  cases e : A b with
  | some u => exact joinH_some e
  | none => exact joinH_none e
theorem D2.of0 (h : Dr K d A H) : D2 K d noF A H := ⟨h.1, by rw [join_noF]; exact h, fun b hb => absurd rfl hb⟩
theorem D2.to0 (h : D2 K d noF A H) : Dr K d A H := by
  have := h.2.1
  rwa [join_noF] at this
/-- the cells of the draws are known -/
def Cel (K : PySem.W.Frag) (d : Dd) (f A : Hp) : Prop := SqL K (joinH A f) d.c (d.ns.map V.int)
theorem D2.cel (h : D2 K d f A H) : Cel K d f A := h.2.1.cells
theorem cel_up (hc : Cel K d f A0) (s : Same A0 A) (h : D2 K d f (upd A q o) H1) : Cel K d f A := by
  have s2 : Same (joinH A0 f) (joinH A f) := fun b u e => by
    cases e0 : A0 b with
    | some w =>
      rw [joinH_some e0] at e
      rw [joinH_some (s _ _ e0)]; exact e
    | none =>
      rw [joinH_none e0] at e
      have nq : b ≠ q := fun z => by rw [z, h.nf] at e; cases e
      have := h.2.2 b (by rw [e]; simp)
      rw [upd_ne nq] at this
      rw [joinH_none this]; exact e
  exact s2.seq hc
/-- the list at L, with these data, over what is known besides -/
structure LB (K : PySem.W.Frag) (d : Dd) (f A0 : Hp) (L : Addr) (G : Hp) (ds : List PyData) : Prop where
  ex : ∃ A1 xs, Same A0 A1 ∧ A1 L = none ∧ D2 K d f (upd A1 L (.lst xs)) G ∧ AtAll A1 xs ds
  cel : Cel K d f A0
theorem LB.new (h : D2 K d f A0 H) (n : H L = none) : LB K d f A0 L (upd H L (.lst [])) [] := ⟨⟨A0, [], Same.refl _, h.free n, h.new n, .nil⟩, h.cel⟩
theorem LB.start (h : D2 K d f (upd A0 L (.lst xs)) H) (n : A0 L = none) (al : AtAll A0 xs ds) (c : Cel K d f A0) : LB K d f A0 L H ds := ⟨⟨A0, xs, Same.refl _, n, h, al⟩, c⟩
/-- opened: draws go on beside it; then it changes -/
theorem LB.op (h : LB K d f A0 L G ds) : ∃ A1 xs fr, Same A0 A1 ∧ G L = some (.lst xs) ∧ xs.length = ds.length ∧ AtAll A1 xs ds ∧ D2 K d fr A1 G ∧
    (∀ A2 G2, Same A1 A2 → D2 K d fr A2 G2 → G2 L = some (.lst xs) ∧ AtAll A2 xs ds ∧ LB K d f A0 L G2 ds ∧
      (∀ v e, At A2 v e → LB K d f A0 L (upd G2 L (.lst (xs ++ [v]))) (ds ++ [e])) ∧ ∀ v e j, At A2 v e → LB K d f A0 L (upd G2 L (.lst (xs.set j v))) (ds.set j e)) := by
  obtain ⟨⟨A1, xs, s, n, dr, al⟩, c⟩ := h
  refine ⟨A1, xs, _, s, dr.lst, al.len, al, dr.hide n, fun A2 G2 s2 d2 => ?_⟩
  obtain ⟨n2, d3⟩ := d2.show dr.nf
  have c2 := cel_up c (s.trans s2) d3
  have al2 := al.same s2
  exact ⟨d3.lst, al2, ⟨⟨A2, xs, s.trans s2, n2, d3, al2⟩, c⟩, fun v e hv => ⟨⟨A2, _, s.trans s2, n2, d3.put c2 n2, al2.app (.one hv)⟩, c⟩, fun v e j hv => ⟨⟨A2, _, s.trans s2, n2, d3.put c2 n2, atAll_set al2 hv j⟩, c⟩⟩
/-- closed: it is known -/
theorem LB.cl (h : LB K d f A0 L G ds) (hl : ds.length ≤ 10000) : ∃ A1 xs, Same A0 A1 ∧ D2 K d f A1 G ∧ A1 L = some (.lst xs) ∧ AtAll A1 xs ds ∧ At A1 (.ref L) (.list ds) ∧ xs.length = ds.length := by
  obtain ⟨⟨A1, xs, s, n, dr, al⟩, c⟩ := h
  have al2 := al.same (same_upd (o := .lst xs) n)
  exact ⟨_, xs, s.trans (same_upd n), dr, upd_same, al2, At.mkLst upd_same al2 hl, al.len⟩
variable {σ : L2.St} {Q : VK} {te tl : TE} {ta : TA} {j : Nat} {vs : List Nat} {a : Addr}
/-- [te for j in range(n)], te drawing data -/
theorem c_rngB {many : Nat} (dr : D2 K d f A H) (ha : ∀ R : List V → Hp → Prop, R [.int (many : Int)] H → ta σ H R) (hm : many ≤ 10000) (P : Nat → PyData → Prop) (hw : ∀ x, wipe ((wipe σ vs).set j (some x)) vs = wipe σ vs)
    (he : ∀ (i : Nat) A1 G1 fr, i < many → Same A A1 → D2 K d fr A1 G1 → ∀ QV : VK, (∀ A2 G2 y e, Same A1 A2 → D2 K d fr A2 G2 → At A2 y e → P i e → QV y G2) → te ((wipe σ vs).set j (some (.int (i : Int)))) G1 QV)
    (q : ∀ A1 G1 Dl xs ds, Same A A1 → D2 K d f A1 G1 → A1 Dl = some (.lst xs) → AtAll A1 xs ds → ds.length = many → (∀ i e, ds[i]? = some e → P i e) → Q (.ref Dl) G1) : tLc (iRng1 ta) (gName j) tYes te vs σ H Q := by
  refine ha _ ⟨(many : Int), rfl, by omega, by omega, fun Dl nD => ?_⟩
  rw [Int.toNat_natCast]
  refine lc_range (fun i H' => ∃ ds, LB K d f A Dl H' ds ∧ ds.length = i ∧ ∀ m e, ds[m]? = some e → P m e) ⟨[], LB.new dr nD, rfl, fun m e z => by simp at z⟩ (fun i H' hi p => ?_) (fun H' p => ?_)
  · obtain ⟨ds, lb, dl, hp⟩ := p
    rw [Int.zero_add]
    refine ⟨hw _, i_yes (i_tt ?_)⟩
    obtain ⟨A1, xs, fr, s1, _, xl, _, d1, k⟩ := lb.op
    refine he i A1 H' fr hi s1 d1 _ fun A2 G2 y e s2 d2 hy hp' => ?_
    obtain ⟨hL, _, _, app, _⟩ := k A2 G2 s2 d2
    refine ⟨xs, hL, by rw [xl, dl]; exact Nat.lt_of_lt_of_le hi (Nat.le_trans hm (by decide)), _, app y e hy, by rw [List.length_append, dl]; rfl, fun m e' z => ?_⟩
    rcases Nat.lt_or_ge m ds.length with h | h
    · rw [List.getElem?_append_left h] at z; exact hp m e' z
    · have hlt := (List.getElem?_eq_some_iff.mp z).1
      rw [List.length_append, List.length_singleton] at hlt
      obtain rfl : m = ds.length := by omega
      rw [List.getElem?_append_right (Nat.le_refl _), Nat.sub_self] at z
      cases z
      rw [dl]; exact hp'
  · obtain ⟨ds, lb, dl, hp⟩ := p
    obtain ⟨A1, xs, s1, d1, e1, al, _, _⟩ := lb.cl (by omega)
    exact q A1 H' Dl xs ds s1 d1 e1 al dl hp
/-- .. over data that are known -/
theorem c_seqL {xs : List V} {es : List PyData} (dr : D2 K d f A H) (hx : A a = some (.lst xs) ∨ A a = some (.tup xs)) (al : AtAll A xs es) (ha : ∀ R : VK, R (.ref a) H → tl σ H R) (hm : es.length ≤ 10000) (P : Nat → PyData → Prop) (hw : ∀ x, wipe ((wipe σ vs).set j (some x)) vs = wipe σ vs)
    (he : ∀ (i : Nat) x e A1 G1 fr, es[i]? = some e → At A1 x e → Same A A1 → D2 K d fr A1 G1 → ∀ QV : VK, (∀ A2 G2 y e', Same A1 A2 → D2 K d fr A2 G2 → At A2 y e' → P i e' → QV y G2) → te ((wipe σ vs).set j (some x)) G1 QV)
    (q : ∀ G1 Dl ds, LB K d f A Dl G1 ds → ds.length = es.length → (∀ i e, ds[i]? = some e → P i e) → Q (.ref Dl) G1) : tLc (iAny K tl) (gName j) tYes te vs σ H Q := by
  have ll := al.len
  have turn : ∀ Dl i x H', H Dl = none → xs[i]? = some x → (∃ ds, LB K d f A Dl H' ds ∧ ds.length = i ∧ ∀ m e, ds[m]? = some e → P m e) → wipe ((wipe σ vs).set j (some x)) vs = wipe σ vs ∧ tYes ((wipe σ vs).set j (some x)) H' fun b H3 =>
      if b = true then te ((wipe σ vs).set j (some x)) H3 fun y H4 => ∃ acc, H4 Dl = some (.lst acc) ∧ acc.length < sizeLine ∧ ∃ ds, LB K d f A Dl (upd H4 Dl (.lst (acc ++ [y]))) ds ∧ ds.length = i + 1 ∧ ∀ m e, ds[m]? = some e → P m e
      else ∃ ds, LB K d f A Dl H3 ds ∧ ds.length = i + 1 ∧ ∀ m e, ds[m]? = some e → P m e := fun Dl i x H' nD hi p => by
    obtain ⟨ds, lb, dl, hp⟩ := p
    obtain ⟨e, he1, ax⟩ := al.get hi
    have hlt := (List.getElem?_eq_some_iff.mp hi).1
    refine ⟨hw _, i_yes (i_tt ?_)⟩
    obtain ⟨A1, ys, fr, s1, _, xl, _, d1, k⟩ := lb.op
    refine he i x e A1 H' fr he1 (ax.same s1) s1 d1 _ fun A2 G2 y e' s2 d2 hy hp' => ?_
    obtain ⟨hL, _, _, app, _⟩ := k A2 G2 s2 d2
    refine ⟨ys, hL, by rw [xl, dl]; exact Nat.lt_of_lt_of_le (show i < 100000 by omega) (by decide), _, app y e' hy, by rw [List.length_append, dl]; rfl, fun m e'' z => ?_⟩
    rcases Nat.lt_or_ge m ds.length with h | h
    · rw [List.getElem?_append_left h] at z; exact hp m e'' z
    · have hlt := (List.getElem?_eq_some_iff.mp z).1
      rw [List.length_append, List.length_singleton] at hlt
      obtain rfl : m = ds.length := by omega
      rw [List.getElem?_append_right (Nat.le_refl _), Nat.sub_self] at z
      cases z
      rw [dl]; exact hp'
  have fin : ∀ Dl H', (∃ ds, LB K d f A Dl H' ds ∧ ds.length = xs.length ∧ ∀ m e, ds[m]? = some e → P m e) → Q (.ref Dl) H' := fun Dl H' p => by
    obtain ⟨ds, lb, dl, hp⟩ := p
    exact q H' Dl ds lb (by omega) hp
  have stay : ∀ {Dl i H'}, (∃ ds, LB K d f A Dl H' ds ∧ ds.length = i ∧ ∀ m e, ds[m]? = some e → P m e) → Same A H' := fun p => by
    obtain ⟨ds, lb, _⟩ := p
    obtain ⟨A1, ys, fr, s1, _, _, _, d1, _⟩ := lb.op
    exact s1.trans d1.1
  rcases hx with hx | hx
  · refine ha _ (.inl ⟨a, xs, rfl, .inl (.inl (dr.old hx)), fun Dl nD => ?_⟩)
    exact lc_list (xs := xs) (fun i H' => ∃ ds, LB K d f A Dl H' ds ∧ ds.length = i ∧ ∀ m e, ds[m]? = some e → P m e) ⟨[], LB.new dr nD, rfl, fun m e z => by simp at z⟩ (fun i H' _ p => .inl (.inl (stay p _ _ hx))) (fun i x H' hi p => turn Dl i x H' nD hi p) (fun H' p => fin Dl H' p)
  · refine ha _ (.inr (.inl ⟨a, xs, rfl, .inl (.inl (dr.old hx)), fun Dl nD => ?_⟩))
    exact lc_tup (xs := xs) (fun i H' => ∃ ds, LB K d f A Dl H' ds ∧ ds.length = i ∧ ∀ m e, ds[m]? = some e → P m e) ⟨[], LB.new dr nD, rfl, fun m e z => by simp at z⟩ (fun i H' _ p => .inl (.inl (stay p _ _ hx))) (fun i x H' hi p => turn Dl i x H' nD hi p) (fun H' p => fin Dl H' p)
theorem c_seqB {xs : List V} {es : List PyData} (dr : D2 K d f A H) (hx : A a = some (.lst xs) ∨ A a = some (.tup xs)) (al : AtAll A xs es) (ha : ∀ R : VK, R (.ref a) H → tl σ H R) (hm : es.length ≤ 10000) (P : Nat → PyData → Prop) (hw : ∀ x, wipe ((wipe σ vs).set j (some x)) vs = wipe σ vs)
    (he : ∀ (i : Nat) x e A1 G1 fr, es[i]? = some e → At A1 x e → Same A A1 → D2 K d fr A1 G1 → ∀ QV : VK, (∀ A2 G2 y e', Same A1 A2 → D2 K d fr A2 G2 → At A2 y e' → P i e' → QV y G2) → te ((wipe σ vs).set j (some x)) G1 QV)
    (q : ∀ A1 G1 Dl xs ds, Same A A1 → D2 K d f A1 G1 → A1 Dl = some (.lst xs) → AtAll A1 xs ds → ds.length = es.length → (∀ i e, ds[i]? = some e → P i e) → Q (.ref Dl) G1) : tLc (iAny K tl) (gName j) tYes te vs σ H Q :=
  c_seqL dr hx al ha hm P hw he fun G1 Dl ds lb dl hp => by
    obtain ⟨A1, ys, s1, d1, e1, al', _, _⟩ := lb.cl (by omega)
    exact q A1 G1 Dl ys ds s1 d1 e1 al' dl hp
end
abbrev cGlass : List Nat := [103, 108, 97, 115, 115]
abbrev cLame : List Nat := [108, 97, 109, 101]
abbrev cStand : List Nat := [115, 116, 97, 110, 100, 105, 110]
abbrev cRest : List Nat := [114, 101, 115, 116, 97, 114, 116]
abbrev cSlip : List Nat := [115, 108, 105, 112]
/-- the bounds of a kind that has a number -/
def numB (w : List Nat) : Option (Int × Int) := if w = cLame then some (2, 4) else if w = cRest then some (1, 3) else if w = cSlip then some (2, 9) else none
def wayK (k : List Nat) (v : PyData) : Bool := if k = cGlass then isGl v else if k = cStand then rndD v else match numB k with
  | none => false
  | some (lo, hi) => isIn v lo hi
def isWay : PyData → Bool
  | .tuple [.str k, v] => wayK k.cps.toList v
  | _ => false
theorem isWay_mk (k : List Nat) (v : PyData) : isWay (.tuple [dS k, v]) = wayK k v := rfl
theorem look_num {a0 a1 a2 : V} (l : List Nat) : ([(cLame, a0), (cRest, a1), (cSlip, a2)] : List (List Nat × V)).lookup l = if l = cLame then some a0 else if l = cRest then some a1 else if l = cSlip then some a2 else none := by
  rw [List.lookup_cons, List.lookup_cons, List.lookup_cons]
  by_cases h1 : l = cLame
  · rw [if_pos h1, beq_iff_eq.mpr h1]
  rw [if_neg h1, beq_eq_false_iff_ne.mpr h1]
  by_cases h2 : l = cRest
  · rw [if_pos h2, beq_iff_eq.mpr h2]
  rw [if_neg h2, beq_eq_false_iff_ne.mpr h2]
  by_cases h3 : l = cSlip
  · rw [if_pos h3, beq_iff_eq.mpr h3]
  rw [if_neg h3, beq_eq_false_iff_ne.mpr h3]
  rfl
def badAt (ds : List PyData) : Option Nat := ds.findIdx? fun d => !isWay d
/-- the number of the first thing that is no way -/
def badY : PyData → Option Int
  | .tuple ds => (badAt ds).map fun n : Nat => (n : Int)
  | _ => some (-1)
theorem badAt_some {ds : List PyData} {n : Nat} {d : PyData} (h : ds[n]? = some d) (hc : isWay d = false) (hb : ∀ k < n, ∀ c, ds[k]? = some c → isWay c = true) : badAt ds = some n := by
  unfold badAt
  rw [List.findIdx?_eq_some_iff_getElem]
  obtain ⟨hp, e⟩ := List.getElem?_eq_some_iff.mp h
  refine ⟨hp, by simp [e, hc], fun j hj => ?_⟩
  have := hb j hj (ds[j]) (List.getElem?_eq_getElem (by omega))
  simp [this]
theorem badAt_none {ds : List PyData} (hb : ∀ d ∈ ds, isWay d = true) : badAt ds = none := by
  unfold badAt
  rw [List.findIdx?_eq_none_iff]
  intro d hd
  simp [hb d hd]
theorem badAt_all {ds : List PyData} (h : badAt ds = none) : ∀ d ∈ ds, isWay d = true := by
  unfold badAt at h
  rw [List.findIdx?_eq_none_iff] at h
  intro d hd
  simpa using h d hd
/-- a word of a line -/
def txD : PyData → List Nat
  | .str x => x.cps.toList
  | .int i => dec i.toNat
  | _ => []
noncomputable def lnK (k : List Nat) (v : PyData) : List Nat := if k = cStand then cStand ++ [32] ++ fC (txD v) else k ++ [32] ++ txD v
/-- the line of a way -/
noncomputable def lnW : PyData → List Nat
  | .tuple [.str k, v] => lnK k.cps.toList v
  | _ => []
theorem dS_inj {l m : List Nat} (h : dS l = dS m) : l = m := by
  injection h with h
  injection h with h
  simpa using congrArg Array.toList h
theorem isWay_is {d : PyData} (h : isWay d = true) : ∃ k v, d = .tuple [dS k, v] ∧ wayK k v = true := by
  cases d with
  | tuple ds =>
    match ds, h with
    | [.str k, v], h => exact ⟨k.cps.toList, v, rfl, h⟩
  | _ => cases h
theorem rowL_row {m : Int} {l : List Nat} (h : rowL m l = true) : (l.length : Int) ≤ m ∧ ∀ c ∈ l, c ∈ SG := by
  unfold rowL at h
  rw [Bool.and_eq_true, decide_eq_true_eq] at h
  refine ⟨h.1, fun c hc => ?_⟩
  have h2 := h.2
  unfold firstBad at h2
  rw [Option.isNone_iff_eq_none, List.findIdx?_eq_none_iff] at h2
  have h3 := h2 c hc
  cases hd : decide (c ∈ SG) with
  | true => exact of_decide_eq_true hd
  | false => rw [hd] at h3; cases h3
theorem row_rowL {m : Int} {l : List Nat} (h1 : (l.length : Int) ≤ m) (h2 : ∀ c ∈ l, c ∈ SG) : rowL m l = true := by
  unfold rowL
  rw [decide_eq_true h1, firstBad_none h2]
  rfl
theorem rnd_is {v : PyData} (h : rndD v = true) : ∃ l, v = dS l ∧ IsRound l := by
  cases v with
  | str x =>
    have h : rndB x.cps.toList = true := h
    unfold rndB at h
    rw [Bool.and_eq_true, Bool.and_eq_true, decide_eq_true_eq, decide_eq_true_eq] at h
    have r := rowL_row (m := 24) (l := x.cps.toList) (by unfold rowL; rw [decide_eq_true (by omega), h.2.1]; rfl)
    exact ⟨_, rfl, h.2.2, h.1, r.2⟩
  | _ => cases h
theorem rnd_of {l : List Nat} (h : IsRound l) : rndD (dS l) = true := by
  show rndB l = true
  unfold rndB
  rw [decide_eq_true h.2.1, firstBad_none h.2.2, decide_eq_true h.1]
  rfl
theorem isIn_range {d : PyData} {lo hi : Int} (h : isIn d lo hi = true) : ∃ i, d = .int i ∧ lo ≤ i ∧ i ≤ hi := by
  cases d with
  | int i => rw [isIn_int, Bool.and_eq_true, decide_eq_true_eq, decide_eq_true_eq] at h; exact ⟨i, rfl, h.1, h.2⟩
  | _ => cases h
theorem gl_is {v : PyData} (h : isGl v = true) : ∃ l, v = dS l ∧ l.length = 4 ∧ ∀ c ∈ l, c ∈ SG := by
  cases v with
  | str x =>
    have h : (rowL 4 x.cps.toList && decide (x.cps.toList.length = 4)) = true := h
    rw [Bool.and_eq_true, decide_eq_true_eq] at h
    exact ⟨_, rfl, h.2, (rowL_row h.1).2⟩
  | _ => cases h
/-- the kinds of ways -/
inductive WayF : List Nat → PyData → Prop where
  | gl {l : List Nat} (h : l.length = 4) (r : ∀ c ∈ l, c ∈ SG) : WayF cGlass (dS l)
  | rd {l : List Nat} (h : IsRound l) : WayF cStand (dS l)
  | nm {k : List Nat} {n : Nat} (h : k = cLame ∧ 2 ≤ n ∧ n ≤ 4 ∨ k = cRest ∧ 1 ≤ n ∧ n ≤ 3 ∨ k = cSlip ∧ 2 ≤ n ∧ n ≤ 9) : WayF k (.int (n : Int))
theorem wayK_F {k : List Nat} {v : PyData} (h : wayK k v = true) : WayF k v := by
  unfold wayK at h
  by_cases h1 : k = cGlass
  · rw [if_pos h1] at h
    subst h1
    obtain ⟨l, rfl, h2, h3⟩ := gl_is h
    exact .gl h2 h3
  rw [if_neg h1] at h
  by_cases h2 : k = cStand
  · rw [if_pos h2] at h
    subst h2
    obtain ⟨l, rfl, h3⟩ := rnd_is h
    exact .rd h3
  rw [if_neg h2] at h
  unfold numB at h
  have fin : ∀ {lo hi : Int}, 1 ≤ lo → isIn v lo hi = true → ∃ n : Nat, v = .int (n : Int) ∧ lo ≤ (n : Int) ∧ (n : Int) ≤ hi := fun h0 h => by
    obtain ⟨i, rfl, a, b⟩ := isIn_range h
    obtain ⟨n, rfl⟩ := Int.eq_ofNat_of_zero_le (show 0 ≤ i by omega)
    exact ⟨n, rfl, a, b⟩
  by_cases h3 : k = cLame
  · rw [if_pos h3] at h
    obtain ⟨n, rfl, a, b⟩ := fin (by decide) h
    exact .nm (.inl ⟨h3, by omega, by omega⟩)
  rw [if_neg h3] at h
  by_cases h4 : k = cRest
  · rw [if_pos h4] at h
    obtain ⟨n, rfl, a, b⟩ := fin (by decide) h
    exact .nm (.inr (.inl ⟨h4, by omega, by omega⟩))
  rw [if_neg h4] at h
  by_cases h5 : k = cSlip
  · rw [if_pos h5] at h
    obtain ⟨n, rfl, a, b⟩ := fin (by decide) h
    exact .nm (.inr (.inr ⟨h5, by omega, by omega⟩))
  rw [if_neg h5] at h
  cases h
theorem WayF.ok {k : List Nat} {v : PyData} (h : WayF k v) : wayK k v = true := by
  cases h with
  | gl h r =>
    unfold wayK
    rw [if_pos rfl]
    show (rowL 4 _ && decide _) = true
    rw [row_rowL (by omega) r, decide_eq_true h]
    rfl
  | rd h =>
    unfold wayK
    rw [if_neg (by decide), if_pos rfl]
    exact rnd_of h
  | nm h =>
    rename_i n
    unfold wayK
    rcases h with ⟨rfl, a, b⟩ | ⟨rfl, a, b⟩ | ⟨rfl, a, b⟩
    · rw [if_neg (by decide), if_neg (by decide), show numB cLame = some (2, 4) from rfl]
      show isIn _ _ _ = true
      rw [isIn_int, decide_eq_true (by omega), decide_eq_true (by omega)]
      rfl
    · rw [if_neg (by decide), if_neg (by decide), show numB cRest = some (1, 3) from rfl]
      show isIn _ _ _ = true
      rw [isIn_int, decide_eq_true (by omega), decide_eq_true (by omega)]
      rfl
    · rw [if_neg (by decide), if_neg (by decide), show numB cSlip = some (2, 9) from rfl]
      show isIn _ _ _ = true
      rw [isIn_int, decide_eq_true (by omega), decide_eq_true (by omega)]
      rfl
theorem num_str {n : Nat} (hn : n < 100) {H : Hp} {Q : VK} (k : Q (S (dec n)) H) : rStrP [.int (n : Int)] H Q := by
  refine .inl ⟨(n : Int), rfl, ?_, ?_⟩
  · have h1 : (n : Int).natAbs = n := rfl
    rw [h1]
    rcases Nat.eq_zero_or_pos n with z | z
    · rw [z]; decide
    · have := Nat.log2_lt (by omega : n ≠ 0) |>.mpr (show n < 2 ^ 1920 from Nat.lt_of_lt_of_le hn (by
        have : (2:Nat) ^ 7 ≤ 2 ^ 1920 := Nat.pow_le_pow_right (by decide) (by decide)
        omega))
      exact this
  · rw [dec_str n hn]
    exact k
section
variable {P : Program} {w : World} {K : PySem.W.Frag} {mg : Str → Option Value} {base : Heap} {C_GlimError C_BadRound C_BadText C_BadLine C_BadWay C_TooLong C_Lines C_NUMBERED : Addr}
def p_form : P1 := fun x H Q _ => ∃ d, At H x d ∧ ∀ H', Same H H' → Q (.bl (isWay d)) H'
theorem ok_has_way_form (T : Txt K mg w C_GlimError C_BadRound C_BadText C_BadLine C_BadWay C_TooLong C_Lines C_NUMBERED) : OK P w K mg base CX0 4 "has_way_form" ["way"] (sp1  p_form) := by
  refine OK.mk (k := 3) T.d_has_way_form sc_has_way_form len1 fun f cdv A outer s H vs Q E hr h => ?_
  obtain ⟨x, rfl, h⟩ := h
  refine ⟨_, (pss_cons (ps_if (pw_or (pt_not (pt_val (pe_callB (cIsi K) (by rfl) T.b_isinstance (by decide +kernel) (pa_cons (pv 0) (pa_cons (pe_bltn (v := .ty "tuple") (by rfl) T.b_tuple (by decide +kernel) rfl) pa_nil))))) (pw_or (pt_cmpR (opNe K hr.units) (pe_callB (cLen K) (by rfl) T.b_len (by decide +kernel) (pa_cons (pv 0) pa_nil)) pe_int (nomark _)) (pw_or1 (pt_not (pt_val (pe_callB (cIsi K) (by rfl) T.b_isinstance (by decide +kernel) (pa_cons (pe_ix (ixK K) (pv 0) pe_int (fun _ _ => rfl)) (pa_cons (pe_bltn (v := .ty "str") (by rfl) T.b_str (by decide +kernel) rfl) pa_nil)))))))).pt (pss_one (ps_ret pe_bl)) pss_nil) (pss_cons (ps_asg (pv 0) (pgTup (n := 2) K rfl (pgs_cons (pg_name (i := 1) sc_has_way_form.nd rfl (Or.inl rfl)) (pgs_cons (pg_name (i := 2) sc_has_way_form.nd rfl (Or.inl rfl)) pgs_nil)))) (pss_cons (ps_if (pt_cmpR (opEq K hr.units) (pv 1) (pe_S [103, 108, 97, 115, 115]) (nomark _)) (pss_one (ps_ret (pe_f (ok_is_glass (K := K) T) (hr.mono (by decide)) pass0 (pa_cons (pv 2) pa_nil)))) pss_nil) (pss_cons (ps_if (pt_cmpR (opEq K hr.units) (pv 1) (pe_S [115, 116, 97, 110, 100, 105, 110]) (nomark _)) (pss_one (ps_ret (pe_f (ok_is_round (K := K) T) (hr.mono (by decide)) pass0 (pa_cons (pv 2) pa_nil)))) pss_nil) (pss_cons (ps_if (pt_cmpR (Fg.opNotInW K w) (pv 1) (pe_gR _ T.c_NUMBERED) (by with_unfolding_all rfl)) (pss_one (ps_ret pe_bl)) pss_nil) (pss_cons (ps_asg (pe_ix (Fg.ixW K w) (pe_gR _ T.c_NUMBERED) (pv 1) (fun _ _ => rfl)) (pgTup (n := 2) K rfl (pgs_cons (pg_name (i := 3) sc_has_way_form.nd rfl (Or.inl rfl)) (pgs_cons (pg_name (i := 4) sc_has_way_form.nd rfl (Or.inl rfl)) pgs_nil)))) (pss_one (ps_ret (pe_f (ok_is_integer (K := K) T) (hr.mono (by decide)) pass0 (pa_cons (pv 2) (pa_cons (pv 3) (pa_cons (pv 4) pa_nil)))))))))))), ?_⟩
  show (_ : TS) { nx := fun _ H' => Q .non H', rt := Q } [some x, none, none, none, none] H
  obtain ⟨d, hx, q⟩ := h
  obtain ⟨a0, a1, a2, wd, q0, q1, q2⟩ := T.q_NUMBERED
  have nt : isTupD d = false → isWay d = false := fun e => by
    cases d <;> first
      | rfl
      | cases e
  walk_at "go"
  cases e : isTupD d with
  | false =>
    rw [nt e] at q
    refine i_isiTup false hx e ?_
    walk_at "go"
    exact q _ (Same.refl H)
  | true =>
  obtain ⟨ds, rfl⟩ : ∃ ds, d = .tuple ds := by
    cases d <;> first
      | exact ⟨_, rfl⟩
      | cases e
  refine i_isiTup true hx rfl ?_
  obtain ⟨a, xs, rfl, hH, hl, al⟩ := hx.tupled
  have ll := al.len
  walk_at "go"
  refine i_len_tup (.inl (.inl hH)) ?_
  walk_at "go"
  by_cases h2 : ds.length = 2
  case neg =>
    have e1 : isWay (.tuple ds) = false := by
      match ds, h2 with
      | [], _ => rfl
      | [_], _ => by_cases z : True <;> first | rfl | (rename_i d h2; cases d <;> rfl)
      | [a, b], h2 => exact absurd rfl h2
      | a :: b :: c :: r, _ => cases a <;> rfl
    rw [e1] at q
    rw [decide_eq_false (show ¬ (xs.length : Int) = 2 by omega)]
    walk_at "go"
    exact q _ (Same.refl H)
  rw [decide_eq_true (show (xs.length : Int) = 2 by omega)]
  obtain ⟨k, v, rfl⟩ : ∃ k v, ds = [k, v] := by
    match ds, h2 with
    | [k, v], _ => exact ⟨k, v, rfl⟩
  cases al with
  | cons ak al =>
  rename_i x0 xs
  cases al with
  | cons av al =>
  rename_i x1 xs
  cases al
  walk_at "go"
  cases es : isStrD k with
  | false =>
    have e1 : isWay (.tuple [k, v]) = false := by
      cases k <;> first
        | rfl
        | cases es
    rw [e1] at q
    refine i_isiStr false ak es ?_
    walk_at "go"
    exact q _ (Same.refl H)
  | true =>
  obtain ⟨kx, rfl⟩ : ∃ kx, k = .str kx := by
    cases k <;> first
      | exact ⟨_, rfl⟩
      | cases es
  refine i_isiStr true ak rfl ?_
  obtain ⟨l, rfl, rfl, hl0⟩ := ak.strl
  rw [isWay_mk] at q
  unfold wayK at q
  walk_at "go"
  refine i_dec (fun e1 => ?_) (fun e1 => ?_)
  · rw [if_pos e1] at q
    walk_at "go"
    exact ⟨v, av, q⟩
  rw [if_neg e1] at q
  walk_at "go"
  refine i_dec (fun e2 => ?_) (fun e2 => ?_)
  · rw [if_pos e2] at q
    walk_at "go"
    exact ⟨v, av, q⟩
  rw [if_neg e2] at q
  have lk := look_num (a0 := .ref a0) (a1 := .ref a1) (a2 := .ref a2) l
  walk_at "go"
  refine i_notInW wd ?_
  unfold numB at q
  have fin : ∀ {at_ : Addr} {lo hi : Int}, (∀ H : Hp, SqT K H at_ [.int lo, .int hi]) → ([(cLame, V.ref a0), (cRest, .ref a1), (cSlip, .ref a2)] : List (List Nat × V)).lookup l = some (.ref at_) → (∀ H', Same H H' → Q (.bl (isIn v lo hi)) H') → _ := fun {at_ lo hi} hq e q => (⟨hq, e, q⟩ : (∀ H : Hp, SqT K H at_ [.int lo, .int hi]) ∧ ([(cLame, V.ref a0), (cRest, .ref a1), (cSlip, .ref a2)] : List (List Nat × V)).lookup l = some (.ref at_) ∧ (∀ H', Same H H' → Q (.bl (isIn v lo hi)) H'))
  by_cases hn : (([(cLame, V.ref a0), (cRest, .ref a1), (cSlip, .ref a2)] : List (List Nat × V)).lookup l) = none
  · rw [hn]
    walk_at "go"
    rw [lk] at hn
    split at hn
    · cases hn
    · rename_i h3
      split at hn
      · cases hn
      · rename_i h4
        split at hn
        · cases hn
        · rename_i h5
          rw [if_neg h3, if_neg h4, if_neg h5] at q
          exact q _ (Same.refl H)
  obtain ⟨at_, lo, hi, hq, e, q⟩ : ∃ at_ lo hi, (∀ H : Hp, SqT K H at_ [.int lo, .int hi]) ∧ ([(cLame, V.ref a0), (cRest, .ref a1), (cSlip, .ref a2)] : List (List Nat × V)).lookup l = some (.ref at_) ∧ (∀ H', Same H H' → Q (.bl (isIn v lo hi)) H') := by
    rw [lk] at hn
    split at hn
    · rename_i h3
      rw [if_pos h3] at q lk
      exact ⟨_, _, _, fin q0 lk q⟩
    · rename_i h3
      rw [if_neg h3] at q lk
      split at hn
      · rename_i h4
        rw [if_pos h4] at q lk
        exact ⟨_, _, _, fin q1 lk q⟩
      · rename_i h4
        rw [if_neg h4] at q lk
        split at hn
        · rename_i h5
          rw [if_pos h5] at q lk
          exact ⟨_, _, _, fin q2 lk q⟩
        · exact absurd rfl hn
  rw [e, show (some (V.ref at_)).isSome = true from rfl]
  walk_at "go"
  refine i_ixW wd e ?_
  refine i_gtup2 (hq H) ?_
  walk_at "go"
  exact ⟨v, lo, hi, av, rfl, rfl, q _ (Same.refl H)⟩
def p_is_way : P1 := fun x H Q _ => ∃ A d, Same A H ∧ At A x d ∧ d.depth < 6 ∧ ∀ H', Same H H' → Q (.bl (isWay (deepD d))) H'
theorem ok_is_way (T : Txt K mg w C_GlimError C_BadRound C_BadText C_BadLine C_BadWay C_TooLong C_Lines C_NUMBERED) : OK P w K mg base CX0 7 "is_way" ["thing"] (sp1  p_is_way) := by
  refine OK.mk (k := 6) T.d_is_way sc_is_way len1 fun f cdv A outer s H vs Q E hr h => ?_
  obtain ⟨x, rfl, h⟩ := h
  refine ⟨_, (pss_one (ps_ret (pe_f (ok_has_way_form (K := K) T) (hr.mono (by decide)) pass0 (pa_cons (pe_fd (ok_deep (K := K) T) (hr.mono (by decide)) pass0 (pa_cons (pv 0) pa_nil)) pa_nil)))), ?_⟩
  show (_ : TS) { nx := fun _ H' => Q .non H', rt := Q } [some x] H
  obtain ⟨A0, d, sa, hx, hd, q⟩ := h
  walk_at "go"
  refine ⟨A0, d, 0, sa, hx, rfl, by decide, by decide, hd, fun A1 H1 v x1 hv => ?_⟩
  walk_at "go"
  exact ⟨_, hv.same x1.ag, fun H2 s2 => q H2 (x1.gg.trans s2)⟩
def p_check (C : Addr) : P1 := fun x H Q E => ∃ d, At H x d ∧ (match badY d with | some n => Rz E H C "number" (.int n) | none => ∀ H', Same H H' → Q .non H')
theorem ok_check_ways (T : Txt K mg w C_GlimError C_BadRound C_BadText C_BadLine C_BadWay C_TooLong C_Lines C_NUMBERED) : OK P w K mg base (L2.CX P w) 5 "check_ways" ["ways"] (sp1  (p_check C_BadWay)) := by
  refine OK.mkX (k := 4) T.d_check_ways sc_check_ways len1 fun f cdv A outer s H vs Q E hr h => ?_
  obtain ⟨x, rfl, h⟩ := h
  refine ⟨_, (pss_cons (ps_if (pt_not (pt_val (pe_callB (cIsi K) (by rfl) T.b_isinstance (by decide +kernel) (pa_cons (pv 0) (pa_cons (pe_bltn (v := .ty "tuple") (by rfl) T.b_tuple (by decide +kernel) rfl) pa_nil))))) (pss_one (ps_raiseP rfl (takes_of rfl rfl rfl rfl) (pmk_E (k := 0) (okx_BadWay T) (hr.mono (by decide)) (pa_cons (pe_un un_neg pe_int) pa_nil)))) pss_nil) (pss_one (ps_for (passes_of rfl) rfl (piEnumT K rfl T.b_enumerate (pa_cons (pv 0) pa_nil)) (pgTup (n := 2) K rfl (pgs_cons (pg_name (i := 1) sc_check_ways.nd rfl (Or.inl rfl)) (pgs_cons (pg_name (i := 2) sc_check_ways.nd rfl (Or.inl rfl)) pgs_nil))) (pss_one (ps_if (pt_not (pt_val (pe_f (ok_has_way_form (K := K) T) (hr.mono (by decide)) pass0 (pa_cons (pv 2) pa_nil)))) (pss_one (ps_raiseP rfl (takes_of rfl rfl rfl rfl) (pmk_E (k := 0) (okx_BadWay T) (hr.mono (by decide)) (pa_cons (pv 1) pa_nil)))) pss_nil))))), ?_⟩
  show (_ : TS) { nx := fun _ H' => Q .non H', rt := Q } [some x, none, none] H
  obtain ⟨d, hx, q⟩ := h
  have other : isTupD d = false → badY d = some (-1) := fun h => by
    cases d <;> first
      | rfl
      | cases h
  walk_at "go"
  cases e : isTupD d with
  | false =>
    rw [other e] at q
    refine i_isiTup false hx e ?_
    walk_at "go"
    intro dd nd
    exact Rz.at q nd
  | true =>
    obtain ⟨ds, rfl⟩ : ∃ ds, d = .tuple ds := by
      cases d <;> first
        | exact ⟨_, rfl⟩
        | cases e
    refine i_isiTup true hx rfl ?_
    obtain ⟨a, xs, rfl, hH, hl, al⟩ := hx.tupled
    have ll := al.len
    change (match (badAt ds).map fun n : Nat => (n : Int) with | some n => Rz E H C_BadWay "number" (.int n) | none => ∀ H', Same H H' → Q .non H') at q
    walk_at "go"
    dsimp only
    refine f_enumT (a := a) (xs := xs) (fun R k => by walk_at "go"; exact k) (.inl (.inl hH)) (fun i σ H' => ∃ v1 v2, σ = [some (.ref a), v1, v2] ∧ Same H H' ∧ ∀ k < i, ∀ c, ds[k]? = some c → isWay c = true) ⟨none, none, rfl, Same.refl H, fun k hk => absurd hk (Nat.not_lt_zero _)⟩ (fun i σ' H' _ p => ?_) ?_ ?_
    · obtain ⟨_, _, _, s1, _⟩ := p
      rw [s1 _ _ hH, hH]
    · rintro i x σ H' Tt hi ⟨v1, v2, rfl, s1, hb⟩ nT
      show (_ : TS) _ [some (.ref a), some (.int (i : Int)), some x] _
      obtain ⟨c, hc, ac⟩ := al.get hi
      have s2 := s1.trans (same_upd (o := .tup [.int (i : Int), x]) nT)
      walk_at "go"
      refine ⟨c, ac.same s2, fun H2 s3 => ?_⟩
      cases ew : isWay c with
      | true =>
        walk_at "go"
        refine ⟨_, _, rfl, s2.trans s3, fun k hk c' hc' => ?_⟩
        rcases Nat.lt_or_ge k i with h | h
        · exact hb k h c' hc'
        · have : k = i := by omega
          subst this
          rw [hc] at hc'
          cases hc'
          exact ew
      | false =>
        rw [badAt_some hc ew hb] at q
        walk_at "go"
        intro dd nd
        exact Rz.at (q.mono (s2.trans s3)) nd
    · rintro σ H' ⟨v1, v2, rfl, s1, hb⟩
      rw [badAt_none (ds := ds) (fun d hd => by
        obtain ⟨k, hk, e⟩ := List.mem_iff_getElem.mp hd
        exact hb k (by omega) d (by rw [List.getElem?_eq_getElem hk, e]))] at q
      walk_at "go"
      exact q _ s1
def p_way_line : P1 := fun x H Q _ => ∃ d, At H x d ∧ isWay d = true ∧ ∀ H', Same H H' → Q (S (lnW d)) H'
theorem ok_way_line (T : Txt K mg w C_GlimError C_BadRound C_BadText C_BadLine C_BadWay C_TooLong C_Lines C_NUMBERED) : OK P w K mg base (L2.CX P w) 7 "way_line" ["way"] (sp1  p_way_line) := by
  refine OK.mkX (k := 6) T.d_way_line sc_way_line len1 fun f cdv A outer s H vs Q E hr h => ?_
  obtain ⟨x, rfl, h⟩ := h
  refine ⟨_, (pss_cons (ps_asg (pv 0) (pgTup (n := 2) K rfl (pgs_cons (pg_name (i := 1) sc_way_line.nd rfl (Or.inl rfl)) (pgs_cons (pg_name (i := 2) sc_way_line.nd rfl (Or.inl rfl)) pgs_nil)))) (pss_cons (ps_if (pt_cmpR (opEq K hr.units) (pv 1) (pe_S [115, 116, 97, 110, 100, 105, 110]) (nomark _)) (pss_one (ps_ret (pe_op (opAdd K) (pe_S [115, 116, 97, 110, 100, 105, 110, 32]) (pe_f (ok_fold_round (K := K) T) (hr.mono (by decide)) (passes_call (takes_of rfl rfl rfl rfl) (fun _ _ _ _ h => h)) (pa_cons (pv 2) pa_nil))))) pss_nil) (pss_one (ps_ret (pe_op (opAdd K) (pe_op (opAdd K) (pv 1) (pe_S [32])) (pe_callTy call_strP (by rfl) T.b_str (by decide +kernel) (pa_cons (pv 2) pa_nil))))))), ?_⟩
  show (_ : TS) { nx := fun _ H' => Q .non H', rt := Q } [some x, none, none] H
  obtain ⟨d, hx, hw, q⟩ := h
  obtain ⟨k, v, rfl, hw⟩ := isWay_is hw
  have q : ∀ H', Same H H' → Q (S (lnK k v)) H' := q
  unfold lnK at q
  obtain ⟨a, xs, rfl, hH, hl, al⟩ := hx.tupled
  cases al with
  | cons ak al =>
  cases al with
  | cons av al =>
  cases al
  obtain ⟨_, rfl, e0, hk0⟩ := ak.strl
  cases e0
  walk_at "go"
  refine i_dec (fun e1 => ?_) (fun e1 => ?_)
  · rw [if_pos e1] at q
    subst e1
    cases wayK_F hw with
    | rd hr =>
      obtain ⟨_, rfl, e0, hk1⟩ := av.strl
      cases e0
      walk_at "go"
      refine .inl ⟨_, rfl, hr, fun H1 s1 => ?_⟩
      have := fC_len (p := _) (List.length_pos_iff.mp hr.1)
      have := hr.2.1
      walk_at "go"
      exact q _ s1
    | nm h => rcases h with ⟨h, _⟩ | ⟨h, _⟩ | ⟨h, _⟩ <;> exact absurd h (by decide)
  · rw [if_neg e1] at q
    cases wayK_F hw with
    | gl h4 hr =>
      obtain ⟨lv, rfl, e0, hk1⟩ := av.strl
      have el : _ = lv := dS_inj (congrArg PyData.str e0)
      subst el
      walk_at "go"
      refine .inr ⟨_, rfl, ?_⟩
      exact i_add_str (by simp only [List.length_append, List.length_cons, List.length_nil]; omega) (q _ (Same.refl H))
    | rd hr => exact absurd rfl e1
    | @nm _ n h =>
      obtain rfl := av.intd
      have hn : n < 100 := by omega
      have := dec_len n
      have hk9 : k.length ≤ 10 := by rcases h with ⟨rfl, _⟩ | ⟨rfl, _⟩ | ⟨rfl, _⟩ <;> decide
      walk_at "go"
      refine num_str hn ?_
      have q2 := q _ (Same.refl H)
      rw [show txD (.int (n : Int)) = dec n from congrArg dec (Int.toNat_natCast n)] at q2
      exact i_add_str (by simp only [List.length_append, List.length_cons, List.length_nil]; omega) q2
end
mutual
theorem deepD_idem : ∀ d : PyData, deepD (deepD d) = deepD d
  | .none => rfl
  | .bool _ => rfl
  | .int _ => rfl
  | .str _ => rfl
  | .list ds => congrArg PyData.tuple (deepDs_idem ds)
  | .tuple ds => congrArg PyData.tuple (deepDs_idem ds)
  | .dict _ => rfl
theorem deepDs_idem : ∀ ds : List PyData, deepD.deepDs (deepD.deepDs ds) = deepD.deepDs ds
  | [] => rfl
  | d :: r => by
    show deepD (deepD d) :: deepD.deepDs (deepD.deepDs r) = deepD d :: deepD.deepDs r
    rw [deepD_idem d, deepDs_idem r]
end
mutual
theorem deepD_depth : ∀ d : PyData, (deepD d).depth = d.depth
  | .none => rfl
  | .bool _ => rfl
  | .int _ => rfl
  | .str _ => rfl
  | .list ds => congrArg (· + 1) (deepDs_depth ds)
  | .tuple ds => congrArg (· + 1) (deepDs_depth ds)
  | .dict _ => rfl
theorem deepDs_depth : ∀ ds : List PyData, PyData.depthAll (deepD.deepDs ds) = PyData.depthAll ds
  | [] => rfl
  | d :: r => by
    show max (deepD d).depth (PyData.depthAll (deepD.deepDs r)) = max d.depth (PyData.depthAll r)
    rw [deepD_depth d, deepDs_depth r]
end
/-- the text of a word -/
theorem fC_row {l : List Nat} (h : IsRound l) : (fC l).length ≤ 24 := by
  have h1 := fC_len (p := l) (List.length_pos_iff.mp h.1)
  have := h.2.1
  omega
theorem lnW_len {d : PyData} (h : isWay d = true) : (lnW d).length ≤ 40 := by
  obtain ⟨k, v, rfl, h⟩ := isWay_is h
  show (lnK k v).length ≤ 40
  unfold lnK
  have f := wayK_F h
  cases f with
  | gl h4 _ =>
    rw [if_neg (by decide)]
    show (cGlass ++ [32] ++ _).length ≤ 40
    simp only [List.length_append, List.length_cons, List.length_nil, h4, txD]
    omega
  | rd hr =>
    rw [if_pos rfl]
    have := fC_row hr
    simp only [List.length_append, List.length_cons, List.length_nil, txD]
    show 7 + 1 + (fC _).length ≤ 40
    omega
  | @nm _ n hh =>
    have := dec_len n
    have h2 : txD (.int (n : Int)) = dec n := congrArg dec (Int.toNat_natCast n)
    have hk : k ≠ cStand ∧ k.length ≤ 10 := by rcases hh with ⟨e, _⟩ | ⟨e, _⟩ | ⟨e, _⟩ <;> (have e : k = _ := e; rw [e]; decide)
    rw [if_neg hk.1, h2]
    simp only [List.length_append, List.length_cons, List.length_nil]
    omega
section
variable {P : Program} {w : World} {K : PySem.W.Frag} {mg : Str → Option Value} {base : Heap} {C_GlimError C_BadRound C_BadText C_BadLine C_BadWay C_TooLong C_Lines C_NUMBERED : Addr}
def p_write (C : Addr) : P1 := fun x H Q E => ∃ A d, Same A H ∧ At A x d ∧ d.depth < 6 ∧
  (match badY (deepD d) with | some n => Rz E H C "number" (.int n) | none => ∀ ds A' H' v, deepD d = .tuple ds → Ext A H A' H' → At A' v (.tuple (ds.map fun w => dS (lnW w))) → Q v H')
theorem ok_write_ways (T : Txt K mg w C_GlimError C_BadRound C_BadText C_BadLine C_BadWay C_TooLong C_Lines C_NUMBERED) : OK P w K mg base (L2.CX P w) 8 "write_ways" ["ways"] (sp1  (p_write C_BadWay)) := by
  refine OK.mkX (k := 7) T.d_write_ways sc_write_ways len1 fun f cdv A outer s H vs Q E hr h => ?_
  obtain ⟨x, rfl, h⟩ := h
  refine ⟨_, (pss_cons (ps_set (i := 1) sc_write_ways.nd rfl (Or.inl rfl) (pe_fd (ok_deep (K := K) T) (hr.mono (by decide)) pass0 (pa_cons (pv 0) pa_nil))) (pss_cons (ps_expr (pe_f (ok_check_ways (K := K) T) (hr.mono (by decide)) (passes_call (takes_of rfl rfl rfl rfl) (fun _ _ _ _ h => h)) (pa_cons (pv 1) pa_nil))) (pss_one (ps_ret (pe_callTy (cTup K) (by rfl) T.b_tuple (by decide +kernel) (pa_cons (pe_lc (own := [("way", 2)]) (g := gName 2) (tt := tYes) (by rfl) sc_write_ways.nd (piAny K (pv 1)) (blkOk_by (own := [("way", 2)]) (N := ["ways", "told", "way"]) (sc := (defScope s_write_ways)) (by decide +kernel)) (fun _ _ _ _ _ => (pg_name (i := 2) sc_write_ways.nd rfl (Or.inl rfl))) (fun _ _ _ _ _ => pts_nil) (fun _ _ _ _ _ => (pe_f (ok_way_line (K := K) T) (hr.mono (by decide)) Fg.passN (pa_cons (pv 2) pa_nil)))) pa_nil)))))), ?_⟩
  show (_ : TS) { nx := fun _ H' => Q .non H', rt := Q } [some x, none, none] H
  obtain ⟨A0, d, sa, hx, hd, q⟩ := h
  walk_at "go"
  refine ⟨A0, d, 0, sa, hx, rfl, by decide, by decide, hd, fun A1 H1 v x1 hv => ?_⟩
  walk_at "go"
  refine ⟨_, hv.same x1.ag, ?_⟩
  cases e : badY (deepD d) with
  | some n =>
    rw [e] at q
    exact q.mono x1.gg
  | none =>
  rw [e] at q
  intro H2 s2
  obtain ⟨ds, e1⟩ : ∃ ds, deepD d = .tuple ds := by
    cases e2 : deepD d with
    | tuple ds => exact ⟨ds, rfl⟩
    | _ => rw [e2] at e; cases e
  rw [e1] at e hv
  have hw := badAt_all (Option.map_eq_none_iff.mp (show (badAt ds).map (fun n : Nat => (n : Int)) = none from e))
  obtain ⟨a, xs, rfl, hH, hl, al⟩ := hv.tupled
  have x2 : Ext A0 H A1 H2 := ⟨x1.aa, x1.ag.trans s2, x1.gg.trans s2, x1.nw⟩
  walk_at "go"
  refine c_tupD x2.ag (fun R k => by walk_at "go"; exact k) (.inl (.inl (x2.ag _ _ hH))) al hl (fun w => dS (lnW w)) (fun _ => rfl) (fun y w A3 G3 hm hy y3 QV k => ?_) (fun Dl A3 G3 l y3 e4 ea al2 ll => ?_)
  · show (_ : TE) [some x, some (.ref a), some y] G3 QV
    have wd := hw w hm
    walk_at "go"
    refine ⟨w, hy.same y3.ag, wd, fun H4 s4 => ?_⟩
    exact k A3 H4 _ ⟨Same.refl _, y3.ag.trans s4, s4, fun b h1 h2 => absurd h1 h2⟩ (.str _ (Nat.le_trans (lnW_len wd) (by decide)))
  · walk_at "go"
    refine i_tuple_lst (.inl (.inl e4)) fun tl ntl => ?_
    have na : A3 tl = none := y3.ag.free ntl
    have dl := al.len
    exact q ds _ _ _ e1 ((x2.trans y3).new ntl) (At.mkTup upd_same (al2.same (same_upd na)) (by rw [List.length_map]; omega))
end
/-- the round that a text stands for, if it does -/
def rdP (w : List Nat) : Option (List Nat) := match rd w 6 0 with
  | .error _ => none
  | .ok (s, e) => if e < w.length then none else if 24 < s.1 then none else some s.2
section
variable {P : Program} {w : World} {K : PySem.W.Frag} {mg : Str → Option Value} {base : Heap} {C_GlimError C_BadRound C_BadText C_BadLine C_BadWay C_TooLong C_Lines C_NUMBERED : Addr}
def p_glass_at (C CB : Addr) : P2 := fun x y H Q E => ∃ A p t n ds, ∃ k : Nat, x = .ref p ∧ y = .int (k : Int) ∧ Rdr C A H p t n ds ∧
  (match wd ds n k with | .inl w => if isGl (dS w) = true then ∀ H', Same H H' → Q (S w) H' else Bl E H CB n k | .inr e => Bl E H CB n e)
theorem ok_Lines_glass_at (T : Txt K mg w C_GlimError C_BadRound C_BadText C_BadLine C_BadWay C_TooLong C_Lines C_NUMBERED) : MOK P w K mg base (L2.CX P w) 5 C_Lines "glass_at" ["self", "number"] [] (sp2  (p_glass_at C_Lines C_BadLine)) := by
  refine MOK.mkX (k := 4) T.m_Lines_glass_at sc_Lines_glass_at len2 fun f cdv A outer s H vs Q E hr h => ?_
  obtain ⟨x, y, rfl, h⟩ := h
  refine ⟨_, (pss_cons (ps_set (i := 2) sc_Lines_glass_at.nd rfl (Or.inl rfl) (pe_m (pv 0) T.cl_Lines (ok_Lines_word_at (K := K) T) (hr.mono (by decide)) (passes_call (takes_of rfl rfl rfl rfl) (fun _ _ _ _ h => h)) (pa_cons (pv 1) pa_nil))) (pss_cons (ps_if (pt_not (pt_val (pe_f (ok_is_glass (K := K) T) (hr.mono (by decide)) pass0 (pa_cons (pv 2) pa_nil)))) (pss_one (ps_raiseP rfl (takes_of rfl rfl rfl rfl) (pmk_E2 (k := 0) (okx_BadLine T) (hr.mono (by decide)) (pa_cons (peFld K (pv 0)) (pa_cons (pv 1) pa_nil))))) pss_nil) (pss_one (ps_ret (pv 2))))), ?_⟩
  show (_ : TS) { nx := fun _ H' => Q .non H', rt := Q } [some x, some y, none] H
  obtain ⟨A0, p, t, n, ds, k, rfl, rfl, R, q⟩ := h
  obtain ⟨sa, tx, dx, ob⟩ := id R
  walk_at "go"
  refine i_self ob (LF_no t n (by decide +kernel) (by decide +kernel)) ?_
  walk_at "go"
  refine ⟨A0, p, t, n, ds, k, rfl, rfl, R, ?_⟩
  cases e : wd ds n k with
  | inr e1 => rw [e] at q; exact q
  | inl w =>
  rw [e] at q
  have wl := wd_len tx e
  have q : if isGl (dS w) = true then ∀ H', Same H H' → Q (S w) H' else Bl E H C_BadLine n k := q
  intro H1 s1
  walk_at "go"
  refine ⟨dS w, .str _ wl, fun H2 s2 => ?_⟩
  refine ⟨_, rfl, ?_⟩
  have s12 := s1.trans s2
  cases es : isGl (dS w) with
  | true =>
    rw [es, if_pos rfl] at q
    walk_at "go"
    exact q _ s12
  | false =>
    rw [es, if_neg (by decide)] at q
    walk_at "go"
    refine i_fld (s12 _ _ ob) T.cl_Lines T.na_Lines_now (LF_now t n) ?_
    walk_at "go"
    intro dd nd
    exact Bl.at (q.mono s12) nd
def p_round_at (C CB : Addr) : P2 := fun x y H Q E => ∃ A p t n ds, ∃ k : Nat, x = .ref p ∧ y = .int (k : Int) ∧ Rdr C A H p t n ds ∧ (∀ w, wd ds n k = .inl w → w.length ≤ 1700) ∧
  (match wd ds n k with | .inl w => (match rdP w with | some r => ∀ H', Same H H' → Q (S r) H' | none => Bl E H CB n k) | .inr e => Bl E H CB n e)
theorem ok_Lines_round_at (T : Txt K mg w C_GlimError C_BadRound C_BadText C_BadLine C_BadWay C_TooLong C_Lines C_NUMBERED) : MOK P w K mg base (L2.CX P w) 26 C_Lines "round_at" ["self", "number"] [] (sp2  (p_round_at C_Lines C_BadLine)) := by
  refine MOK.mkX (k := 25) T.m_Lines_round_at sc_Lines_round_at len2 fun f cdv A outer s H vs Q E hr h => ?_
  obtain ⟨x, y, rfl, h⟩ := h
  refine ⟨_, (pss_cons (ps_set (i := 2) sc_Lines_round_at.nd rfl (Or.inl rfl) (pe_m (pv 0) T.cl_Lines (ok_Lines_word_at (K := K) T) (hr.mono (by decide)) (passes_call (takes_of rfl rfl rfl rfl) (fun _ _ _ _ h => h)) (pa_cons (pv 1) pa_nil))) (pss_one (Fg.ps_try_tupAsX (i := 3) rfl rfl rfl sc_Lines_round_at.nd rfl rfl rfl rfl T.c_BadText rfl rfl T.c_TooLong (fun v => L2H.passesAt_of rfl v) (takes_of rfl rfl rfl rfl) (fun W pn xe tk _ => (pss_one (ps_ret (pe_fS (ok_read_round (K := K) T) (hr.mono (by decide)) (fun σ => L2N.passAt tk σ) (pa_cons (pv 2) pa_nil))))) (fun a oe cls d pn xe zn fl tk hot => pss_one (Fg.ps_raiseHK (i := 3) K rfl List.mem_cons_self zn fl tk (Fg.pmk_E2H (k := 0) (okxH_BadLine T) (L2H.roomH_mark (hr.mono (by decide)) _) hot (pa_cons (peFld K (pv 0)) (pa_cons (pv 1) pa_nil))) rfl rfl rfl))))), ?_⟩
  show (_ : TS) { nx := fun _ H' => Q .non H', rt := Q } [some x, some y, none, none] H
  obtain ⟨A0, p, t, n, ds, k, rfl, rfl, R, hl, q⟩ := h
  obtain ⟨sa, tx, dx, ob⟩ := id R
  walk_at "go"
  refine i_self ob (LF_no t n (by decide +kernel) (by decide +kernel)) ?_
  walk_at "go"
  refine ⟨A0, p, t, n, ds, k, rfl, rfl, R, ?_⟩
  cases e : wd ds n k with
  | inr e1 => rw [e] at q; exact q
  | inl w =>
  rw [e] at q
  have wl := hl w e
  intro H1 s1
  have bad : rdP w = none → ∀ (C : Addr) (f : Str) (v : V) {D : Ends}, (C = C_BadText ∨ C = C_TooLong) → Rz (fun cls d H' => wTA K (.ref C_BadText) (.ref C_TooLong) 3
      (fun a cls d D τ G => RsK K cls ∧ τ[3]? = some (some (V.ref a)) ∧ tMkE2 C_BadLine "line" "word" (tCons (tFld K (tVar 0) "now") (tCons (tVar 1) tNil)) τ G fun cls d G' => E cls d G')
      (fun cls d τ G => E cls d G) D cls d [some (.ref p), some (.int (k : Int)), some (S w), none] H') H1 C f v := fun hn C f v D hC => by
    intro d H' nd s' e'
    have q : Bl E H C_BadLine n k := by
      have q2 : (match rdP w with | some r => ∀ H', Same H H' → Q (S r) H' | none => Bl E H C_BadLine n k) := q
      rw [hn] at q2
      exact q2
    have s2 := s1.trans s'
    refine ⟨true, ?_, fun _ a na => ?_, fun z => by cases z⟩
    · rcases hC with rfl | rfl
      · simp [PySem.W.exmAny, T.m_BadText_BadText, T.m_BadText_TooLong]
      · simp [PySem.W.exmAny, T.m_TooLong_BadText, T.m_TooLong_TooLong]
    · refine ⟨?_, rfl, ?_⟩
      · rcases hC with rfl | rfl
        · exact ⟨T.o_BadText.exC, T.o_BadText.tyC⟩
        · exact ⟨T.o_TooLong.exC, T.o_TooLong.tyC⟩
      · refine i_mkE2 ?_
        show (_ : TA) [some (.ref p), some (.int (k : Int)), some (S w), some (.ref a)] _ _
        walk_at "go"
        refine i_fld (s2 _ _ ob) T.cl_Lines T.na_Lines_now (LF_now t n) ?_
        walk_at "go"
        intro dd nd
        exact Bl.at (q.mono s2) nd
  walk_at "go"
  refine .inl ⟨w, rfl, wl, ?_⟩
  unfold OutR
  unfold rdP at bad
  have q : (match (match rd w 6 0 with | .error _ => none | .ok (s, e) => if e < w.length then none else if 24 < s.1 then none else some s.2 : Option (List Nat)) with | some r => ∀ H', Same H H' → Q (S r) H' | none => Bl E H C_BadLine n k) := q
  cases hr : rd w 6 0 with
  | error j =>
    rw [hr] at bad
    exact bad rfl C_BadText _ _ (.inl rfl)
  | ok se =>
    obtain ⟨s, e2⟩ := se
    rw [hr] at bad q
    dsimp only at bad q ⊢
    by_cases h1 : e2 < w.length
    · rw [if_pos h1] at bad ⊢
      exact bad rfl C_BadText _ _ (.inl rfl)
    rw [if_neg h1] at bad q ⊢
    by_cases h2 : 24 < s.1
    · rw [if_pos h2] at bad ⊢
      exact bad rfl C_TooLong _ _ (.inr rfl)
    rw [if_neg h2] at q ⊢
    intro H2 s2
    exact q _ (s1.trans s2)
end
inductive Fm | gl | rd | nu
def forms (w : List Nat) : Option (List Fm) := if w = cGlass then some [.gl] else if w = cStand then some [.rd] else if w = cLame ∨ w = cRest ∨ w = cSlip then some [.nu] else none
def fmD : Fm → List Nat → Option PyData
  | .gl, w => if isGl (dS w) = true then some (dS w) else none
  | .rd, w => (rdP w).map dS
  | .nu, w => (numIn 1 9 w).map PyData.int
def ShortL (d : PyData) : Prop := ∀ z, d = .str z → z.length ≤ 1700
theorem rdP_len {w r : List Nat} (h : rdP w = some r) : r.length ≤ 24 := by
  unfold rdP at h
  cases hr : rd w 6 0 with
  | error j => rw [hr] at h; cases h
  | ok se =>
    obtain ⟨⟨n, l⟩, e⟩ := se
    rw [hr] at h
    dsimp only at h
    split at h
    · cases h
    split at h
    · cases h
    cases h
    obtain ⟨g1, g2, g3, g4⟩ := rd_gd w 6 0 (n, r) e (Nat.zero_le _) hr
    have := g4.2 (by show n ≤ 24; omega)
    show r.length ≤ 24
    have h2 : r.length = n := this
    omega
/-- a part of a line that is read -/
def PartF (e : PyData) : Prop := (∃ l, e = dS l ∧ l.length ≤ 30) ∨ ∃ i : Int, e = .int i ∧ 0 ≤ i ∧ i ≤ 100
theorem PartF.dep {e : PyData} (h : PartF e) : e.depth = 0 := by
  rcases h with ⟨l, rfl, _⟩ | ⟨i, rfl, _⟩ <;> rfl
theorem PartF.deep {e : PyData} (h : PartF e) : deepD e = e := by
  rcases h with ⟨l, rfl, _⟩ | ⟨i, rfl, _, _⟩ <;> rfl
theorem fmD_part {f : Fm} {w : List Nat} {d : PyData} (h : fmD f w = some d) : PartF d := by
  cases f with
  | gl =>
    have h' : (if isGl (dS w) = true then some (dS w) else none) = some d := h
    split at h'
    · rename_i z
      cases h'
      obtain ⟨l, e, h4, _⟩ := gl_is z
      exact .inl ⟨l, e, by omega⟩
    · cases h'
  | rd =>
    obtain ⟨r, hr, rfl⟩ := Option.map_eq_some_iff.mp (show (rdP w).map dS = some d from h)
    have := rdP_len hr
    exact .inl ⟨r, rfl, by omega⟩
  | nu =>
    obtain ⟨v, hv, rfl⟩ := Option.map_eq_some_iff.mp (show (numIn 1 9 w).map PyData.int = some d from h)
    unfold numIn at hv
    split at hv
    · rename_i z
      cases hv
      exact .inr ⟨_, rfl, by omega, by omega⟩
    · cases hv
theorem forms_some {w : List Nat} {fs : List Fm} (h : forms w = some fs) : PartF (dS w) ∧ fs.length = 1 := by
  unfold forms at h
  by_cases h1 : w = cGlass
  · rw [if_pos h1] at h; cases h; exact ⟨.inl ⟨w, rfl, by rw [h1]; decide⟩, rfl⟩
  rw [if_neg h1] at h
  by_cases h2 : w = cStand
  · rw [if_pos h2] at h; cases h; exact ⟨.inl ⟨w, rfl, by rw [h2]; decide⟩, rfl⟩
  rw [if_neg h2] at h
  by_cases h3 : w = cLame ∨ w = cRest ∨ w = cSlip
  · rw [if_pos h3] at h; cases h
    exact ⟨.inl ⟨w, rfl, by rcases h3 with rfl | rfl | rfl <;> decide⟩, rfl⟩
  rw [if_neg h3] at h
  cases h
theorem ln_part {d : PyData} {es : List PyData} (h : readLn fmD forms d = .inl es) : (∀ e ∈ es, PartF e) ∧ es.length = 2 := by
  cases d with
  | str z =>
    rw [readLn_str] at h
    cases hf : forms ((wrds z).getD 0 []) with
    | none => rw [hf] at h; cases h
    | some fs =>
      rw [hf] at h
      have h : rdk fmD (wrds z) 1 [dS ((wrds z).getD 0 [])] fs = .inl es := h
      obtain ⟨p0, l0⟩ := forms_some hf
      obtain ⟨a, b, c⟩ := rdk_all (P := PartF) (fun f w d e => fmD_part e) h (fun x hx => by rw [List.mem_singleton.mp hx]; exact p0)
      have b : es.length = 1 + fs.length := b
      exact ⟨a, by omega⟩
  | _ => cases h
theorem deps_of {ds : List PyData} {n : Nat} (h : ∀ d ∈ ds, d.depth ≤ n) : PyData.depthAll ds ≤ n := by
  induction ds with
  | nil => exact Nat.zero_le _
  | cons d r ih =>
    have h1 := h d (List.mem_cons_self ..)
    have h2 := ih fun e he => h e (List.mem_cons_of_mem _ he)
    show max d.depth (PyData.depthAll r) ≤ n
    omega
/-- a line that is read, as a tuple -/
def LineF (d : PyData) : Prop := ∃ es, d = .tuple es ∧ (∀ e ∈ es, PartF e) ∧ es.length = 2
/-- what lines tell -/
inductive Rs
  | line (n k : Nat)
  | way (k : Int)
  | good (ws : List PyData)
def resW (ws : List PyData) : Rs := match badY (.tuple ws) with
  | some k => .way k
  | none => .good ws
def resA (ds : List PyData) : Rs := match readAll (readLn fmD forms) ds 0 with
  | .inr (n, k) => .line n k
  | .inl ws => resW ws
def resD (d : PyData) : Rs := match seqOf d with
  | none => .line 0 0
  | some ds => resA ds
section
variable {P : Program} {w : World} {K : PySem.W.Frag} {mg : Str → Option Value} {base : Heap} {C_GlimError C_BadRound C_BadText C_BadLine C_BadWay C_TooLong C_Lines C_NUMBERED : Addr}
def p_way_at (C CB : Addr) : P1 := fun x H Q E => ∃ A p t n ds dx d, x = .ref p ∧ Same A H ∧ A p = none ∧ At A (.ref t) (.tuple ds) ∧ H p = some (.ins C dx (LF t n)) ∧ ds[n]? = some d ∧ ShortL d ∧
  (match readLn fmD forms d with
    | .inr e => Bl E H CB n e
    | .inl es => ∀ H1 H' a xs, Same H H1 → But p H1 H' → H' p = some (.ins C dx (LF t (n + 1))) → H a = none → a ≠ p → H' a = some (.tup xs) → AtAll A xs es → Q (.ref a) H')
theorem ok_way_at (T : Txt K mg w C_GlimError C_BadRound C_BadText C_BadLine C_BadWay C_TooLong C_Lines C_NUMBERED) : OK P w K mg base (L2.CX P w) 27 "way_at" ["reader"] (sp1  (p_way_at C_Lines C_BadLine)) := by
  refine OK.mkX (k := 26) T.d_way_at sc_way_at len1 fun f cdv A outer s H vs Q E hr h => ?_
  obtain ⟨x, rfl, h⟩ := h
  refine ⟨_, (pss_cons (ps_set (i := 1) sc_way_at.nd rfl (Or.inl rfl) (pe_m0 (pv 0) T.cl_Lines (ok_Lines_first_word (K := K) T) (hr.mono (by decide)) (passes_call (takes_of rfl rfl rfl rfl) (fun _ _ _ _ h => h)))) (pss_cons (ps_set (i := 2) sc_way_at.nd rfl (Or.inl rfl) pe_non) (Evl.pss_cut (ps_if (pt_cmpR (opEq K hr.units) (pv 1) (pe_S [103, 108, 97, 115, 115]) (nomark _)) (pss_one (ps_set (i := 2) sc_way_at.nd rfl (Or.inl rfl) (pe_m (pv 0) T.cl_Lines (ok_Lines_glass_at (K := K) T) (hr.mono (by decide)) (passes_call (takes_of rfl rfl rfl rfl) (fun _ _ _ _ h => h)) (pa_cons pe_int pa_nil)))) (pss_one (ps_if (pt_cmpR (opEq K hr.units) (pv 1) (pe_S [115, 116, 97, 110, 100, 105, 110]) (nomark _)) (pss_one (ps_set (i := 2) sc_way_at.nd rfl (Or.inl rfl) (pe_m (pv 0) T.cl_Lines (ok_Lines_round_at (K := K) T) (hr.mono (by decide)) (passes_call (takes_of rfl rfl rfl rfl) (fun _ _ _ _ h => h)) (pa_cons pe_int pa_nil)))) (pss_one (ps_if (pt_cmpR (Fg.opInW K w) (pv 1) (pe_gR _ T.c_NUMBERED) (by with_unfolding_all rfl)) (pss_one (ps_set (i := 2) sc_way_at.nd rfl (Or.inl rfl) (pe_m (pv 0) T.cl_Lines (ok_Lines_number_at (K := K) T) (hr.mono (by decide)) (passes_call (takes_of rfl rfl rfl rfl) (fun _ _ _ _ h => h)) (pa_cons pe_int (pa_cons pe_int (pa_cons pe_int pa_nil)))))) (pss_one (ps_expr (pe_m (pv 0) T.cl_Lines (ok_Lines_fail_at (K := K) T) (hr.mono (by decide)) (passes_call (takes_of rfl rfl rfl rfl) (fun _ _ _ _ h => h)) (pa_cons pe_int pa_nil))))))))) (pss_cons (ps_expr (pe_m (pv 0) T.cl_Lines (ok_Lines_close_at (K := K) T) (hr.mono (by decide)) (passes_call (takes_of rfl rfl rfl rfl) (fun _ _ _ _ h => h)) (pa_cons pe_int pa_nil))) (pss_one (ps_ret (pe_tup (pa_cons (pv 1) (pa_cons (pv 2) pa_nil))))))))), ?_⟩
  show (_ : TS) { nx := fun _ H' => Q .non H', rt := Q } [some x, none, none] H
  obtain ⟨A0, p, t, n, ds, dx, d, rfl, sa, np, tx, ob, hd, sh, q⟩ := h
  obtain ⟨a0, a1, a2, wdk0, q0, q1, q2⟩ := T.q_NUMBERED
  have hn : n < ds.length := (List.getElem?_eq_some_iff.mp hd).1
  have R : ∀ {H1 : Hp}, Same H H1 → Rdr C_Lines A0 H1 p t n ds := fun s => ⟨sa.trans s, tx, dx, s _ _ ob⟩
  have me : ∀ {H1 : Hp} {m : Str} {P : Prop}, Same H H1 → ¬ m = "now" → ¬ m = "texts" → P → ∃ a' dx fs, V.ref p = .ref a' ∧ H1 a' = some (.ins C_Lines dx fs) ∧ fs.lookup m = none ∧ P := fun s h1 h2 k => i_self (s _ _ ob) (LF_no t n h1 h2) k
  walk_at "go"
  refine me (Same.refl H) (by decide +kernel) (by decide +kernel) ?_
  walk_at "go"
  refine ⟨A0, p, t, n, ds, rfl, R (Same.refl H), hn, ?_⟩
  rw [hd]
  cases d with
  | str z =>
    intro H1 s1
    have zl := sh z rfl
    have wp := words_pos z
    have wdk : ∀ k, wd ds n k = if k < (wrds z).length then .inl ((wrds z).getD k []) else .inr (wrds z).length := fun k => by
      unfold wd
      rw [hd]
    have wkl : ∀ k, k < (wrds z).length → ((wrds z).getD k []).length ≤ 1700 := fun k hk => by
      rw [List.getD_eq_getElem?_getD, List.getElem?_eq_getElem hk]
      exact Nat.le_trans (words_len (x := z) (List.getElem_mem hk)) zl
    have bad : ∀ (e : Nat) {H2 : Hp}, Same H H2 → readLn fmD forms (.str z) = .inr e → Bl E H2 C_BadLine n e := fun e H2 s2 z1 => by
      rw [z1] at q
      exact Bl.mono q s2
    have rl := readLn_str fmD forms z
    generalize hws : wrds z = ws at *
    generalize readLn fmD forms (.str z) = rd at *
    have w0l : (ws.getD 0 []).length ≤ 1700 := wkl 0 (by omega)
    generalize hw : ws.getD 0 [] = w at *
    walk_at "go"
    refine i_cut (fun σ H' => ∃ v es, σ = [some (.ref p), some (S w), some v] ∧ Same H H' ∧ AtAll A0 [S w, v] es ∧ rd = rdk fmD ws 2 es []) ?_ ?_
    · have fin : ∀ {G : Hp} {v : V} {e : PyData} {f : Fm}, Same H G → At A0 v e → rd = rdk fmD ws 1 [dS w] [f] → 1 < ws.length → fmD f (ws.getD 1 []) = some e → ∃ v' es, ([some (.ref p), some (S w), some v] : L2.St) = [some (.ref p), some (S w), some v'] ∧ Same H G ∧ AtAll A0 [S w, v'] es ∧ rd = rdk fmD ws 2 es [] :=
        fun s av r hk hf => ⟨_, _, rfl, s, .cons (.str _ (Nat.le_trans w0l (by decide))) (.one av), by rw [r, rdk_ok hk hf]; rfl⟩
      walk_at "go"
      refine i_dec (fun e1 => ?_) (fun e1 => ?_)
      · have hf : forms w = some [.gl] := by unfold forms; rw [if_pos e1]
        rw [hf] at rl
        walk_at "go"
        refine me s1 (by decide +kernel) (by decide +kernel) ?_
        walk_at "go"
        refine ⟨A0, p, t, n, ds, 1, rfl, rfl, R s1, ?_⟩
        rw [wdk]
        by_cases hk : 1 < ws.length
        · rw [if_pos hk]
          show if isGl (dS (ws.getD 1 [])) = true then _ else _
          by_cases hg : isGl (dS (ws.getD 1 [])) = true
          · rw [if_pos hg]
            intro H2 s2
            have hf2 : fmD .gl (ws.getD 1 []) = some (dS (ws.getD 1 [])) := if_pos hg
            walk_at "go"
            exact fin (s1.trans s2) (.str _ (Nat.le_trans (wkl 1 hk) (by decide))) rl hk hf2
          · rw [if_neg hg]
            exact bad 1 s1 (by rw [rl]; exact rdk_bad hk (if_neg hg))
        · rw [if_neg hk]
          exact bad _ s1 (by rw [rl]; exact rdk_short hk)
      walk_at "go"
      refine i_dec (fun e2 => ?_) (fun e2 => ?_)
      · have hf : forms w = some [.rd] := by unfold forms; rw [if_neg e1, if_pos e2]
        rw [hf] at rl
        walk_at "go"
        refine me s1 (by decide +kernel) (by decide +kernel) ?_
        walk_at "go"
        refine ⟨A0, p, t, n, ds, 1, rfl, rfl, R s1, fun w1 hw1 => ?_, ?_⟩
        · rw [wdk] at hw1
          by_cases hk : 1 < ws.length
          · rw [if_pos hk] at hw1
            cases hw1
            exact wkl 1 hk
          · rw [if_neg hk] at hw1; cases hw1
        rw [wdk]
        by_cases hk : 1 < ws.length
        · rw [if_pos hk]
          show match rdP (ws.getD 1 []) with | some r => _ | none => _
          cases hg : rdP (ws.getD 1 []) with
          | some r =>
            intro H2 s2
            have hf2 : fmD .rd (ws.getD 1 []) = some (dS r) := by show (rdP _).map dS = _; rw [hg]; rfl
            walk_at "go"
            exact fin (s1.trans s2) (.str _ (Nat.le_trans (rdP_len hg) (by decide))) rl hk hf2
          | none =>
            exact bad 1 s1 (by rw [rl]; exact rdk_bad hk (by show (rdP _).map dS = _; rw [hg]; rfl))
        · rw [if_neg hk]
          exact bad _ s1 (by rw [rl]; exact rdk_short hk)
      have lk := look_num (a0 := .ref a0) (a1 := .ref a1) (a2 := .ref a2) w
      walk_at "go"
      refine i_inW wdk0 ?_
      by_cases e3 : w = cLame ∨ w = cRest ∨ w = cSlip
      · have hs : (([(cLame, V.ref a0), (cRest, .ref a1), (cSlip, .ref a2)] : List (List Nat × V)).lookup w).isSome = true := by
          rw [lk]
          rcases e3 with rfl | rfl | rfl <;> rfl
        rw [hs]
        have hf : forms w = some [.nu] := by unfold forms; rw [if_neg e1, if_neg e2, if_pos e3]
        rw [hf] at rl
        walk_at "go"
        refine me s1 (by decide +kernel) (by decide +kernel) ?_
        walk_at "go"
        refine ⟨A0, p, t, n, ds, 1, 1, 9, rfl, rfl, rfl, rfl, R s1, ?_⟩
        rw [wdk]
        by_cases hk : 1 < ws.length
        · rw [if_pos hk]
          show match numIn 1 9 (ws.getD 1 []) with | some v => _ | none => _
          cases hg : numIn 1 9 (ws.getD 1 []) with
          | some v =>
            intro H2 s2
            have hf2 : fmD .nu (ws.getD 1 []) = some (.int v) := by show (numIn 1 9 _).map PyData.int = _; rw [hg]; rfl
            walk_at "go"
            exact fin (s1.trans s2) (.int _) rl hk hf2
          | none =>
            exact bad 1 s1 (by rw [rl]; exact rdk_bad hk (by show (numIn 1 9 _).map PyData.int = _; rw [hg]; rfl))
        · rw [if_neg hk]
          exact bad _ s1 (by rw [rl]; exact rdk_short hk)
      · have hs : (([(cLame, V.ref a0), (cRest, .ref a1), (cSlip, .ref a2)] : List (List Nat × V)).lookup w).isSome = false := by
          rw [lk, if_neg (fun z => e3 (.inl z)), if_neg (fun z => e3 (.inr (.inl z))), if_neg (fun z => e3 (.inr (.inr z)))]
          rfl
        rw [hs]
        have hf : forms w = none := by unfold forms; rw [if_neg e1, if_neg e2, if_neg e3]
        rw [hf] at rl
        walk_at "go"
        refine me s1 (by decide +kernel) (by decide +kernel) ?_
        walk_at "go"
        exact ⟨A0, p, t, n, ds, 0, rfl, rfl, R s1, bad 0 s1 rl⟩
    · rintro σ H' ⟨v, es, rfl, s3, al, e⟩
      rw [rdk_end] at e
      walk_at "go"
      refine me s3 (by decide +kernel) (by decide +kernel) ?_
      walk_at "go"
      refine ⟨A0, p, t, n, ds, dx, z, 2, rfl, rfl, sa.trans s3, tx, s3 _ _ ob, hd, ?_⟩
      rw [hws]
      by_cases hk : 2 < ws.length
      · rw [if_pos hk] at e ⊢
        exact bad _ s3 e
      · rw [if_neg hk] at e ⊢
        intro H4 b4 o4
        rw [e] at q
        walk_at "go"
        refine i_new (by show 2 ≤ 100000; omega) fun a na => ?_
        have nap : a ≠ p := fun z => by rw [z, o4] at na; cases na
        refine q H' _ a _ s3 (fun b o hb eb => ?_) ?_ ?_ nap upd_same al
        · rw [upd_ne (fun z => by subst z; rw [b4 _ _ hb eb] at na; cases na)]
          exact b4 _ _ hb eb
        · rw [upd_ne nap.symm]; exact o4
        · cases ea : H a with
          | none => rfl
          | some o =>
            have := b4 _ _ nap (s3 _ _ ea)
            rw [na] at this
            cases this
  | _ => exact q
def wish (E : XK) (A H : Hp) (CB CW : Addr) (Q : VK) : Rs → Prop
  | .line n k => Bl E H CB n k
  | .way k => Rz E H CW "number" (.int k)
  | .good ws => ∀ A' H' v, Ext A H A' H' → At A' v (.tuple ws) → Q v H'
def p_read (CB CW : Addr) : P1 := fun x H Q E => ∃ A d, Same A H ∧ At A x d ∧ (∀ ds, seqOf d = some ds → ∀ e ∈ ds, ShortL e) ∧ wish E A H CB CW Q (resD d)
theorem ok_read_ways (T : Txt K mg w C_GlimError C_BadRound C_BadText C_BadLine C_BadWay C_TooLong C_Lines C_NUMBERED) : OK P w K mg base (L2.CX P w) 28 "read_ways" ["lines"] (sp1  (p_read C_BadLine C_BadWay)) := by
  refine OK.mkX (k := 27) T.d_read_ways sc_read_ways len1 fun f cdv A outer s H vs Q E hr h => ?_
  obtain ⟨x, rfl, h⟩ := h
  refine ⟨_, (pss_cons (ps_set (i := 1) sc_read_ways.nd rfl (Or.inl rfl) (pe_mkd (ok_Lines___init__ (K := K) T) (hr.mono (by decide)) (passes_call (takes_of rfl rfl rfl rfl) (fun _ _ _ _ h => h)) (pa_cons (pv 0) pa_nil))) (pss_cons (ps_set (i := 2) sc_read_ways.nd rfl (Or.inl rfl) (pe_lst pa_nil)) (pss_cons (ps_while (passes_of rfl) (pt_not (pt_val (pe_m0 (pv 1) T.cl_Lines (ok_Lines_is_over (K := K) T) (hr.mono (by decide)) pass0))) (pss_one (ps_expr (peApp K (pv 2) (pa_cons (pe_f (ok_way_at (K := K) T) (hr.mono (by decide)) (passes_call (takes_of rfl rfl rfl rfl) (fun _ _ _ _ h => h)) (pa_cons (pv 1) pa_nil)) pa_nil))))) (pss_cons (ps_set (i := 3) sc_read_ways.nd rfl (Or.inl rfl) (pe_callTy (cTup K) (by rfl) T.b_tuple (by decide +kernel) (pa_cons (pv 2) pa_nil))) (pss_cons (ps_expr (pe_f (ok_check_ways (K := K) T) (hr.mono (by decide)) (passes_call (takes_of rfl rfl rfl rfl) (fun _ _ _ _ h => h)) (pa_cons (pv 3) pa_nil))) (pss_one (ps_ret (pv 3)))))))), ?_⟩
  show (_ : TS) { nx := fun _ H' => Q .non H', rt := Q } [some x, none, none, none] H
  obtain ⟨A0, d, sa, hx, shD, q⟩ := h
  walk_at "go"
  intro p dx np ndx nex
  have sp : Same H (upd (upd H dx (.own p)) p (.ins C_Lines dx [])) := (same_upd ndx).trans (same_upd (by rw [upd_ne nex.symm]; exact np))
  have np0 : H p = none := np
  have a0p : A0 p = none := sa.free np
  walk_at "go"
  refine ⟨A0, p, dx, d, rfl, rfl, sa.trans sp, a0p, upd_same, hx, ?_⟩
  unfold resD at q
  cases e0 : seqOf d with
  | none =>
    rw [e0] at q
    exact Bl.mono q sp
  | some ds =>
  rw [e0] at q
  have q : wish E A0 H C_BadLine C_BadWay Q (resA ds) := q
  unfold resA at q
  intro A1 H1 t sA1 sH1 but1 nw1 ob1 tx1
  refine ⟨rfl, ?_⟩
  have a1p : A1 p = none := by
    by_cases h : A1 p = none
    · exact h
    · have := nw1 p a0p h
      rw [upd_same] at this
      cases this
  have x1 : Ext A0 H A1 H1 := by
    refine ⟨sA1, sH1, fun b o e => ?_, fun b h1 h2 => ?_⟩
    · exact but1 b o (ne_of_none e np) (sp b o e)
    · have h3 := nw1 b h1 h2
      have hbp : b ≠ p := fun z => by rw [z, upd_same] at h3; cases h3
      rw [upd_ne hbp] at h3
      have hbd : b ≠ dx := fun z => by rw [z, upd_same] at h3; cases h3
      rw [upd_ne hbd] at h3
      exact h3
  have dl : ds.length ≤ 10000 := by
    obtain ⟨_, _, _, _, l, al⟩ := tx1.tupled
    rw [← al.len]; exact l
  walk_at "go"
  refine i_new (by show 0 ≤ 100000; omega) fun wl nwl => ?_
  have hwl : H wl = none := x1.gg.free nwl
  have a1wl : A1 wl = none := x1.ag.free nwl
  have pwl : p ≠ wl := fun z => by rw [← z, ob1] at nwl; cases nwl
  refine i_while (fun m σ H' => ∃ n xs ws A', m = ds.length - n ∧ n ≤ ds.length ∧ σ = [some x, some (.ref p), some (.ref wl), none] ∧ Ext A0 H A' H' ∧ Same A1 A' ∧ A' p = none ∧ A' wl = none ∧
    H' p = some (.ins C_Lines dx (LF t n)) ∧ H' wl = some (.lst xs) ∧ AtAll A' xs ws ∧ ws.length = n ∧ (∀ w ∈ ws, LineF w) ∧ readAll (readLn fmD forms) ds 0 = comb ws (readAll (readLn fmD forms) (ds.drop n) n)) ds.length ⟨0, [], [], A1, rfl, Nat.zero_le _, rfl, x1.hid nwl, Same.refl _, a1p, a1wl, by rw [upd_ne pwl]; exact ob1, upd_same, .nil, rfl, fun w h => absurd h (by simp), ?_⟩ ?_
  · show readAll (readLn fmD forms) ds 0 = comb [] (readAll (readLn fmD forms) ds 0)
    cases readAll (readLn fmD forms) ds 0 <;> rfl
  rintro m σ H2 ⟨n, xs, ws, A2, rfl, hn, rfl, x2, sA2, a2p, a2wl, ob2, hwl2, al2, wl2, dep2, ra⟩
  have tx2 := tx1.same sA2
  have R2 : Rdr C_Lines A2 H2 p t n ds := ⟨x2.ag, tx2, dx, ob2⟩
  walk_at "go"
  refine i_self ob2 (LF_no t n (by decide +kernel) (by decide +kernel)) ?_
  walk_at "go"
  refine ⟨A2, p, t, n, ds, rfl, R2, ?_⟩
  walk_at "go"
  refine i_decN (fun e1 => ?_) (fun e1 => ?_)
  · have hlt : n < ds.length := by omega
    have hd : ds[n]? = some ds[n] := List.getElem?_eq_getElem hlt
    generalize ds[n] = c at hd
    refine i_turn ?_
    walk_at "go"
    refine i_appAt hwl2 ?_
    walk_at "go"
    refine ⟨A2, p, t, n, ds, dx, c, rfl, x2.ag, a2p, tx2, ob2, hd, shD ds e0 c (List.mem_of_getElem? hd), ?_⟩
    cases er : readLn fmD forms c with
    | inr e =>
      rw [readAll_bad ra hd er] at q
      exact Bl.mono q x2.gg
    | inl es =>
      intro H3 H4 a ys s3 b4 ob4 na nap ha al4
      have hwa : wl ≠ a := fun z => by rw [z, na] at hwl2; cases hwl2
      have wl4 : H4 wl = some (.lst xs) := b4 _ _ pwl.symm (s3 _ _ hwl2)
      have a2a : A2 a = none := x2.ag.free na
      obtain ⟨lp, l4⟩ := ln_part er
      have ylen : ys.length ≤ 10000 := by
        rw [al4.len]
        omega
      walk_at "go"
      refine i_appEnd wl4 (by rw [al2.len]; omega) ?_
      refine ⟨ds.length - (n + 1), by omega, n + 1, xs ++ [.ref a], ws ++ [.tuple es], upd A2 a (.tup ys), rfl, by omega, rfl, ?_, sA2.trans (same_upd a2a), ?_, ?_, ?_, upd_same, ?_, ?_, ?_, readAll_turn ra hd er⟩
      · refine ⟨x2.aa.trans (same_upd a2a), fun b o eb => ?_, fun b o eb => ?_, fun b h1 h2 => ?_⟩
        · by_cases hb : b = a
          · rw [hb, upd_same] at eb
            rw [hb, upd_ne hwa.symm, ha]; exact eb
          · rw [upd_ne hb] at eb
            have n1 : b ≠ wl := ne_of_none eb a2wl
            have n2 : b ≠ p := ne_of_none eb a2p
            rw [upd_ne n1]
            exact b4 _ _ n2 (s3 _ _ (x2.ag _ _ eb))
        · have n1 : b ≠ wl := ne_of_none eb hwl
          have n2 : b ≠ p := ne_of_none eb np0
          rw [upd_ne n1]
          exact b4 _ _ n2 (s3 _ _ (x2.gg _ _ eb))
        · by_cases hb : b = a
          · rw [hb]; exact x2.gg.free na
          · rw [upd_ne hb] at h2
            exact x2.nw b h1 h2
      · rw [upd_ne nap.symm]; exact a2p
      · rw [upd_ne hwa]; exact a2wl
      · rw [upd_ne pwl]; exact ob4
      · exact (al2.same (same_upd a2a)).app (.one (.tup upd_same ylen (al4.same (same_upd a2a))))
      · rw [List.length_append, wl2]; rfl
      · intro w hw
        rcases List.mem_append.mp hw with h | h
        · exact dep2 w h
        · rw [List.mem_singleton.mp h]; exact ⟨es, rfl, lp, l4⟩
  · have en : n = ds.length := by omega
    have e2 : readAll (readLn fmD forms) ds 0 = .inl ws := by
      rw [ra, en, List.drop_length]
      show Sum.inl (ws ++ []) = _
      rw [List.append_nil]
    rw [e2] at q
    have q : wish E A0 H C_BadLine C_BadWay Q (resW ws) := q
    unfold resW at q
    have x3 := x2.show hwl sa hwl2
    have al3 := al2.same (same_upd (o := .lst xs) a2wl)
    have e3 : (upd A2 wl (.lst xs)) wl = some (.lst xs) := upd_same
    generalize upd A2 wl (.lst xs) = A3 at *
    walk_at "go"
    refine i_tuple_lst (.inl (.inl hwl2)) fun tl ntl => ?_
    have nat3 : A3 tl = none := x3.ag.free ntl
    have x4 := x3.new (o := .tup xs) ntl
    have at4 : At (upd A3 tl (.tup xs)) (.ref tl) (.tuple ws) := At.mkTup upd_same (al3.same (same_upd nat3)) (by omega)
    walk_at "go"
    refine ⟨_, at4.same x4.ag, ?_⟩
    cases eb : badY (.tuple ws) with
    | some k =>
      rw [eb] at q
      exact Rz.mono q x4.gg
    | none =>
      rw [eb] at q
      intro H5 s5
      walk_at "go"
      exact q _ _ _ ⟨x4.aa, x4.ag.trans s5, x4.gg.trans s5, x4.nw⟩ at4
end
theorem fold_0 : fC [119] = [119] := fold_tab (tb := [
  ([119], some [119], [119], [119])]) (by decide +kernel)
theorem fold_1 : fC [119, 119] = [50, 119] := fold_tab (tb := [
  ([119], some [119], [119], [119]), ([119, 119], some [50, 119], [50, 119], [50, 119])]) (by decide +kernel)
theorem fold_2 : fC [46, 46] = [46, 46] := fold_tab (tb := [
  ([46], some [46], [46], [46]), ([46, 46], some [50, 46], [46, 46], [46, 46])]) (by decide +kernel)
theorem fold_3 : fC [119, 46, 46] = [119, 46, 46] := fold_tab (tb := [
  ([46], some [46], [46], [46]), ([119], some [119], [119], [119]), ([46, 46], some [50, 46], [46, 46], [46, 46]), ([119, 46], none, [119, 46], [119, 46]), ([119, 46, 46], none, [119, 46, 46], [119, 46, 46])]) (by decide +kernel)
theorem fold_4 : fC [103, 103, 103] = [51, 103] := fold_tab (tb := [
  ([103], some [103], [103], [103]), ([103, 103], some [50, 103], [50, 103], [50, 103]), ([103, 103, 103], some [51, 103], [51, 103], [51, 103])]) (by decide +kernel)
theorem fold_5 : fC [119, 46, 119, 46] = [119, 46, 119, 46] := fold_tab (tb := [
  ([46], some [46], [46], [46]), ([119], some [119], [119], [119]), ([46, 119], none, [46, 119], [46, 119]), ([119, 46], none, [119, 46], [119, 46]), ([46, 119, 46], none, [46, 119, 46], [46, 119, 46]), ([119, 46, 119], none, [119, 46, 119], [119, 46, 119]), ([119, 46, 119, 46], some [50, 40, 119, 46, 41], [119, 46, 119, 46], [119, 46, 119, 46])]) (by decide +kernel)
theorem fold_6 : fC [119, 46, 119, 46, 119, 46] = [51, 40, 119, 46, 41] := fold_tab (tb := [
  ([46], some [46], [46], [46]), ([119], some [119], [119], [119]), ([46, 119], none, [46, 119], [46, 119]), ([119, 46], none, [119, 46], [119, 46]), ([46, 119, 46], none, [46, 119, 46], [46, 119, 46]), ([119, 46, 119], none, [119, 46, 119], [119, 46, 119]), ([46, 119, 46, 119], some [50, 40, 46, 119, 41], [46, 119, 46, 119], [46, 119, 46, 119]), ([119, 46, 119, 46], some [50, 40, 119, 46, 41], [119, 46, 119, 46], [119, 46, 119, 46]), ([46, 119, 46, 119, 46], none, [46, 119, 46, 119, 46], [46, 119, 46, 119, 46]), ([119, 46, 119, 46, 119], none, [119, 46, 119, 46, 119], [119, 46, 119, 46, 119]), ([119, 46, 119, 46, 119, 46], some [51, 40, 119, 46, 41], [51, 40, 119, 46, 41], [51, 40, 119, 46, 41])]) (by decide +kernel)
theorem fold_7 : fC [119, 46, 46, 46, 46, 46, 46, 46] = [119, 55, 46] := fold_tab (tb := [
  ([46], some [46], [46], [46]), ([119], some [119], [119], [119]), ([46, 46], some [50, 46], [46, 46], [46, 46]), ([119, 46], none, [119, 46], [119, 46]), ([46, 46, 46], some [51, 46], [51, 46], [51, 46]), ([119, 46, 46], none, [119, 46, 46], [119, 46, 46]), ([46, 46, 46, 46], some [52, 46], [52, 46], [52, 46]), ([119, 46, 46, 46], none, [119, 51, 46], [119, 51, 46]), ([46, 46, 46, 46, 46], some [53, 46], [53, 46], [53, 46]), ([119, 46, 46, 46, 46], none, [119, 52, 46], [119, 52, 46]), ([46, 46, 46, 46, 46, 46], some [54, 46], [54, 46], [54, 46]), ([119, 46, 46, 46, 46, 46], none, [119, 53, 46], [119, 53, 46]), ([46, 46, 46, 46, 46, 46, 46], some [55, 46], [55, 46], [55, 46]), ([119, 46, 46, 46, 46, 46, 46], none, [119, 54, 46], [119, 54, 46]), ([119, 46, 46, 46, 46, 46, 46, 46], none, [119, 55, 46], [119, 55, 46])]) (by decide +kernel)
theorem fold_8 : fC [114, 114, 114, 114, 114, 114, 114, 114, 114, 114, 114, 114, 114, 114, 114, 114, 114, 114, 114, 114, 114, 114, 114, 114] = [50, 52, 114] := fold_tab (tb := [
  ([114], some [114], [114], [114]), ([114, 114], some [50, 114], [50, 114], [50, 114]), ([114, 114, 114], some [51, 114], [51, 114], [51, 114]), ([114, 114, 114, 114], some [52, 114], [52, 114], [52, 114]), ([114, 114, 114, 114, 114], some [53, 114], [53, 114], [53, 114]), ([114, 114, 114, 114, 114, 114], some [54, 114], [54, 114], [54, 114]), ([114, 114, 114, 114, 114, 114, 114], some [55, 114], [55, 114], [55, 114]), ([114, 114, 114, 114, 114, 114, 114, 114], some [56, 114], [56, 114], [56, 114]), ([114, 114, 114, 114, 114, 114, 114, 114, 114], some [57, 114], [57, 114], [57, 114]), ([114, 114, 114, 114, 114, 114, 114, 114, 114, 114], some [49, 48, 114], [49, 48, 114], [49, 48, 114]), ([114, 114, 114, 114, 114, 114, 114, 114, 114, 114, 114], some [49, 49, 114], [49, 49, 114], [49, 49, 114]), ([114, 114, 114, 114, 114, 114, 114, 114, 114, 114, 114, 114], some [49, 50, 114], [49, 50, 114], [49, 50, 114]), ([114, 114, 114, 114, 114, 114, 114, 114, 114, 114, 114, 114, 114], some [49, 51, 114], [49, 51, 114], [49, 51, 114]), ([114, 114, 114, 114, 114, 114, 114, 114, 114, 114, 114, 114, 114, 114], some [49, 52, 114], [49, 52, 114], [49, 52, 114]), ([114, 114, 114, 114, 114, 114, 114, 114, 114, 114, 114, 114, 114, 114, 114], some [49, 53, 114], [49, 53, 114], [49, 53, 114]), ([114, 114, 114, 114, 114, 114, 114, 114, 114, 114, 114, 114, 114, 114, 114, 114], some [49, 54, 114], [49, 54, 114], [49, 54, 114]), ([114, 114, 114, 114, 114, 114, 114, 114, 114, 114, 114, 114, 114, 114, 114, 114, 114], some [49, 55, 114], [49, 55, 114], [49, 55, 114]), ([114, 114, 114, 114, 114, 114, 114, 114, 114, 114, 114, 114, 114, 114, 114, 114, 114, 114], some [49, 56, 114], [49, 56, 114], [49, 56, 114]), ([114, 114, 114, 114, 114, 114, 114, 114, 114, 114, 114, 114, 114, 114, 114, 114, 114, 114, 114], some [49, 57, 114], [49, 57, 114], [49, 57, 114]), ([114, 114, 114, 114, 114, 114, 114, 114, 114, 114, 114, 114, 114, 114, 114, 114, 114, 114, 114, 114], some [50, 48, 114], [50, 48, 114], [50, 48, 114]), ([114, 114, 114, 114, 114, 114, 114, 114, 114, 114, 114, 114, 114, 114, 114, 114, 114, 114, 114, 114, 114], some [50, 49, 114], [50, 49, 114], [50, 49, 114]), ([114, 114, 114, 114, 114, 114, 114, 114, 114, 114, 114, 114, 114, 114, 114, 114, 114, 114, 114, 114, 114, 114], some [50, 50, 114], [50, 50, 114], [50, 50, 114]), ([114, 114, 114, 114, 114, 114, 114, 114, 114, 114, 114, 114, 114, 114, 114, 114, 114, 114, 114, 114, 114, 114, 114], some [50, 51, 114], [50, 51, 114], [50, 51, 114]), ([114, 114, 114, 114, 114, 114, 114, 114, 114, 114, 114, 114, 114, 114, 114, 114, 114, 114, 114, 114, 114, 114, 114, 114], some [50, 52, 114], [50, 52, 114], [50, 52, 114])]) (by decide +kernel)
theorem fold_9 : fC [114, 114, 119] = [50, 114, 119] := fold_tab (tb := [
  ([114], some [114], [114], [114]), ([119], some [119], [119], [119]), ([114, 114], some [50, 114], [50, 114], [50, 114]), ([114, 119], none, [114, 119], [114, 119]), ([114, 114, 119], none, [50, 114, 119], [50, 114, 119])]) (by decide +kernel)
theorem fold_10 : fC [46, 46, 119] = [46, 46, 119] := fold_tab (tb := [
  ([46], some [46], [46], [46]), ([119], some [119], [119], [119]), ([46, 46], some [50, 46], [46, 46], [46, 46]), ([46, 119], none, [46, 119], [46, 119]), ([46, 46, 119], none, [46, 46, 119], [46, 46, 119])]) (by decide +kernel)
theorem fold_11 : fC [46, 46, 46, 46] = [52, 46] := fold_tab (tb := [
  ([46], some [46], [46], [46]), ([46, 46], some [50, 46], [46, 46], [46, 46]), ([46, 46, 46], some [51, 46], [51, 46], [51, 46]), ([46, 46, 46, 46], some [52, 46], [52, 46], [52, 46])]) (by decide +kernel)
theorem fold_12 : fC [103, 46, 46, 46, 46, 46, 46, 46, 46, 46, 46] = [103, 46, 57, 46] := fold_tab (tb := [
  ([46], some [46], [46], [46]), ([103], some [103], [103], [103]), ([46, 46], some [50, 46], [46, 46], [46, 46]), ([103, 46], none, [103, 46], [103, 46]), ([46, 46, 46], some [51, 46], [51, 46], [51, 46]), ([103, 46, 46], none, [103, 46, 46], [103, 46, 46]), ([46, 46, 46, 46], some [52, 46], [52, 46], [52, 46]), ([103, 46, 46, 46], none, [103, 51, 46], [103, 51, 46]), ([46, 46, 46, 46, 46], some [53, 46], [53, 46], [53, 46]), ([103, 46, 46, 46, 46], none, [103, 52, 46], [103, 52, 46]), ([46, 46, 46, 46, 46, 46], some [54, 46], [54, 46], [54, 46]), ([103, 46, 46, 46, 46, 46], none, [103, 53, 46], [103, 53, 46]), ([46, 46, 46, 46, 46, 46, 46], some [55, 46], [55, 46], [55, 46]), ([103, 46, 46, 46, 46, 46, 46], none, [103, 54, 46], [103, 54, 46]), ([46, 46, 46, 46, 46, 46, 46, 46], some [56, 46], [56, 46], [56, 46]), ([103, 46, 46, 46, 46, 46, 46, 46], none, [103, 55, 46], [103, 55, 46]), ([46, 46, 46, 46, 46, 46, 46, 46, 46], some [57, 46], [57, 46], [57, 46]), ([103, 46, 46, 46, 46, 46, 46, 46, 46], none, [103, 56, 46], [103, 56, 46]), ([46, 46, 46, 46, 46, 46, 46, 46, 46, 46], some [49, 48, 46], [46, 57, 46], [46, 57, 46]), ([103, 46, 46, 46, 46, 46, 46, 46, 46, 46], none, [103, 57, 46], [103, 57, 46]), ([103, 46, 46, 46, 46, 46, 46, 46, 46, 46, 46], none, [103, 46, 57, 46], [103, 46, 57, 46])]) (by decide +kernel)
theorem fold_13 : fC [119, 114, 119] = [119, 114, 119] := fold_tab (tb := [
  ([114], some [114], [114], [114]), ([119], some [119], [119], [119]), ([114, 119], none, [114, 119], [114, 119]), ([119, 114], none, [119, 114], [119, 114]), ([119, 114, 119], none, [119, 114, 119], [119, 114, 119])]) (by decide +kernel)
theorem fold_14 : fC [114, 114, 46, 46] = [50, 114, 46, 46] := fold_tab (tb := [
  ([46], some [46], [46], [46]), ([114], some [114], [114], [114]), ([46, 46], some [50, 46], [46, 46], [46, 46]), ([114, 46], none, [114, 46], [114, 46]), ([114, 114], some [50, 114], [50, 114], [50, 114]), ([114, 46, 46], none, [114, 46, 46], [114, 46, 46]), ([114, 114, 46], none, [50, 114, 46], [50, 114, 46]), ([114, 114, 46, 46], none, [50, 114, 46, 46], [50, 114, 46, 46])]) (by decide +kernel)
theorem fold_15 : fC [46, 46, 114, 114] = [46, 46, 50, 114] := fold_tab (tb := [
  ([46], some [46], [46], [46]), ([114], some [114], [114], [114]), ([46, 46], some [50, 46], [46, 46], [46, 46]), ([46, 114], none, [46, 114], [46, 114]), ([114, 114], some [50, 114], [50, 114], [50, 114]), ([46, 46, 114], none, [46, 46, 114], [46, 46, 114]), ([46, 114, 114], none, [46, 50, 114], [46, 50, 114]), ([46, 46, 114, 114], none, [46, 46, 50, 114], [46, 46, 50, 114])]) (by decide +kernel)
theorem fold_16 : fC [114, 46, 114, 46, 114, 46, 114, 46] = [52, 40, 114, 46, 41] := fold_tab (tb := [
  ([46], some [46], [46], [46]), ([114], some [114], [114], [114]), ([46, 114], none, [46, 114], [46, 114]), ([114, 46], none, [114, 46], [114, 46]), ([46, 114, 46], none, [46, 114, 46], [46, 114, 46]), ([114, 46, 114], none, [114, 46, 114], [114, 46, 114]), ([46, 114, 46, 114], some [50, 40, 46, 114, 41], [46, 114, 46, 114], [46, 114, 46, 114]), ([114, 46, 114, 46], some [50, 40, 114, 46, 41], [114, 46, 114, 46], [114, 46, 114, 46]), ([46, 114, 46, 114, 46], none, [46, 114, 46, 114, 46], [46, 114, 46, 114, 46]), ([114, 46, 114, 46, 114], none, [114, 46, 114, 46, 114], [114, 46, 114, 46, 114]), ([46, 114, 46, 114, 46, 114], some [51, 40, 46, 114, 41], [51, 40, 46, 114, 41], [51, 40, 46, 114, 41]), ([114, 46, 114, 46, 114, 46], some [51, 40, 114, 46, 41], [51, 40, 114, 46, 41], [51, 40, 114, 46, 41]), ([46, 114, 46, 114, 46, 114, 46], none, [46, 51, 40, 114, 46, 41], [46, 51, 40, 114, 46, 41]), ([114, 46, 114, 46, 114, 46, 114], none, [51, 40, 114, 46, 41, 114], [51, 40, 114, 46, 41, 114]), ([114, 46, 114, 46, 114, 46, 114, 46], some [52, 40, 114, 46, 41], [52, 40, 114, 46, 41], [52, 40, 114, 46, 41])]) (by decide +kernel)
theorem fold_17 : fC [119, 46, 119, 119, 119] = [119, 46, 51, 119] := fold_tab (tb := [
  ([46], some [46], [46], [46]), ([119], some [119], [119], [119]), ([46, 119], none, [46, 119], [46, 119]), ([119, 46], none, [119, 46], [119, 46]), ([119, 119], some [50, 119], [50, 119], [50, 119]), ([46, 119, 119], none, [46, 50, 119], [46, 50, 119]), ([119, 46, 119], none, [119, 46, 119], [119, 46, 119]), ([119, 119, 119], some [51, 119], [51, 119], [51, 119]), ([46, 119, 119, 119], none, [46, 51, 119], [46, 51, 119]), ([119, 46, 119, 119], none, [119, 46, 50, 119], [119, 46, 50, 119]), ([119, 46, 119, 119, 119], none, [119, 46, 51, 119], [119, 46, 51, 119])]) (by decide +kernel)
theorem fold_18 : fC [119, 46, 46, 46, 46, 46, 46, 46, 46, 46, 46, 46, 46, 46, 46, 46, 46, 46, 46, 46, 46, 46, 46, 46] = [119, 50, 51, 46] := fold_tab (tb := [
  ([46], some [46], [46], [46]), ([119], some [119], [119], [119]), ([46, 46], some [50, 46], [46, 46], [46, 46]), ([119, 46], none, [119, 46], [119, 46]), ([46, 46, 46], some [51, 46], [51, 46], [51, 46]), ([119, 46, 46], none, [119, 46, 46], [119, 46, 46]), ([46, 46, 46, 46], some [52, 46], [52, 46], [52, 46]), ([119, 46, 46, 46], none, [119, 51, 46], [119, 51, 46]), ([46, 46, 46, 46, 46], some [53, 46], [53, 46], [53, 46]), ([119, 46, 46, 46, 46], none, [119, 52, 46], [119, 52, 46]), ([46, 46, 46, 46, 46, 46], some [54, 46], [54, 46], [54, 46]), ([119, 46, 46, 46, 46, 46], none, [119, 53, 46], [119, 53, 46]), ([46, 46, 46, 46, 46, 46, 46], some [55, 46], [55, 46], [55, 46]), ([119, 46, 46, 46, 46, 46, 46], none, [119, 54, 46], [119, 54, 46]), ([46, 46, 46, 46, 46, 46, 46, 46], some [56, 46], [56, 46], [56, 46]), ([119, 46, 46, 46, 46, 46, 46, 46], none, [119, 55, 46], [119, 55, 46]), ([46, 46, 46, 46, 46, 46, 46, 46, 46], some [57, 46], [57, 46], [57, 46]), ([119, 46, 46, 46, 46, 46, 46, 46, 46], none, [119, 56, 46], [119, 56, 46]), ([46, 46, 46, 46, 46, 46, 46, 46, 46, 46], some [49, 48, 46], [46, 57, 46], [46, 57, 46]), ([119, 46, 46, 46, 46, 46, 46, 46, 46, 46], none, [119, 57, 46], [119, 57, 46]), ([46, 46, 46, 46, 46, 46, 46, 46, 46, 46, 46], some [49, 49, 46], [49, 49, 46], [49, 49, 46]), ([119, 46, 46, 46, 46, 46, 46, 46, 46, 46, 46], none, [119, 46, 57, 46], [119, 46, 57, 46]), ([46, 46, 46, 46, 46, 46, 46, 46, 46, 46, 46, 46], some [49, 50, 46], [49, 50, 46], [49, 50, 46]), ([119, 46, 46, 46, 46, 46, 46, 46, 46, 46, 46, 46], none, [119, 49, 49, 46], [119, 49, 49, 46]), ([46, 46, 46, 46, 46, 46, 46, 46, 46, 46, 46, 46, 46], some [49, 51, 46], [49, 51, 46], [49, 51, 46]), ([119, 46, 46, 46, 46, 46, 46, 46, 46, 46, 46, 46, 46], none, [119, 49, 50, 46], [119, 49, 50, 46]), ([46, 46, 46, 46, 46, 46, 46, 46, 46, 46, 46, 46, 46, 46], some [49, 52, 46], [49, 52, 46], [49, 52, 46]), ([119, 46, 46, 46, 46, 46, 46, 46, 46, 46, 46, 46, 46, 46], none, [119, 49, 51, 46], [119, 49, 51, 46]), ([46, 46, 46, 46, 46, 46, 46, 46, 46, 46, 46, 46, 46, 46, 46], some [49, 53, 46], [49, 53, 46], [49, 53, 46]), ([119, 46, 46, 46, 46, 46, 46, 46, 46, 46, 46, 46, 46, 46, 46], none, [119, 49, 52, 46], [119, 49, 52, 46]), ([46, 46, 46, 46, 46, 46, 46, 46, 46, 46, 46, 46, 46, 46, 46, 46], some [49, 54, 46], [49, 54, 46], [49, 54, 46]), ([119, 46, 46, 46, 46, 46, 46, 46, 46, 46, 46, 46, 46, 46, 46, 46], none, [119, 49, 53, 46], [119, 49, 53, 46]), ([46, 46, 46, 46, 46, 46, 46, 46, 46, 46, 46, 46, 46, 46, 46, 46, 46], some [49, 55, 46], [49, 55, 46], [49, 55, 46]), ([119, 46, 46, 46, 46, 46, 46, 46, 46, 46, 46, 46, 46, 46, 46, 46, 46], none, [119, 49, 54, 46], [119, 49, 54, 46]), ([46, 46, 46, 46, 46, 46, 46, 46, 46, 46, 46, 46, 46, 46, 46, 46, 46, 46], some [49, 56, 46], [49, 56, 46], [49, 56, 46]), ([119, 46, 46, 46, 46, 46, 46, 46, 46, 46, 46, 46, 46, 46, 46, 46, 46, 46], none, [119, 49, 55, 46], [119, 49, 55, 46]), ([46, 46, 46, 46, 46, 46, 46, 46, 46, 46, 46, 46, 46, 46, 46, 46, 46, 46, 46], some [49, 57, 46], [49, 57, 46], [49, 57, 46]), ([119, 46, 46, 46, 46, 46, 46, 46, 46, 46, 46, 46, 46, 46, 46, 46, 46, 46, 46], none, [119, 49, 56, 46], [119, 49, 56, 46]), ([46, 46, 46, 46, 46, 46, 46, 46, 46, 46, 46, 46, 46, 46, 46, 46, 46, 46, 46, 46], some [50, 48, 46], [50, 48, 46], [50, 48, 46]), ([119, 46, 46, 46, 46, 46, 46, 46, 46, 46, 46, 46, 46, 46, 46, 46, 46, 46, 46, 46], none, [119, 49, 57, 46], [119, 49, 57, 46]), ([46, 46, 46, 46, 46, 46, 46, 46, 46, 46, 46, 46, 46, 46, 46, 46, 46, 46, 46, 46, 46], some [50, 49, 46], [50, 49, 46], [50, 49, 46]), ([119, 46, 46, 46, 46, 46, 46, 46, 46, 46, 46, 46, 46, 46, 46, 46, 46, 46, 46, 46, 46], none, [119, 50, 48, 46], [119, 50, 48, 46]), ([46, 46, 46, 46, 46, 46, 46, 46, 46, 46, 46, 46, 46, 46, 46, 46, 46, 46, 46, 46, 46, 46], some [50, 50, 46], [50, 50, 46], [50, 50, 46]), ([119, 46, 46, 46, 46, 46, 46, 46, 46, 46, 46, 46, 46, 46, 46, 46, 46, 46, 46, 46, 46, 46], none, [119, 50, 49, 46], [119, 50, 49, 46]), ([46, 46, 46, 46, 46, 46, 46, 46, 46, 46, 46, 46, 46, 46, 46, 46, 46, 46, 46, 46, 46, 46, 46], some [50, 51, 46], [50, 51, 46], [50, 51, 46]), ([119, 46, 46, 46, 46, 46, 46, 46, 46, 46, 46, 46, 46, 46, 46, 46, 46, 46, 46, 46, 46, 46, 46], none, [119, 50, 50, 46], [119, 50, 50, 46]), ([119, 46, 46, 46, 46, 46, 46, 46, 46, 46, 46, 46, 46, 46, 46, 46, 46, 46, 46, 46, 46, 46, 46, 46], none, [119, 50, 51, 46], [119, 50, 51, 46])]) (by decide +kernel)
abbrev FOLDS : List (List Nat × List Nat) := [([119], [119]), ([119, 119], [50, 119]), ([46, 46], [46, 46]), ([119, 46, 46], [119, 46, 46]), ([103, 103, 103], [51, 103]), ([119, 46, 119, 46], [119, 46, 119, 46]), ([119, 46, 119, 46, 119, 46], [51, 40, 119, 46, 41]), ([119, 46, 46, 46, 46, 46, 46, 46], [119, 55, 46]), ([114, 114, 114, 114, 114, 114, 114, 114, 114, 114, 114, 114, 114, 114, 114, 114, 114, 114, 114, 114, 114, 114, 114, 114], [50, 52, 114]), ([114, 114, 119], [50, 114, 119]), ([46, 46, 119], [46, 46, 119]), ([46, 46, 46, 46], [52, 46]), ([103, 46, 46, 46, 46, 46, 46, 46, 46, 46, 46], [103, 46, 57, 46]), ([119, 114, 119], [119, 114, 119]), ([114, 114, 46, 46], [50, 114, 46, 46]), ([46, 46, 114, 114], [46, 46, 50, 114]), ([114, 46, 114, 46, 114, 46, 114, 46], [52, 40, 114, 46, 41]), ([119, 46, 119, 119, 119], [119, 46, 51, 119]), ([119, 46, 46, 46, 46, 46, 46, 46, 46, 46, 46, 46, 46, 46, 46, 46, 46, 46, 46, 46, 46, 46, 46, 46], [119, 50, 51, 46])]
theorem folds_ok : ∀ e ∈ FOLDS, fC e.1 = e.2 := by
  intro e he
  simp only [List.mem_cons, List.not_mem_nil, or_false] at he
  rcases he with rfl | rfl | rfl | rfl | rfl | rfl | rfl | rfl | rfl | rfl | rfl | rfl | rfl | rfl | rfl | rfl | rfl | rfl | rfl
  · exact fold_0
  · exact fold_1
  · exact fold_2
  · exact fold_3
  · exact fold_4
  · exact fold_5
  · exact fold_6
  · exact fold_7
  · exact fold_8
  · exact fold_9
  · exact fold_10
  · exact fold_11
  · exact fold_12
  · exact fold_13
  · exact fold_14
  · exact fold_15
  · exact fold_16
  · exact fold_17
  · exact fold_18
abbrev POOL : List (List Nat × Option (List Nat)) := [([119], some [119]), ([50, 119], some [119, 119]), ([46, 46], some [46, 46]), ([119, 46, 46], some [119, 46, 46]), ([51, 103], some [103, 103, 103]), ([119, 46, 119, 46], some [119, 46, 119, 46]), ([51, 40, 119, 46, 41], some [119, 46, 119, 46, 119, 46]), ([119, 55, 46], some [119, 46, 46, 46, 46, 46, 46, 46]), ([50, 52, 114], some [114, 114, 114, 114, 114, 114, 114, 114, 114, 114, 114, 114, 114, 114, 114, 114, 114, 114, 114, 114, 114, 114, 114, 114]), ([50, 114, 119], some [114, 114, 119]), ([46, 46, 119], some [46, 46, 119]), ([52, 46], some [46, 46, 46, 46]), ([103, 46, 57, 46], some [103, 46, 46, 46, 46, 46, 46, 46, 46, 46, 46]), ([119, 114, 119], some [119, 114, 119]), ([50, 114, 46, 46], some [114, 114, 46, 46]), ([46, 46, 50, 114], some [46, 46, 114, 114]), ([52, 40, 114, 46, 41], some [114, 46, 114, 46, 114, 46, 114, 46]), ([119, 46, 51, 119], some [119, 46, 119, 119, 119]), ([119, 50, 51, 46], some [119, 46, 46, 46, 46, 46, 46, 46, 46, 46, 46, 46, 46, 46, 46, 46, 46, 46, 46, 46, 46, 46, 46, 46]), ([119, 64, 51], some [119, 46, 46]), ([50, 40, 119, 46, 41, 64, 49, 48], some [119, 46, 119, 46, 46, 46, 46, 46, 46, 46]), ([51, 40, 50, 119, 46, 41, 114, 38, 46], some [119, 119, 46, 119, 119, 46, 119, 119, 46, 114]), ([119, 46, 38, 46, 114, 46], some [119, 114, 119, 46, 119, 46]), ([46, 46, 46, 46], some [46, 46, 46, 46]), ([103, 46, 114, 119], some [103, 46, 114, 119]), ([119, 119, 119, 119], some [119, 119, 119, 119]), ([50, 46], some [46, 46]), ([114, 103], some [114, 103]), ([103, 103, 46, 114, 114], some [103, 103, 46, 114, 114]), ([], none), ([120], none), ([48], none), ([48, 48], none), ([48, 53], none), ([49], none), ([50], none), ([51], none), ([52], none), ([53], none), ([57], none), ([49, 48], none), ([49, 49], none), ([45, 51], none), ([43, 51], none), ([48, 50], none), ([103, 108, 97, 115, 115], none), ([108, 97, 109, 101], none), ([115, 116, 97, 110, 100, 105, 110], none), ([114, 101, 115, 116, 97, 114, 116], none), ([115, 108, 105, 112], none), ([83, 108, 105, 112], none), ([49, 119], none), ([50, 53, 119], none), ([50, 52, 119, 50, 52, 119], none), ([40, 119, 41], none), ([119, 38], none), ([119, 64], none), ([119, 119, 64, 49], none), ([119, 41], none), ([50, 40, 119], none), ([50, 40, 41], none), ([103, 46, 120, 119], none), ([119, 119, 119, 119, 119, 119, 119, 119, 119, 119, 119, 119, 119, 119, 119, 119, 119, 119, 119, 119, 119, 119, 119, 119, 119], none), ([101, 110, 100], none), ([45], none)]
abbrev POOL2 : List (List Nat × List Nat) := [([119, 64, 51], [119, 46, 46]), ([50, 40, 119, 46, 41, 64, 49, 48], [119, 46, 119, 46, 46, 46, 46, 46, 46, 46]), ([51, 40, 50, 119, 46, 41, 114, 38, 46], [119, 119, 46, 119, 119, 46, 119, 119, 46, 114]), ([119, 46, 38, 46, 114, 46], [119, 114, 119, 46, 119, 46]), ([46, 46, 46, 46], [46, 46, 46, 46]), ([103, 46, 114, 119], [103, 46, 114, 119]), ([119, 119, 119, 119], [119, 119, 119, 119]), ([50, 46], [46, 46]), ([114, 103], [114, 103]), ([103, 103, 46, 114, 114], [103, 103, 46, 114, 114])]
abbrev POOL3 : List (List Nat) := [[], [120], [48], [48, 48], [48, 53], [49], [50], [51], [52], [53], [57], [49, 48], [49, 49], [45, 51], [43, 51], [48, 50], [103, 108, 97, 115, 115], [108, 97, 109, 101], [115, 116, 97, 110, 100, 105, 110], [114, 101, 115, 116, 97, 114, 116], [115, 108, 105, 112], [83, 108, 105, 112], [49, 119], [50, 53, 119], [50, 52, 119, 50, 52, 119], [40, 119, 41], [119, 38], [119, 64], [119, 119, 64, 49], [119, 41], [50, 40, 119], [50, 40, 41], [103, 46, 120, 119], [119, 119, 119, 119, 119, 119, 119, 119, 119, 119, 119, 119, 119, 119, 119, 119, 119, 119, 119, 119, 119, 119, 119, 119, 119], [101, 110, 100], [45]]
/-- the law's reading of a stand-in's word -/
def lawRd (w : List Nat) : Option (List Nat) := match POOL.find? (fun e => decide (e.1 = w) && e.2.isSome) with
  | some e => e.2
  | none => if (decide (1 ≤ w.length) && (decide (w.length ≤ 24) && w.all fun c => decide (c ∈ SG))) = true then some w else none
/-- the words of drawn and of spoilt lines -/
def Wd (w : List Nat) : Prop := w ∈ POOL.map (·.1) ∨ w ∈ [[54], [55], [56]] ∨ ∃ a ∈ SG, ∃ b ∈ SG, ∃ c ∈ SG, ∃ d ∈ SG, w = [a, b, c, d]
/-- the reader once more, by plain recursion -/
def itN (z : List Nat) : Nat → Nat → Res
  | 0 => item none z
  | d + 1 => item (some (parts (itN z d) z)) z
theorem itN_eq (z : List Nat) : ∀ d, rdItem z d = itN z d
  | 0 => by rw [rdItem_zero]; rfl
  | d + 1 => by rw [rdItem_succ, rd_eq, itN_eq z d]; rfl
def rdN (w : List Nat) : Option (List Nat) := match parts (itN w 6) w 0 with
  | .error _ => none
  | .ok (s, e) => if e < w.length then none else if 24 < s.1 then none else some s.2
theorem rdN_eq (w : List Nat) : rdP w = rdN w := by
  unfold rdP rdN
  rw [rd_eq, itN_eq]
  all_goals rfl
theorem rd_pool1 : ∀ w ∈ POOL.map (·.1), lawRd w = rdN w := by decide +kernel
theorem rd_pool2 : ∀ w ∈ [[54], [55], [56]], lawRd w = rdN w := by decide +kernel
theorem rd_pool3 : ∀ a ∈ SG, ∀ b ∈ SG, ∀ c ∈ SG, ∀ d ∈ SG, lawRd [a, b, c, d] = rdN [a, b, c, d] := by decide +kernel
theorem rd_pool {w : List Nat} (h : Wd w) : lawRd w = rdP w := by
  rw [rdN_eq]
  rcases h with h | h | ⟨a, ha, b, hb, c, hc, d, hd, rfl⟩
  · exact rd_pool1 w h
  · exact rd_pool2 w h
  · exact rd_pool3 a ha b hb c hc d hd
theorem wd_facts1 : ∀ w ∈ POOL.map (·.1), w.length ≤ 25 ∧ ∀ c ∈ w, c < 128 ∧ c ≠ 32 := by decide +kernel
theorem wd_facts {w : List Nat} (h : Wd w) : w.length ≤ 25 ∧ ∀ c ∈ w, c < 128 ∧ c ≠ 32 := by
  have sg : ∀ x ∈ SG, x < 128 ∧ x ≠ 32 := by decide
  rcases h with h | h | ⟨a, ha, b, hb, c, hc, d, hd, rfl⟩
  · exact wd_facts1 w h
  · have : ∀ w ∈ [[54], [55], [56]], w.length ≤ 25 ∧ ∀ c ∈ w, c < 128 ∧ c ≠ 32 := by decide
    exact this w h
  · refine ⟨by simp, fun x hx => ?_⟩
    simp only [List.mem_cons, List.not_mem_nil, or_false] at hx
    rcases hx with rfl | rfl | rfl | rfl
    · exact sg _ ha
    · exact sg _ hb
    · exact sg _ hc
    · exact sg _ hd
theorem wd_glass {l : List Nat} (h : l.length = 4) (r : ∀ c ∈ l, c ∈ SG) : Wd l := by
  match l, h with
  | [a, b, c, d], _ => exact .inr (.inr ⟨a, r a (by simp), b, r b (by simp), c, r c (by simp), d, r d (by simp), rfl⟩)
theorem wd_digit : ∀ n, 1 ≤ n → n ≤ 9 → dec n ∈ POOL.map (·.1) ∨ dec n ∈ [[54], [55], [56]] := by
  intro n h1 h2
  have : ∀ n < 10, 1 ≤ n → dec n ∈ POOL.map (·.1) ∨ dec n ∈ [[54], [55], [56]] := by decide +kernel
  exact this n (by omega) h1
theorem wd_dec {n : Nat} (h1 : 1 ≤ n) (h2 : n ≤ 9) : Wd (dec n) := (wd_digit n h1 h2).imp id .inl
theorem wd_kind : ∀ w ∈ [cGlass, cLame, cStand, cRest, cSlip], w ∈ POOL.map (·.1) := by decide +kernel
theorem wd_fold : ∀ e ∈ FOLDS, e.2 ∈ POOL.map (·.1) := by decide +kernel
theorem folds_rnd : ∀ e ∈ FOLDS, 1 ≤ e.1.length ∧ e.1.length ≤ 24 ∧ ∀ c ∈ e.1, c ∈ SG := by decide +kernel
section
variable {K : PySem.W.Frag} {d : Dd} {f A A1 H G : Hp}
theorem D2.ext (h : D2 K d f A H) (x : Ext A H A1 G) : D2 K d f A1 G := by
  have n0 : joinH A f d.a = none := h.2.1.2.1
  have nA : A d.a = none := by
    cases e : A d.a with
    | none => rfl
    | some o => rw [joinH_some e] at n0; cases n0
  have nf : f d.a = none := by rw [joinH_none nA] at n0; exact n0
  have hne : H d.a ≠ none := by
    obtain ⟨_, _, _, _, p, b, u, x', s, ha, _⟩ := h.2.1
    rw [ha]; simp
  have n1 := x.free nA hne
  have nfb : ∀ b, f b ≠ none → A1 b = none := fun b hb => by
    cases ef : f b with
    | none => exact absurd ef hb
    | some u => exact x.free (h.2.2 b hb) (by rw [h.fr ef]; simp)
  have s1 : Same (joinH A f) (joinH A1 f) := fun b u e => by
    cases ea : A b with
    | some w =>
      rw [joinH_some ea] at e
      rw [joinH_some (x.aa _ _ ea)]; exact e
    | none =>
      rw [joinH_none ea] at e
      rw [joinH_none (nfb b (by rw [e]; simp))]; exact e
  have s2 : Same (joinH A1 f) G := fun b u e => by
    cases ea : A1 b with
    | some w => rw [joinH_some ea] at e; exact x.ag _ _ (by rw [ea]; exact e)
    | none => rw [joinH_none ea] at e; exact x.gg _ _ (h.fr e)
  exact ⟨x.ag, (h.2.1.same x.gg).know s1 s2 (by rw [joinH_none n1]; exact nf), nfb⟩
end
def seqD : PyData → Option (List PyData)
  | .list ds => some ds
  | .tuple ds => some ds
  | _ => none
theorem seq_at {H : Hp} {v : V} {d : PyData} {ds : List PyData} (h : At H v d) (e : seqD d = some ds) : ∃ a xs, v = .ref a ∧ xs.length ≤ 10000 ∧ AtAll H xs ds ∧ (H a = some (.lst xs) ∨ H a = some (.tup xs)) := by
  cases d with
  | list es =>
    cases e
    obtain ⟨a, xs, rfl, hA, hl, al⟩ := h.listed
    exact ⟨a, xs, rfl, hl, al, .inl hA⟩
  | tuple es =>
    cases e
    obtain ⟨a, xs, rfl, hA, hl, al⟩ := h.tupled
    exact ⟨a, xs, rfl, hl, al, .inr hA⟩
  | _ => cases e
section
variable {K : PySem.W.Frag} {H : Hp} {Q : VK} {a : Addr} {xs : List V} {i : Nat} {v : V}
theorem i_lenQ (h : H a = some (.lst xs) ∨ H a = some (.tup xs)) (q : Q (.int (xs.length : Int)) H) : rLenP K [.ref a] H Q := by
  rcases h with h | h
  · exact i_len_lst (.inl (.inl h)) q
  · exact i_len_tup (.inl (.inl h)) q
theorem i_ixQ (h : H a = some (.lst xs) ∨ H a = some (.tup xs)) (e : xs[i]? = some v) (q : Q v H) : ixP K (.ref a) (.int (i : Int)) H Q := by
  rcases h with h | h
  · exact i_ix_lst (.inl (.inl h)) (atI_nat e) q
  · exact i_ix_tup (.inl (.inl h)) (atI_nat e) q
end
theorem grow2 {A G A1 G1 : Hp} {p : Addr} {xs : List V} {ds : List PyData} {l m : List Nat} (x : Ext A G A1 G1) (al : AtAll A1 xs ds) (n : G1 p = none) (hl : l.length ≤ 100) (hm : m.length ≤ 100) :
    ∃ A2, Ext A G A2 (upd G1 p (.tup [S l, S m])) ∧ AtAll A2 (xs ++ [.ref p]) (ds ++ [.tuple [dS l, dS m]]) :=
  ⟨_, x.new n, (al.same (same_upd (x.ag.free n))).app (.one (.tup upd_same (by show 2 ≤ 10000; decide) (.cons (.str _ (by omega)) (.cons (.str _ (by omega)) .nil))))⟩
def foldD (e : List Nat × List Nat) : PyData := .tuple [dS e.1, dS e.2]
def oD : Option (List Nat) → PyData
  | none => .none
  | some l => dS l
def poolD (e : List Nat × Option (List Nat)) : PyData := .tuple [dS e.1, oD e.2]
section
variable {P : Program} {w : World} {K : PySem.W.Frag} {mg : Str → Option Value} {base : Heap} {C_GlimError C_BadRound C_BadText C_BadLine C_BadWay C_TooLong C_Lines C_NUMBERED : Addr}
def p_L_sign (K : PySem.W.Frag) : P1 := fun x H Q _ => ∃ (H0 : Hp) (d : Dd), x = .ref d.a ∧ Dr K d H0 H ∧ ∀ c H', Dr K d H0 H' → c ∈ SG → Q (S [c]) H'
theorem ok_L_sign (T : Txt K mg w C_GlimError C_BadRound C_BadText C_BadLine C_BadWay C_TooLong C_Lines C_NUMBERED) : OK P w K mg base CX0 3 "_law_sign" ["_law_draw_here"] (sp1  (p_L_sign K)) := by
  refine OK.mk (k := 2) T.d_L_sign sc_L_sign len1 fun f cdv A outer s H vs Q E hr h => ?_
  obtain ⟨x, rfl, h⟩ := h
  refine ⟨_, (pss_one (ps_ret (pe_ix (ixK K) (pe_S [46, 46, 46, 119, 119, 114, 103]) (pe_f (ok_L_pick (K := K) T) (hr.mono (by decide)) pass0 (pa_cons (pv 0) (pa_cons pe_int pa_nil))) (fun _ _ => rfl)))), ?_⟩
  show (_ : TS) { nx := fun _ H' => Q .non H', rt := Q } [some x] H
  obtain ⟨H0, d, rfl, dr, q⟩ := h
  walk_at "go"
  refine ⟨H0, d, 7, rfl, rfl, dr, by decide, fun n H1 dr1 b => ?_⟩
  have b0 := b.1
  have b1 := b.2.1 (by decide)
  have hn : n.toNat < 7 := by omega
  have key : ∀ i < 7, ∃ c, ([46, 46, 46, 119, 119, 114, 103] : List Nat)[i]? = some c ∧ c ∈ SG := by decide
  obtain ⟨c, hc, hs⟩ := key n.toNat hn
  refine i_ix_str (by decide) b0 hc ?_
  walk_at "go"
  exact q c H1 dr1 hs
def p_L_glass (K : PySem.W.Frag) : P1 := fun x H Q _ => ∃ A d f, x = .ref d.a ∧ D2 K d f A H ∧ ∀ l A' H', Same A A' → D2 K d f A' H' → l.length = 4 → (∀ c ∈ l, c ∈ SG) → Q (S l) H'
theorem ok_L_glass (T : Txt K mg w C_GlimError C_BadRound C_BadText C_BadLine C_BadWay C_TooLong C_Lines C_NUMBERED) : OK P w K mg base CX0 3 "_law_glass" ["_law_draw_here"] (sp1  (p_L_glass K)) := by
  refine OK.mk (k := 2) T.d_L_glass sc_L_glass len1 fun f cdv A outer s H vs Q E hr h => ?_
  obtain ⟨x, rfl, h⟩ := h
  refine ⟨_, (pss_one (ps_ret (peJoin K (pe_S []) (pe_lc (own := [("_law_turn", 1)]) (g := gName 1) (tt := tYes) (by rfl) sc_L_glass.nd (pi_range1 rfl T.b_range (pa_cons pe_int pa_nil)) (blkOk_by (own := [("_law_turn", 1)]) (N := ["_law_draw_here", "_law_turn"]) (sc := (defScope s_L_glass)) (by decide +kernel)) (fun _ _ _ _ _ => (pg_name (i := 1) sc_L_glass.nd rfl (Or.inl rfl))) (fun _ _ _ _ _ => pts_nil) (fun _ _ _ _ _ => (pe_ix (ixK K) (pe_S [46, 103, 114, 119]) (pe_f (ok_L_pick (K := K) T) (hr.mono (by decide)) pass0 (pa_cons (pv 0) (pa_cons pe_int pa_nil))) (fun _ _ => rfl))))))), ?_⟩
  show (_ : TS) { nx := fun _ H' => Q .non H', rt := Q } [some x, none] H
  obtain ⟨A0, d, f, rfl, dr, q⟩ := h
  walk_at "go"
  refine c_rngB (many := 4) dr (fun R k => by walk_at "go"; exact k) (by decide) (fun _ e => ∃ c, e = dS [c] ∧ c ∈ SG) (fun _ => rfl) (fun i A1 G1 fr hi s1 d1 QV k => ?_) (fun A1 G1 Dl xs ds s1 d1 ea al dl hp => ?_)
  · show (_ : TE) [some (.ref d.a), some (.int (i : Int))] G1 QV
    walk_at "go"
    refine pick2 d1 (by decide) fun n G2 d2 b => ?_
    have b0 := b.1
    have b1 := b.2.1 (by decide)
    have key : ∀ i < 4, ∃ c, ([46, 103, 114, 119] : List Nat)[i]? = some c ∧ c ∈ SG := by decide
    obtain ⟨c, hc, hs⟩ := key n.toNat (by omega)
    refine i_ix_str (by decide) b0 hc ?_
    exact k _ _ _ _ (Same.refl _) d2 (.str _ (by show 1 ≤ 10000; decide)) ⟨c, rfl, hs⟩
  · match ds, dl, hp, al with
    | [e0, e1, e2, e3], _, hp, al =>
      obtain ⟨c0, rfl, h0⟩ := hp 0 e0 rfl
      obtain ⟨c1, rfl, h1⟩ := hp 1 e1 rfl
      obtain ⟨c2, rfl, h2⟩ := hp 2 e2 rfl
      obtain ⟨c3, rfl, h3⟩ := hp 3 e3 rfl
      have ex : xs = [[c0], [c1], [c2], [c3]].map S := by
        cases al with
        | cons a0 al =>
        cases al with
        | cons a1 al =>
        cases al with
        | cons a2 al =>
        cases al with
        | cons a3 al =>
        cases al
        rw [a0.strd, a1.strd, a2.strd, a3.strd]
        rfl
      rw [ex] at ea
      walk_at "go"
      refine i_joinG (.inl (.inl (d1.old ea))) (by show _ ≤ _; simp) ?_
      refine q [c0, c1, c2, c3] A1 G1 s1 d1 rfl fun c hc => ?_
      simp only [List.mem_cons, List.not_mem_nil, or_false] at hc
      rcases hc with rfl | rfl | rfl | rfl
      · exact h0
      · exact h1
      · exact h2
      · exact h3
def p_L_folds : Hp → VK → XK → Prop := fun H Q _ => ∃ A, Same A H ∧ ∀ A' H' v, Ext A H A' H' → At A' v (.list (FOLDS.map foldD)) → Q v H'
theorem ok_L_folds (T : Txt K mg w C_GlimError C_BadRound C_BadText C_BadLine C_BadWay C_TooLong C_Lines C_NUMBERED) : OK P w K mg base CX0 1 "_law_folds" [] (sp0  p_L_folds) := by
  refine OK.mk (k := 0) T.d_L_folds sc_L_folds Fg.len0 fun f cdv A outer s H vs Q E hr h => ?_
  obtain ⟨rfl, h⟩ := h
  refine ⟨_, (pss_one (ps_ret (pe_lst (pa_cons (pe_tup (pa_cons (pe_S [119]) (pa_cons (pe_S [119]) pa_nil))) (pa_cons (pe_tup (pa_cons (pe_S [119, 119]) (pa_cons (pe_S [50, 119]) pa_nil))) (pa_cons (pe_tup (pa_cons (pe_S [46, 46]) (pa_cons (pe_S [46, 46]) pa_nil))) (pa_cons (pe_tup (pa_cons (pe_S [119, 46, 46]) (pa_cons (pe_S [119, 46, 46]) pa_nil))) (pa_cons (pe_tup (pa_cons (pe_S [103, 103, 103]) (pa_cons (pe_S [51, 103]) pa_nil))) (pa_cons (pe_tup (pa_cons (pe_S [119, 46, 119, 46]) (pa_cons (pe_S [119, 46, 119, 46]) pa_nil))) (pa_cons (pe_tup (pa_cons (pe_S [119, 46, 119, 46, 119, 46]) (pa_cons (pe_S [51, 40, 119, 46, 41]) pa_nil))) (pa_cons (pe_tup (pa_cons (pe_S [119, 46, 46, 46, 46, 46, 46, 46]) (pa_cons (pe_S [119, 55, 46]) pa_nil))) (pa_cons (pe_tup (pa_cons (pe_op op_mulP (pe_S [114]) pe_int) (pa_cons (pe_S [50, 52, 114]) pa_nil))) (pa_cons (pe_tup (pa_cons (pe_S [114, 114, 119]) (pa_cons (pe_S [50, 114, 119]) pa_nil))) (pa_cons (pe_tup (pa_cons (pe_S [46, 46, 119]) (pa_cons (pe_S [46, 46, 119]) pa_nil))) (pa_cons (pe_tup (pa_cons (pe_S [46, 46, 46, 46]) (pa_cons (pe_S [52, 46]) pa_nil))) (pa_cons (pe_tup (pa_cons (pe_S [103, 46, 46, 46, 46, 46, 46, 46, 46, 46, 46]) (pa_cons (pe_S [103, 46, 57, 46]) pa_nil))) (pa_cons (pe_tup (pa_cons (pe_S [119, 114, 119]) (pa_cons (pe_S [119, 114, 119]) pa_nil))) (pa_cons (pe_tup (pa_cons (pe_S [114, 114, 46, 46]) (pa_cons (pe_S [50, 114, 46, 46]) pa_nil))) (pa_cons (pe_tup (pa_cons (pe_S [46, 46, 114, 114]) (pa_cons (pe_S [46, 46, 50, 114]) pa_nil))) (pa_cons (pe_tup (pa_cons (pe_S [114, 46, 114, 46, 114, 46, 114, 46]) (pa_cons (pe_S [52, 40, 114, 46, 41]) pa_nil))) (pa_cons (pe_tup (pa_cons (pe_S [119, 46, 119, 119, 119]) (pa_cons (pe_S [119, 46, 51, 119]) pa_nil))) (pa_cons (pe_tup (pa_cons (pe_S [119, 46, 46, 46, 46, 46, 46, 46, 46, 46, 46, 46, 46, 46, 46, 46, 46, 46, 46, 46, 46, 46, 46, 46]) (pa_cons (pe_S [119, 50, 51, 46]) pa_nil))) pa_nil)))))))))))))))))))))), ?_⟩
  show (_ : TS) { nx := fun _ H' => Q .non H', rt := Q } [] H
  obtain ⟨A0, sa, q⟩ := h
  have x1 := Ext.refl sa
  have al : AtAll A0 [] [] := .nil
  walk_at "go"
  refine i_new (by show 2 ≤ 100000; omega) fun p0 n0 => ?_
  obtain ⟨A1, x1, al⟩ := grow2 x1 al n0 (l := [119]) (m := [119]) (by decide) (by decide)
  generalize upd H p0 (.tup [S [119], S [119]]) = H0 at *
  walk_at "go"
  refine i_new (by show 2 ≤ 100000; omega) fun p1 n1 => ?_
  obtain ⟨A1, x1, al⟩ := grow2 x1 al n1 (l := [119, 119]) (m := [50, 119]) (by decide) (by decide)
  generalize upd H0 p1 (.tup [S [119, 119], S [50, 119]]) = H01 at *
  walk_at "go"
  refine i_new (by show 2 ≤ 100000; omega) fun p2 n2 => ?_
  obtain ⟨A1, x1, al⟩ := grow2 x1 al n2 (l := [46, 46]) (m := [46, 46]) (by decide) (by decide)
  generalize upd H01 p2 (.tup [S [46, 46], S [46, 46]]) = H012 at *
  walk_at "go"
  refine i_new (by show 2 ≤ 100000; omega) fun p3 n3 => ?_
  obtain ⟨A1, x1, al⟩ := grow2 x1 al n3 (l := [119, 46, 46]) (m := [119, 46, 46]) (by decide) (by decide)
  generalize upd H012 p3 (.tup [S [119, 46, 46], S [119, 46, 46]]) = H0123 at *
  walk_at "go"
  refine i_new (by show 2 ≤ 100000; omega) fun p4 n4 => ?_
  obtain ⟨A1, x1, al⟩ := grow2 x1 al n4 (l := [103, 103, 103]) (m := [51, 103]) (by decide) (by decide)
  generalize upd H0123 p4 (.tup [S [103, 103, 103], S [51, 103]]) = H01234 at *
  walk_at "go"
  refine i_new (by show 2 ≤ 100000; omega) fun p5 n5 => ?_
  obtain ⟨A1, x1, al⟩ := grow2 x1 al n5 (l := [119, 46, 119, 46]) (m := [119, 46, 119, 46]) (by decide) (by decide)
  generalize upd H01234 p5 (.tup [S [119, 46, 119, 46], S [119, 46, 119, 46]]) = H012345 at *
  walk_at "go"
  refine i_new (by show 2 ≤ 100000; omega) fun p6 n6 => ?_
  obtain ⟨A1, x1, al⟩ := grow2 x1 al n6 (l := [119, 46, 119, 46, 119, 46]) (m := [51, 40, 119, 46, 41]) (by decide) (by decide)
  generalize upd H012345 p6 (.tup [S [119, 46, 119, 46, 119, 46], S [51, 40, 119, 46, 41]]) = H0123456 at *
  walk_at "go"
  refine i_new (by show 2 ≤ 100000; omega) fun p7 n7 => ?_
  obtain ⟨A1, x1, al⟩ := grow2 x1 al n7 (l := [119, 46, 46, 46, 46, 46, 46, 46]) (m := [119, 55, 46]) (by decide) (by decide)
  generalize upd H0123456 p7 (.tup [S [119, 46, 46, 46, 46, 46, 46, 46], S [119, 55, 46]]) = H01234567 at *
  walk_at "go"
  refine i_mul_strI (by decide) (by decide) ?_
  rw [show (List.replicate ((24 : Int)).toNat [114]).flatten = [114, 114, 114, 114, 114, 114, 114, 114, 114, 114, 114, 114, 114, 114, 114, 114, 114, 114, 114, 114, 114, 114, 114, 114] from rfl]
  walk_at "go"
  refine i_new (by show 2 ≤ 100000; omega) fun p8 n8 => ?_
  obtain ⟨A1, x1, al⟩ := grow2 x1 al n8 (l := [114, 114, 114, 114, 114, 114, 114, 114, 114, 114, 114, 114, 114, 114, 114, 114, 114, 114, 114, 114, 114, 114, 114, 114]) (m := [50, 52, 114]) (by decide) (by decide)
  generalize upd H01234567 p8 (.tup [S [114, 114, 114, 114, 114, 114, 114, 114, 114, 114, 114, 114, 114, 114, 114, 114, 114, 114, 114, 114, 114, 114, 114, 114], S [50, 52, 114]]) = H012345678 at *
  walk_at "go"
  refine i_new (by show 2 ≤ 100000; omega) fun p9 n9 => ?_
  obtain ⟨A1, x1, al⟩ := grow2 x1 al n9 (l := [114, 114, 119]) (m := [50, 114, 119]) (by decide) (by decide)
  generalize upd H012345678 p9 (.tup [S [114, 114, 119], S [50, 114, 119]]) = H0123456789 at *
  walk_at "go"
  refine i_new (by show 2 ≤ 100000; omega) fun p10 n10 => ?_
  obtain ⟨A1, x1, al⟩ := grow2 x1 al n10 (l := [46, 46, 119]) (m := [46, 46, 119]) (by decide) (by decide)
  generalize upd H0123456789 p10 (.tup [S [46, 46, 119], S [46, 46, 119]]) = H012345678910 at *
  walk_at "go"
  refine i_new (by show 2 ≤ 100000; omega) fun p11 n11 => ?_
  obtain ⟨A1, x1, al⟩ := grow2 x1 al n11 (l := [46, 46, 46, 46]) (m := [52, 46]) (by decide) (by decide)
  generalize upd H012345678910 p11 (.tup [S [46, 46, 46, 46], S [52, 46]]) = H01234567891011 at *
  walk_at "go"
  refine i_new (by show 2 ≤ 100000; omega) fun p12 n12 => ?_
  obtain ⟨A1, x1, al⟩ := grow2 x1 al n12 (l := [103, 46, 46, 46, 46, 46, 46, 46, 46, 46, 46]) (m := [103, 46, 57, 46]) (by decide) (by decide)
  generalize upd H01234567891011 p12 (.tup [S [103, 46, 46, 46, 46, 46, 46, 46, 46, 46, 46], S [103, 46, 57, 46]]) = H0123456789101112 at *
  walk_at "go"
  refine i_new (by show 2 ≤ 100000; omega) fun p13 n13 => ?_
  obtain ⟨A1, x1, al⟩ := grow2 x1 al n13 (l := [119, 114, 119]) (m := [119, 114, 119]) (by decide) (by decide)
  generalize upd H0123456789101112 p13 (.tup [S [119, 114, 119], S [119, 114, 119]]) = H012345678910111213 at *
  walk_at "go"
  refine i_new (by show 2 ≤ 100000; omega) fun p14 n14 => ?_
  obtain ⟨A1, x1, al⟩ := grow2 x1 al n14 (l := [114, 114, 46, 46]) (m := [50, 114, 46, 46]) (by decide) (by decide)
  generalize upd H012345678910111213 p14 (.tup [S [114, 114, 46, 46], S [50, 114, 46, 46]]) = H01234567891011121314 at *
  walk_at "go"
  refine i_new (by show 2 ≤ 100000; omega) fun p15 n15 => ?_
  obtain ⟨A1, x1, al⟩ := grow2 x1 al n15 (l := [46, 46, 114, 114]) (m := [46, 46, 50, 114]) (by decide) (by decide)
  generalize upd H01234567891011121314 p15 (.tup [S [46, 46, 114, 114], S [46, 46, 50, 114]]) = H0123456789101112131415 at *
  walk_at "go"
  refine i_new (by show 2 ≤ 100000; omega) fun p16 n16 => ?_
  obtain ⟨A1, x1, al⟩ := grow2 x1 al n16 (l := [114, 46, 114, 46, 114, 46, 114, 46]) (m := [52, 40, 114, 46, 41]) (by decide) (by decide)
  generalize upd H0123456789101112131415 p16 (.tup [S [114, 46, 114, 46, 114, 46, 114, 46], S [52, 40, 114, 46, 41]]) = H012345678910111213141516 at *
  walk_at "go"
  refine i_new (by show 2 ≤ 100000; omega) fun p17 n17 => ?_
  obtain ⟨A1, x1, al⟩ := grow2 x1 al n17 (l := [119, 46, 119, 119, 119]) (m := [119, 46, 51, 119]) (by decide) (by decide)
  generalize upd H012345678910111213141516 p17 (.tup [S [119, 46, 119, 119, 119], S [119, 46, 51, 119]]) = H01234567891011121314151617 at *
  walk_at "go"
  refine i_new (by show 2 ≤ 100000; omega) fun p18 n18 => ?_
  obtain ⟨A1, x1, al⟩ := grow2 x1 al n18 (l := [119, 46, 46, 46, 46, 46, 46, 46, 46, 46, 46, 46, 46, 46, 46, 46, 46, 46, 46, 46, 46, 46, 46, 46]) (m := [119, 50, 51, 46]) (by decide) (by decide)
  generalize upd H01234567891011121314151617 p18 (.tup [S [119, 46, 46, 46, 46, 46, 46, 46, 46, 46, 46, 46, 46, 46, 46, 46, 46, 46, 46, 46, 46, 46, 46, 46], S [119, 50, 51, 46]]) = H0123456789101112131415161718 at *
  walk_at "go"
  refine i_new (by show 19 ≤ 100000; omega) fun L nL => ?_
  exact q _ _ _ (x1.new nL) (.lst upd_same (by show 19 ≤ 10000; decide) (al.same (same_upd (x1.ag.free nL))))
end
section
variable {P : Program} {w : World} {K : PySem.W.Frag} {mg : Str → Option Value} {base : Heap} {C_GlimError C_BadRound C_BadText C_BadLine C_BadWay C_TooLong C_Lines C_NUMBERED : Addr}
def swapD : PyData → Option PyData
  | .tuple [a, b] => some (.tuple [b, a])
  | _ => none
def p_L_pool : Hp → VK → XK → Prop := fun H Q _ => ∃ A, Same A H ∧ ∀ A' H' v, Ext A H A' H' → At A' v (.list (POOL.map poolD)) → Q v H'
theorem ok_L_pool (T : Txt K mg w C_GlimError C_BadRound C_BadText C_BadLine C_BadWay C_TooLong C_Lines C_NUMBERED) : OK P w K mg base CX0 2 "_law_pool" [] (sp0  p_L_pool) := by
  refine OK.mk (k := 1) T.d_L_pool sc_L_pool Fg.len0 fun f cdv A outer s H vs Q E hr h => ?_
  obtain ⟨rfl, h⟩ := h
  refine ⟨_, (pss_cons (ps_setLc (i := 0) (own := [("_law_pair", 2)]) (g := gName 2) (tt := tYes) (by rfl) sc_L_pool.nd rfl rfl (sw_true rfl rfl rfl (by decide +kernel)) (piAny K (Fg.pe_f0 (ok_L_folds (K := K) T) (hr.mono (by decide)) pass0)) (blkOk_by (own := [("_law_pair", 2)]) (N := ["_law_words", "_law_word", "_law_pair"]) (sc := (defScope s_L_pool)) (by decide +kernel)) (fun _ _ _ _ _ => (pg_name (i := 2) sc_L_pool.nd rfl (Or.inl rfl))) (fun _ _ _ _ _ => pts_nil) (fun _ _ _ _ _ => (pe_tup (pa_cons (pe_ix (ixK K) (pv 2) pe_int (fun _ _ => rfl)) (pa_cons (pe_ix (ixK K) (pv 2) pe_int (fun _ _ => rfl)) pa_nil))))) (pss_cons (ps_expr (Fg.peExtL K (pv 0) (pa_cons (pe_lst (pa_cons (pe_tup (pa_cons (pe_S [119, 64, 51]) (pa_cons (pe_S [119, 46, 46]) pa_nil))) (pa_cons (pe_tup (pa_cons (pe_S [50, 40, 119, 46, 41, 64, 49, 48]) (pa_cons (pe_S [119, 46, 119, 46, 46, 46, 46, 46, 46, 46]) pa_nil))) (pa_cons (pe_tup (pa_cons (pe_S [51, 40, 50, 119, 46, 41, 114, 38, 46]) (pa_cons (pe_S [119, 119, 46, 119, 119, 46, 119, 119, 46, 114]) pa_nil))) (pa_cons (pe_tup (pa_cons (pe_S [119, 46, 38, 46, 114, 46]) (pa_cons (pe_S [119, 114, 119, 46, 119, 46]) pa_nil))) (pa_cons (pe_tup (pa_cons (pe_S [46, 46, 46, 46]) (pa_cons (pe_S [46, 46, 46, 46]) pa_nil))) (pa_cons (pe_tup (pa_cons (pe_S [103, 46, 114, 119]) (pa_cons (pe_S [103, 46, 114, 119]) pa_nil))) (pa_cons (pe_tup (pa_cons (pe_S [119, 119, 119, 119]) (pa_cons (pe_S [119, 119, 119, 119]) pa_nil))) (pa_cons (pe_tup (pa_cons (pe_S [50, 46]) (pa_cons (pe_S [46, 46]) pa_nil))) (pa_cons (pe_tup (pa_cons (pe_S [114, 103]) (pa_cons (pe_S [114, 103]) pa_nil))) (pa_cons (pe_tup (pa_cons (pe_S [103, 103, 46, 114, 114]) (pa_cons (pe_S [103, 103, 46, 114, 114]) pa_nil))) pa_nil))))))))))) pa_nil))) (pss_cons (ps_for PassesOwn.never rfl (piAny K (pe_lst (pa_cons (pe_S []) (pa_cons (pe_S [120]) (pa_cons (pe_S [48]) (pa_cons (pe_S [48, 48]) (pa_cons (pe_S [48, 53]) (pa_cons (pe_S [49]) (pa_cons (pe_S [50]) (pa_cons (pe_S [51]) (pa_cons (pe_S [52]) (pa_cons (pe_S [53]) (pa_cons (pe_S [57]) (pa_cons (pe_S [49, 48]) (pa_cons (pe_S [49, 49]) (pa_cons (pe_S [45, 51]) (pa_cons (pe_S [43, 51]) (pa_cons (pe_S [48, 50]) (pa_cons (pe_S [103, 108, 97, 115, 115]) (pa_cons (pe_S [108, 97, 109, 101]) (pa_cons (pe_S [115, 116, 97, 110, 100, 105, 110]) (pa_cons (pe_S [114, 101, 115, 116, 97, 114, 116]) (pa_cons (pe_S [115, 108, 105, 112]) (pa_cons (pe_S [83, 108, 105, 112]) (pa_cons (pe_S [49, 119]) (pa_cons (pe_S [50, 53, 119]) (pa_cons (pe_S [50, 52, 119, 50, 52, 119]) (pa_cons (pe_S [40, 119, 41]) (pa_cons (pe_S [119, 38]) (pa_cons (pe_S [119, 64]) (pa_cons (pe_S [119, 119, 64, 49]) (pa_cons (pe_S [119, 41]) (pa_cons (pe_S [50, 40, 119]) (pa_cons (pe_S [50, 40, 41]) (pa_cons (pe_S [103, 46, 120, 119]) (pa_cons (pe_op op_mulP (pe_S [119]) pe_int) (pa_cons (pe_S [101, 110, 100]) (pa_cons (pe_S [45]) pa_nil)))))))))))))))))))))))))))))))))))))) (pg_name (i := 1) sc_L_pool.nd rfl (Or.inl rfl)) (pss_one (ps_expr (peApp K (pv 0) (pa_cons (pe_tup (pa_cons (pv 1) (pa_cons pe_non pa_nil))) pa_nil))))) (pss_one (ps_ret (pv 0)))))), ?_⟩
  show (_ : TS) { nx := fun _ H' => Q .non H', rt := Q } [none, none, none] H
  obtain ⟨A0, sa, q⟩ := h
  walk_at "go"
  refine i_lcOver (fun a G => ∃ A1 xs, Ext A0 H A1 G ∧ A1 a = some (.lst xs) ∧ xs.length ≤ 10000 ∧ AtAll A1 xs (FOLDS.map foldD)) (fun R k => ?_) (fun a G h => ?_)
  · walk_at "go"
    refine i_sp0 ⟨A0, sa, fun A' H' v x hv => ?_⟩
    obtain ⟨a, xs, rfl, ea, hl, al⟩ := hv.listed
    exact k a H' ⟨A', xs, x, ea, hl, al⟩
  · obtain ⟨A1, xs, x1, ea, hl, al⟩ := h
    refine c_lstH x1.ag (fun R k => k) (.inl (.inl (x1.ag _ _ ea))) al hl swapD (fun _ => rfl) (fun y d A2 G2 hd hy y2 QV QN kv kn => ?_) (fun Dl G1 hid => ?_)
    · refine i_yes ?_
      rw [if_pos rfl]
      obtain ⟨e, he, rfl⟩ := List.mem_map.mp hd
      obtain ⟨b, zs, rfl, hb, hzl, alz⟩ := hy.tupled
      cases alz with
      | cons az alz =>
      cases alz with
      | cons bz alz =>
      cases alz
      rename_i z0 z1
      show (_ : TE) [none, none, some (.ref b)] G2 QV
      walk_at "go"
      refine i_ix_tup (v := z1) (.inl (.inl (y2.ag _ _ hb))) (atI_int (by decide) rfl) ?_
      walk_at "go"
      refine i_ix_tup (v := z0) (.inl (.inl (y2.ag _ _ hb))) (atI_int (by decide) rfl) ?_
      walk_at "go"
      refine i_new (by show 2 ≤ 100000; omega) fun p np => ?_
      have na := y2.ag.free np
      exact kv _ _ _ _ rfl ((Ext.refl y2.ag).new np) (At.mkTup upd_same (.cons (bz.same (same_upd na)) (.one (az.same (same_upd na)))) (by show 2 ≤ 10000; decide))
    · obtain ⟨A30, l3, x30, eD, al0, ll, k3⟩ := hid.op
      clear hid
      have l19 : l3.length = 19 := ll.trans (by rfl)
      walk_at "go"
      refine i_ext ?_
      walk_at "go"
      refine i_appAt eD ?_
      have al3 : AtAll A30 [] [] := .nil
      have x3 := Ext.refl x30.ag
      walk_at "go"
      refine i_new (by show 2 ≤ 100000; omega) fun p0 n0 => ?_
      obtain ⟨A3, x3, al3⟩ := grow2 x3 al3 n0 (l := [119, 64, 51]) (m := [119, 46, 46]) (by decide) (by decide)
      generalize upd G1 p0 (.tup [S [119, 64, 51], S [119, 46, 46]]) = G10 at *
      walk_at "go"
      refine i_new (by show 2 ≤ 100000; omega) fun p1 n1 => ?_
      obtain ⟨A3, x3, al3⟩ := grow2 x3 al3 n1 (l := [50, 40, 119, 46, 41, 64, 49, 48]) (m := [119, 46, 119, 46, 46, 46, 46, 46, 46, 46]) (by decide) (by decide)
      generalize upd G10 p1 (.tup [S [50, 40, 119, 46, 41, 64, 49, 48], S [119, 46, 119, 46, 46, 46, 46, 46, 46, 46]]) = G101 at *
      walk_at "go"
      refine i_new (by show 2 ≤ 100000; omega) fun p2 n2 => ?_
      obtain ⟨A3, x3, al3⟩ := grow2 x3 al3 n2 (l := [51, 40, 50, 119, 46, 41, 114, 38, 46]) (m := [119, 119, 46, 119, 119, 46, 119, 119, 46, 114]) (by decide) (by decide)
      generalize upd G101 p2 (.tup [S [51, 40, 50, 119, 46, 41, 114, 38, 46], S [119, 119, 46, 119, 119, 46, 119, 119, 46, 114]]) = G1012 at *
      walk_at "go"
      refine i_new (by show 2 ≤ 100000; omega) fun p3 n3 => ?_
      obtain ⟨A3, x3, al3⟩ := grow2 x3 al3 n3 (l := [119, 46, 38, 46, 114, 46]) (m := [119, 114, 119, 46, 119, 46]) (by decide) (by decide)
      generalize upd G1012 p3 (.tup [S [119, 46, 38, 46, 114, 46], S [119, 114, 119, 46, 119, 46]]) = G10123 at *
      walk_at "go"
      refine i_new (by show 2 ≤ 100000; omega) fun p4 n4 => ?_
      obtain ⟨A3, x3, al3⟩ := grow2 x3 al3 n4 (l := [46, 46, 46, 46]) (m := [46, 46, 46, 46]) (by decide) (by decide)
      generalize upd G10123 p4 (.tup [S [46, 46, 46, 46], S [46, 46, 46, 46]]) = G101234 at *
      walk_at "go"
      refine i_new (by show 2 ≤ 100000; omega) fun p5 n5 => ?_
      obtain ⟨A3, x3, al3⟩ := grow2 x3 al3 n5 (l := [103, 46, 114, 119]) (m := [103, 46, 114, 119]) (by decide) (by decide)
      generalize upd G101234 p5 (.tup [S [103, 46, 114, 119], S [103, 46, 114, 119]]) = G1012345 at *
      walk_at "go"
      refine i_new (by show 2 ≤ 100000; omega) fun p6 n6 => ?_
      obtain ⟨A3, x3, al3⟩ := grow2 x3 al3 n6 (l := [119, 119, 119, 119]) (m := [119, 119, 119, 119]) (by decide) (by decide)
      generalize upd G1012345 p6 (.tup [S [119, 119, 119, 119], S [119, 119, 119, 119]]) = G10123456 at *
      walk_at "go"
      refine i_new (by show 2 ≤ 100000; omega) fun p7 n7 => ?_
      obtain ⟨A3, x3, al3⟩ := grow2 x3 al3 n7 (l := [50, 46]) (m := [46, 46]) (by decide) (by decide)
      generalize upd G10123456 p7 (.tup [S [50, 46], S [46, 46]]) = G101234567 at *
      walk_at "go"
      refine i_new (by show 2 ≤ 100000; omega) fun p8 n8 => ?_
      obtain ⟨A3, x3, al3⟩ := grow2 x3 al3 n8 (l := [114, 103]) (m := [114, 103]) (by decide) (by decide)
      generalize upd G101234567 p8 (.tup [S [114, 103], S [114, 103]]) = G1012345678 at *
      walk_at "go"
      refine i_new (by show 2 ≤ 100000; omega) fun p9 n9 => ?_
      obtain ⟨A3, x3, al3⟩ := grow2 x3 al3 n9 (l := [103, 103, 46, 114, 114]) (m := [103, 103, 46, 114, 114]) (by decide) (by decide)
      generalize upd G1012345678 p9 (.tup [S [103, 103, 46, 114, 114], S [103, 103, 46, 114, 114]]) = G10123456789 at *
      walk_at "go"
      refine i_new (by show 10 ≤ 100000; omega) fun L nL => ?_
      obtain ⟨eD2, _, k4⟩ := k3 _ _ (x3.hid nL)
      have hid5 := k4 _ _ ((al0.same x3.aa).app al3)
      walk_at "go"
      refine ⟨Dl, L, l3, _, rfl, rfl, eD2, upd_same, by rw [l19]; exact Nat.le_trans (show 19 + 10 ≤ 100000 by decide) (by decide), ?_⟩
      clear k3 k4 eD eD2 al0 al3
      walk_at "go"
      refine i_mul_strI (by decide) (by decide) ?_
      rw [show (List.replicate ((25 : Int)).toNat [119]).flatten = List.replicate 25 119 from rfl]
      walk_at "go"
      refine i_new (by show 36 ≤ 100000; omega) fun wl nwl => ?_
      have hid6 := hid5.hid (o := .lst (POOL3.map S)) nwl
      clear hid5
      have nwD : wl ≠ Dl := fun z => by rw [z, upd_same] at nwl; cases nwl
      refine Fg.i_forL (xs := POOL3.map S) (.inl (.inl upd_same)) (fun i σ H' => ∃ v1, σ = [some (.ref Dl), v1, none] ∧ Hid A1 G Dl (((FOLDS.map foldD).filterMap swapD ++ ([] ++ POOL2.map foldD)) ++ (POOL3.take i).map fun w => poolD (w, none)) H' ∧ H' wl = some (.lst (POOL3.map S)))
        ⟨none, rfl, ?_, upd_same⟩ (fun i σ' H' _ p => ?_) ?_ ?_
      · rw [List.take_zero, List.map_nil, List.append_nil]
        exact hid6
      · obtain ⟨v1, rfl, h7, e7⟩ := p
        exact .inl (.inl e7)
      · rintro i x σ H' hx ⟨v1, rfl, hid7, ewl⟩
        obtain ⟨w, hw, rfl⟩ : ∃ w, POOL3[i]? = some w ∧ S w = x := by
          rw [List.getElem?_map] at hx
          obtain ⟨w, hw, e⟩ := Option.map_eq_some_iff.mp hx
          exact ⟨w, hw, e⟩
        have wl25 : w.length ≤ 25 := by
          have : ∀ w ∈ POOL3, w.length ≤ 25 := by decide +kernel
          exact this w (List.mem_of_getElem? hw)
        obtain ⟨A7, l7, x7, e7, al7, ll7, k7⟩ := hid7.op
        walk_at "go"
        refine i_appAt e7 ?_
        walk_at "go"
        refine i_new (by show 2 ≤ 100000; omega) fun p np => ?_
        obtain ⟨e8, _, k8⟩ := k7 _ _ ((Ext.refl x7.ag).new (o := .tup [S w, .non]) np)
        have na := x7.ag.free np
        have hpw : p ≠ wl := fun z => by rw [z, ewl] at np; cases np
        have l7s : l7.length ≤ 1000 := by
          rw [ll7, List.length_append, List.length_map, List.length_take]
          have : POOL3.length = 36 := rfl
          have : ((FOLDS.map foldD).filterMap swapD ++ ([] ++ POOL2.map foldD)).length = 29 := rfl
          omega
        walk_at "go"
        refine i_appEnd e8 (by omega) ?_
        refine ⟨_, rfl, ?_, ?_⟩
        · have h9 := k8 _ _ ((al7.same (same_upd na)).app (.one (At.mkTup (ds := [dS w, .none]) upd_same (.cons (.str _ (by omega)) (.one .non)) (by show 2 ≤ 10000; decide))))
          rw [List.take_succ, hw, List.map_append, ← List.append_assoc]
          exact h9
        · rw [upd_ne nwD, upd_ne hpw.symm]
          exact ewl
      · rintro σ H' ⟨v1, rfl, hid8, _⟩
        rw [List.length_map, List.take_length] at hid8
        obtain ⟨A9, l9, x9, e9, _, _, at9, _⟩ := hid8.cl x1.ag (by
          rw [List.length_append, List.length_map]
          have : POOL3.length = 36 := rfl
          have : ((FOLDS.map foldD).filterMap swapD ++ ([] ++ POOL2.map foldD)).length = 29 := rfl
          omega)
        walk_at "go"
        exact q _ _ _ (x1.trans x9) at9
end
inductive GoodY : PyData → Prop where
  | gl {l : List Nat} (h : l.length = 4) (r : ∀ c ∈ l, c ∈ SG) : GoodY (.tuple [dS cGlass, dS l])
  | rd {e : List Nat × List Nat} (h : e ∈ FOLDS) : GoodY (.tuple [dS cStand, dS e.1])
  | nm {k : List Nat} {n : Nat} (h : k = cLame ∧ 2 ≤ n ∧ n ≤ 4 ∨ k = cRest ∧ 1 ≤ n ∧ n ≤ 3 ∨ k = cSlip ∧ 2 ≤ n ∧ n ≤ 9) : GoodY (.tuple [dS k, .int (n : Int)])
theorem GoodY.way {d : PyData} (h : GoodY d) : ∃ k v, d = .tuple [dS k, v] ∧ WayF k v := by
  cases h with
  | gl h r => exact ⟨_, _, rfl, .gl h r⟩
  | @rd e h =>
    obtain ⟨a, b, c⟩ := folds_rnd e h
    exact ⟨_, _, rfl, .rd ⟨a, b, c⟩⟩
  | nm h => exact ⟨_, _, rfl, .nm h⟩
def selD (r : List Nat) : PyData → Option PyData
  | .tuple [.str a, b] => if a.cps.toList = r then some b else none
  | _ => none
theorem sel_fold1 : ∀ p ∈ FOLDS, (FOLDS.filterMap fun e => if e.1 = p.1 then some e.2 else none) = [p.2] := by decide +kernel
theorem sel_fold {p : List Nat × List Nat} (h : p ∈ FOLDS) : (FOLDS.map foldD).filterMap (selD p.1) = [dS p.2] := by
  have h1 := congrArg (List.map dS) (sel_fold1 p h)
  rw [List.map_filterMap] at h1
  rw [List.filterMap_map]
  refine Eq.trans (fm_congr fun e _ => ?_) h1
  show (if e.1 = p.1 then some (dS e.2) else none) = Option.map dS (if e.1 = p.1 then some e.2 else none)
  split <;> rfl
section
variable {P : Program} {w : World} {K : PySem.W.Frag} {mg : Str → Option Value} {base : Heap} {C_GlimError C_BadRound C_BadText C_BadLine C_BadWay C_TooLong C_Lines C_NUMBERED : Addr}
def p_L_drawn (K : PySem.W.Frag) : P1 := fun x H Q _ => ∃ A d f, x = .ref d.a ∧ D2 K d f A H ∧ ∀ e A' H' v, Same A A' → D2 K d f A' H' → At A' v e → GoodY e → Q v H'
theorem ok_L_drawn_way (T : Txt K mg w C_GlimError C_BadRound C_BadText C_BadLine C_BadWay C_TooLong C_Lines C_NUMBERED) : OK P w K mg base CX0 4 "_law_drawn_way" ["_law_draw_here"] (sp1  (p_L_drawn K)) := by
  refine OK.mk (k := 3) T.d_L_drawn_way sc_L_drawn_way len1 fun f cdv A outer s H vs Q E hr h => ?_
  obtain ⟨x, rfl, h⟩ := h
  refine ⟨_, (pss_cons (ps_set (i := 1) sc_L_drawn_way.nd rfl (Or.inl rfl) (pe_f (ok_L_pick (K := K) T) (hr.mono (by decide)) pass0 (pa_cons (pv 0) (pa_cons pe_int pa_nil)))) (pss_cons (ps_if (pt_cmpR (opEq K hr.units) (pv 1) pe_int (nomark _)) (pss_one (ps_ret (pe_tup (pa_cons (pe_S [103, 108, 97, 115, 115]) (pa_cons (pe_f (ok_L_glass (K := K) T) (hr.mono (by decide)) pass0 (pa_cons (pv 0) pa_nil)) pa_nil))))) pss_nil) (pss_cons (ps_if (pt_cmpR (opEq K hr.units) (pv 1) pe_int (nomark _)) (pss_one (ps_ret (pe_tup (pa_cons (pe_S [108, 97, 109, 101]) (pa_cons (pe_op (opAdd K) pe_int (pe_f (ok_L_pick (K := K) T) (hr.mono (by decide)) pass0 (pa_cons (pv 0) (pa_cons pe_int pa_nil)))) pa_nil))))) pss_nil) (pss_cons (ps_if (pt_cmpR (opEq K hr.units) (pv 1) pe_int (nomark _)) (pss_cons (ps_set (i := 2) sc_L_drawn_way.nd rfl (Or.inl rfl) (Fg.pe_f0 (ok_L_folds (K := K) T) (hr.mono (by decide)) pass0)) (pss_one (ps_ret (pe_tup (pa_cons (pe_S [115, 116, 97, 110, 100, 105, 110]) (pa_cons (pe_ix (ixK K) (pe_ix (ixK K) (pv 2) (pe_f (ok_L_pick (K := K) T) (hr.mono (by decide)) pass0 (pa_cons (pv 0) (pa_cons (pe_callB (cLen K) (by rfl) T.b_len (by decide +kernel) (pa_cons (pv 2) pa_nil)) pa_nil))) (fun _ _ => rfl)) pe_int (fun _ _ => rfl)) pa_nil)))))) pss_nil) (pss_cons (ps_if (pt_cmpR (opEq K hr.units) (pv 1) pe_int (nomark _)) (pss_one (ps_ret (pe_tup (pa_cons (pe_S [114, 101, 115, 116, 97, 114, 116]) (pa_cons (pe_op (opAdd K) pe_int (pe_f (ok_L_pick (K := K) T) (hr.mono (by decide)) pass0 (pa_cons (pv 0) (pa_cons pe_int pa_nil)))) pa_nil))))) pss_nil) (pss_one (ps_ret (pe_tup (pa_cons (pe_S [115, 108, 105, 112]) (pa_cons (pe_op (opAdd K) pe_int (pe_f (ok_L_pick (K := K) T) (hr.mono (by decide)) pass0 (pa_cons (pv 0) (pa_cons pe_int pa_nil)))) pa_nil)))))))))), ?_⟩
  show (_ : TS) { nx := fun _ H' => Q .non H', rt := Q } [some x, none, none] H
  obtain ⟨A0, d, f, rfl, dr, q⟩ := h
  have fin : ∀ {A G : Hp} {k : List Nat} {v : V} {e : PyData}, Same A0 A → D2 K d f A G → At A v e → k.length ≤ 10 → GoodY (.tuple [dS k, e]) → ∀ p, G p = none → Q (.ref p) (upd G p (.tup [S k, v])) := fun s d1 av hk g p np =>
    q _ _ _ _ (s.trans (same_upd (d1.free np))) (d1.new np) (At.mkTup upd_same (.cons (.str _ (by omega)) (.one (av.same (same_upd (d1.free np))))) (by show 2 ≤ 10000; decide)) g
  have num : ∀ {A G : Hp} {k : List Nat} {lo n many : Int}, Same A0 A → D2 K d f A G → k.length ≤ 10 → Btw n many → 2 ≤ many → many ≤ 8 → 1 ≤ lo → lo ≤ 2 → (∀ m : Nat, lo ≤ (m : Int) → (m : Int) < lo + many → k = cLame ∧ 2 ≤ m ∧ m ≤ 4 ∨ k = cRest ∧ 1 ≤ m ∧ m ≤ 3 ∨ k = cSlip ∧ 2 ≤ m ∧ m ≤ 9) → ∀ p, G p = none → Q (.ref p) (upd G p (.tup [S k, .int (lo + n)])) := fun {A G k lo n many} s d1 hk b m1 m2 l1 l2 hg p np => by
    have b0 := b.1
    have b1 := b.2.1 m1
    obtain ⟨m, hm⟩ := Int.eq_ofNat_of_zero_le (show 0 ≤ lo + n by omega)
    rw [hm]
    exact fin s d1 (.int _) hk (.nm (hg m (by omega) (by omega))) p np
  walk_at "go"
  refine pick2 dr (by decide) fun n H1 d1 b => ?_
  walk_at "go"
  refine i_dec (fun e0 => ?_) (fun e0 => ?_)
  · walk_at "go"
    refine ⟨A0, d, f, rfl, d1, fun l A2 H2 s2 d2 h4 hr => ?_⟩
    walk_at "go"
    refine i_new (by show 2 ≤ 100000; omega) ?_
    exact fin s2 d2 (.str _ (by omega)) (by decide) (.gl h4 hr)
  walk_at "go"
  refine i_dec (fun e1 => ?_) (fun e1 => ?_)
  · walk_at "go"
    refine pick2 d1 (by decide) fun n H2 d2 b => ?_
    walk_at "go"
    refine i_new (by show 2 ≤ 100000; omega) ?_
    exact num (Same.refl _) d2 (by decide) b (by decide) (by decide) (by decide) (by decide) fun m h1 h2 => .inl ⟨rfl, by omega, by omega⟩
  walk_at "go"
  refine i_dec (fun e2 => ?_) (fun e2 => ?_)
  · walk_at "go"
    refine i_sp0 ⟨A0, d1.1, fun A2 H2 v x2 hv => ?_⟩
    have d2 := d1.ext x2
    obtain ⟨a, xs, rfl, ea, hl, al⟩ := hv.listed
    have ll : xs.length = 19 := al.len.trans (by rfl)
    walk_at "go"
    refine i_len_lst (.inl (.inl (d2.old ea))) ?_
    rw [ll]
    walk_at "go"
    refine pick2 d2 (by decide) fun n H3 d3 b => ?_
    have b0 := b.1
    have b1 := b.2.1 (by decide)
    obtain ⟨m, rfl⟩ := Int.eq_ofNat_of_zero_le b0
    have hm : m < 19 := by have : ((m : Int)) < ((19 : Nat) : Int) := b1; omega
    obtain ⟨e, he, ed⟩ : ∃ e, FOLDS[m]? = some e ∧ (FOLDS.map foldD)[m]? = some (foldD e) := by
      have hm2 : m < FOLDS.length := hm
      exact ⟨FOLDS[m], List.getElem?_eq_getElem hm2, by rw [List.getElem?_map, List.getElem?_eq_getElem hm2]; rfl⟩
    obtain ⟨y, hy, ay⟩ := al.at ed
    obtain ⟨c, zs, rfl, ec, _, az⟩ := ay.tupled
    cases az with
    | cons a0 az =>
    cases az with
    | cons a1 az =>
    cases az
    have a0' := a0.strd
    subst a0'
    refine i_ix_lst (.inl (.inl (d3.old ea))) (atI_nat hy) ?_
    walk_at "go"
    refine i_ix_tup (v := S e.1) (.inl (.inl (d3.old ec))) (atI_int (by decide) rfl) ?_
    walk_at "go"
    refine i_new (by show 2 ≤ 100000; omega) ?_
    exact fin x2.aa d3 a0 (by decide) (.rd (List.mem_of_getElem? he))
  walk_at "go"
  refine i_dec (fun e3 => ?_) (fun e3 => ?_)
  · walk_at "go"
    refine pick2 d1 (by decide) fun n H2 d2 b => ?_
    walk_at "go"
    refine i_new (by show 2 ≤ 100000; omega) ?_
    exact num (Same.refl _) d2 (by decide) b (by decide) (by decide) (by decide) (by decide) fun m h1 h2 => .inr (.inl ⟨rfl, by omega, by omega⟩)
  walk_at "go"
  refine pick2 d1 (by decide) fun n H2 d2 b => ?_
  walk_at "go"
  refine i_new (by show 2 ≤ 100000; omega) ?_
  exact num (Same.refl _) d2 (by decide) b (by decide) (by decide) (by decide) (by decide) fun m h1 h2 => .inr (.inr ⟨rfl, by omega, by omega⟩)
def p_L_written : P1 := fun x H Q _ => ∃ e, At H x e ∧ GoodY e ∧ ∀ H', Same H H' → Q (S (lnW e)) H'
theorem ok_L_written (T : Txt K mg w C_GlimError C_BadRound C_BadText C_BadLine C_BadWay C_TooLong C_Lines C_NUMBERED) : OK P w K mg base CX0 2 "_law_written" ["_law_way"] (sp1  p_L_written) := by
  refine OK.mk (k := 1) T.d_L_written sc_L_written len1 fun f cdv A outer s H vs Q E hr h => ?_
  obtain ⟨x, rfl, h⟩ := h
  refine ⟨_, (pss_cons (ps_if (pt_cmpR (opNe K hr.units) (pe_ix (ixK K) (pv 0) pe_int (fun _ _ => rfl)) (pe_S [115, 116, 97, 110, 100, 105, 110]) (nomark _)) (pss_one (ps_ret (pe_op (opAdd K) (pe_op (opAdd K) (pe_ix (ixK K) (pv 0) pe_int (fun _ _ => rfl)) (pe_S [32])) (pe_callTy call_strP (by rfl) T.b_str (by decide +kernel) (pa_cons (pe_ix (ixK K) (pv 0) pe_int (fun _ _ => rfl)) pa_nil))))) pss_nil) (pss_one (ps_ret (pe_op (opAdd K) (pe_S [115, 116, 97, 110, 100, 105, 110, 32]) (pe_ix (ixK K) (pe_lc (own := [("_law_pair", 1)]) (g := gName 1) (by rfl) sc_L_written.nd (piAny K (Fg.pe_f0 (ok_L_folds (K := K) T) (hr.mono (by decide)) pass0)) (blkOk_by (own := [("_law_pair", 1)]) (N := ["_law_way", "_law_pair"]) (sc := (defScope s_L_written)) (by decide +kernel)) (fun _ _ _ _ _ => (pg_name (i := 1) sc_L_written.nd rfl (Or.inl rfl))) (fun _ _ _ _ _ => (pts_one (pt_cmpR (opEq K hr.units) (pe_ix (ixK K) (pv 1) pe_int (fun _ _ => rfl)) (pe_ix (ixK K) (pv 0) pe_int (fun _ _ => rfl)) (nomark _)))) (fun _ _ _ _ _ => (pe_ix (ixK K) (pv 1) pe_int (fun _ _ => rfl)))) pe_int (fun _ _ => rfl)))))), ?_⟩
  show (_ : TS) { nx := fun _ H' => Q .non H', rt := Q } [some x, none] H
  obtain ⟨e, hx, hg, q⟩ := h
  obtain ⟨k, v, rfl, hF⟩ := hg.way
  obtain ⟨a, xs, rfl, hH, hl, al⟩ := hx.tupled
  cases al with
  | cons ak al =>
  cases al with
  | cons av al =>
  cases al
  rename_i k0 v0
  obtain ⟨k', rfl, ek, _⟩ := ak.strl
  obtain rfl : k = k' := dS_inj (congrArg PyData.str ek)
  clear ek
  walk_at "go"
  refine i_decN (fun e0 => ?_) (fun e0 => ?_)
  · have q : ∀ H', Same H H' → Q (S (lnK k v)) H' := q
    unfold lnK at q
    rw [if_neg e0] at q
    cases hF with
    | gl h4 hr =>
      obtain ⟨l', rfl, e2, _⟩ := av.strl
      obtain rfl := dS_inj (congrArg PyData.str e2)
      walk_at "go"
      refine .inr ⟨_, rfl, ?_⟩
      exact i_add_str (by simp only [List.length_append, List.length_cons, List.length_nil]; omega) (q _ (Same.refl H))
    | rd hr => exact absurd rfl e0
    | @nm _ n hh =>
      obtain rfl := av.intd
      have hn : n < 100 := by omega
      have dl := dec_len n
      have hk9 : k.length ≤ 10 := by rcases hh with ⟨e, _⟩ | ⟨e, _⟩ | ⟨e, _⟩ <;> (have e : k = _ := e; rw [e]; decide)
      walk_at "go"
      refine num_str hn ?_
      have q2 := q _ (Same.refl H)
      rw [show txD (.int (n : Int)) = dec n from congrArg dec (Int.toNat_natCast n)] at q2
      exact i_add_str (by simp only [List.length_append, List.length_cons, List.length_nil]; omega) q2
  · obtain ⟨e, he, ev⟩ : ∃ e ∈ FOLDS, v = dS e.1 := by
      subst e0
      generalize hz : PyData.tuple [dS cStand, v] = z at hg
      cases hg with
      | gl h r =>
        injection hz with hz
        injection hz with hz _
        exact absurd (dS_inj hz) (by decide)
      | @rd e h =>
        injection hz with hz
        injection hz with _ hz
        injection hz with hz _
        exact ⟨e, h, hz⟩
      | nm h =>
        injection hz with hz
        injection hz with hz _
        have hz := dS_inj hz
        rcases h with ⟨e, _⟩ | ⟨e, _⟩ | ⟨e, _⟩ <;> (rw [e] at hz; exact absurd hz (by decide))
    subst ev
    subst e0
    have e2 : lnW (.tuple [dS cStand, dS e.1]) = cStand ++ [32] ++ e.2 := by
      show lnK cStand (dS e.1) = _
      unfold lnK
      rw [if_pos rfl]
      show cStand ++ [32] ++ fC e.1 = _
      rw [folds_ok e he]
    rw [e2] at q
    obtain ⟨l', rfl, e3, _⟩ := av.strl
    obtain rfl : e.1 = l' := dS_inj (congrArg PyData.str e3)
    have e25 : e.2.length ≤ 25 := by
      have : ∀ e ∈ FOLDS, e.2.length ≤ 25 := by decide +kernel
      exact this e he
    walk_at "go"
    refine i_lcOver (fun a G => ∃ A1 xs, Ext H H A1 G ∧ A1 a = some (.lst xs) ∧ xs.length ≤ 10000 ∧ AtAll A1 xs (FOLDS.map foldD)) (fun R k => ?_) (fun b G h => ?_)
    · walk_at "go"
      refine i_sp0 ⟨H, Same.refl _, fun A' H' v x hv => ?_⟩
      obtain ⟨b, xs, rfl, eb, hl, al⟩ := hv.listed
      exact k b H' ⟨A', xs, x, eb, hl, al⟩
    · obtain ⟨A1, xs, x1, eb, hl2, al⟩ := h
      refine c_lstH x1.ag (fun R k => k) (.inl (.inl (x1.ag _ _ eb))) al hl2 (selD e.1) (fun _ => rfl) (fun y d A2 G2 hd hy y2 QV QN kv kn => ?_) (fun Dl G1 hid => ?_)
      · obtain ⟨p, hp, rfl⟩ := List.mem_map.mp hd
        obtain ⟨c, zs, rfl, hc, hzl, alz⟩ := hy.tupled
        cases alz with
        | cons az alz =>
        cases alz with
        | cons bz alz =>
        cases alz
        rename_i z0 z1
        obtain ⟨p', rfl, ep, _⟩ := az.strl
        obtain rfl : p.1 = p' := dS_inj (congrArg PyData.str ep)
        have sG : Same H G2 := x1.gg.trans y2.gg
        have es : selD e.1 (foldD p) = if p.1 = e.1 then some (dS p.2) else none := rfl
        show (_ : TT) [some (.ref a), some (.ref c)] G2 _
        walk_at "go"
        refine i_ix_tup (v := S p.1) (.inl (.inl (y2.ag _ _ hc))) (atI_int (by decide) rfl) ?_
        walk_at "go"
        refine i_ix_tup (v := S e.1) (.inl (.inl (sG _ _ hH))) (atI_int (by decide) rfl) ?_
        walk_at "go"
        refine i_dec (fun e1 => ?_) (fun e1 => ?_)
        · show (_ : TE) [some (.ref a), some (.ref c)] G2 QV
          walk_at "go"
          refine i_ix_tup (v := z1) (.inl (.inl (y2.ag _ _ hc))) (atI_int (by decide) rfl) ?_
          exact kv _ _ _ (dS p.2) (by rw [es, if_pos e1]) (Ext.refl y2.ag) bz
        · exact kn (by rw [es, if_neg e1]) _ _ (Ext.refl y2.ag)
      · rw [sel_fold he] at hid
        obtain ⟨A3, l3, x3, e3, _, al3, _, _⟩ := hid.cl x1.ag (by show 1 ≤ 10000; decide)
        cases al3 with
        | cons a3 al3 =>
        cases al3
        rename_i z3
        obtain ⟨w, rfl, ew, _⟩ := a3.strl
        obtain rfl : e.2 = w := dS_inj (congrArg PyData.str ew)
        walk_at "go"
        exact q _ (x1.gg.trans x3.gg)
def p_listedN (n : Nat) : P1 := fun x H Q _ => ∃ A d, Same A H ∧ At A x d ∧ d.depth < n ∧ ∀ A' H' v, Ext A H A' H' → At A' v (listD d) → Q v H'
def isLstD : PyData → Bool
  | .list _ => true
  | _ => false
theorem i_isiLst {H : Hp} {Q : VK} {v : V} {d : PyData} (b : Bool) (h : At H v d) (e : isLstD d = b) (q : Q (.bl b) H) : rIsi K [v, .ty "list"] H Q := by
  subst e
  refine i_isiD h (kit_ty ?_) q
  cases d <;> (simp only [kindD, isLstD] ; decide +kernel)
theorem listed_n (T : Txt K mg w C_GlimError C_BadRound C_BadText C_BadLine C_BadWay C_TooLong C_Lines C_NUMBERED) (n : Nat) (R : OK P w K mg base CX0 n "_law_listed" ["_law_thing"] (sp1 (p_listedN n))) : OK P w K mg base CX0 (n + 1) "_law_listed" ["_law_thing"] (sp1 (p_listedN (n + 1))) := by
  refine OK.mk (k := n) T.d_L_listed sc_L_listed len1 fun f cdv A outer s H vs Q E hr h => ?_
  obtain ⟨x, rfl, h⟩ := h
  refine ⟨_, (pss_cons (ps_if (pw_or (pt_val (pe_callB (cIsi K) (by rfl) T.b_isinstance (by decide +kernel) (pa_cons (pv 0) (pa_cons (pe_bltn (v := .ty "tuple") (by rfl) T.b_tuple (by decide +kernel) rfl) pa_nil)))) (pw_or1 (pt_val (pe_callB (cIsi K) (by rfl) T.b_isinstance (by decide +kernel) (pa_cons (pv 0) (pa_cons (pe_bltn (v := .ty "list") (by rfl) T.b_list (by decide +kernel) rfl) pa_nil)))))).pt (pss_one (ps_ret (pe_lc (own := [("_law_part", 1)]) (g := gName 1) (tt := tYes) (by rfl) sc_L_listed.nd (piAny K (pv 0)) (blkOk_by (own := [("_law_part", 1)]) (N := ["_law_thing", "_law_part"]) (sc := (defScope s_L_listed)) (by decide +kernel)) (fun _ _ _ _ _ => (pg_name (i := 1) sc_L_listed.nd rfl (Or.inl rfl))) (fun _ _ _ _ _ => pts_nil) (fun _ _ _ _ _ => (pe_f R (hr.mono (by omega)) pass0 (pa_cons (pv 1) pa_nil)))))) pss_nil) (pss_one (ps_ret (pv 0)))), ?_⟩
  show (_ : TS) { nx := fun _ H' => Q .non H', rt := Q } [some x, none] H
  obtain ⟨A, d, sa, hx, dd, q⟩ := h
  walk_at "go"
  cases es : seqD d with
  | none =>
    have e1 : isTupD d = false ∧ isLstD d = false ∧ listD d = d := by
      cases d <;> first
        | exact ⟨rfl, rfl, rfl⟩
        | cases es
    refine i_isiTup false (hx.same sa) e1.1 ?_
    walk_at "go"
    refine i_isiLst false (hx.same sa) e1.2.1 ?_
    walk_at "go"
    rw [e1.2.2] at q
    exact q _ _ _ (Ext.refl sa) hx
  | some ds =>
    obtain ⟨a, xs, rfl, hl, al, hs⟩ := seq_at hx es
    have d1 : PyData.depthAll ds + 1 < n + 1 := by
      cases d <;> first
        | (cases es; exact dd)
        | cases es
    have el : listD d = .list (ds.map listD) := by
      cases d <;> first
        | (cases es; rw [← listDs_map]; rfl)
        | cases es
    rw [el] at q
    have hds := al.len
    have he : ∀ y d A1 G1, d ∈ ds → At A1 y d → Ext A H A1 G1 → ∀ QV : VK, (∀ A2 G2 v, Ext A1 G1 A2 G2 → At A2 v (listD d) → QV v G2) → (tCall (sp1 (p_listedN n)) [] E0 (tCons (tVar 1) tNil) : TE) [some (.ref a), some y] G1 QV := fun y d A1 G1 hd hy y1 QV k => by
      have d2 := depth_mem hd
      walk_at "go"
      exact ⟨A1, d, y1.ag, hy, by omega, k⟩
    have go : (tLc (iAny K (tVar 0)) (gName 1) tYes (tCall (sp1 (p_listedN n)) [] E0 (tCons (tVar 1) tNil)) [1] : TE) [some (.ref a), none] H fun y H2 => Q y H2 := by
      have fin : ∀ Dl A1 G1 l, Ext A H A1 G1 → A1 Dl = some (.lst l) → AtAll A1 l (ds.map listD) → Q (.ref Dl) G1 := fun Dl A1 G1 l y1 ea al2 => q _ _ _ y1 (At.mkLst ea al2 (by rw [List.length_map]; omega))
      rcases hs with hs | hs
      · exact Fg.c_lstD sa (fun R k => by walk_at "go"; exact k) (.inl (.inl (sa _ _ hs))) al hl listD (fun _ => rfl) (fun y d A1 G1 hd hy y1 QV k => he y d A1 G1 hd hy y1 QV k) (fun Dl A1 G1 l y1 e ea al2 ll => fin Dl A1 G1 l y1 ea al2)
      · exact c_tupD sa (fun R k => by walk_at "go"; exact k) (.inl (.inl (sa _ _ hs))) al hl listD (fun _ => rfl) (fun y d A1 G1 hd hy y1 QV k => he y d A1 G1 hd hy y1 QV k) (fun Dl A1 G1 l y1 e ea al2 ll => fin Dl A1 G1 l y1 ea al2)
    cases d with
    | tuple _ =>
      refine i_isiTup true (hx.same sa) rfl ?_
      walk_at "go"
      exact go
    | list _ =>
      refine i_isiTup false (hx.same sa) rfl ?_
      walk_at "go"
      refine i_isiLst true (hx.same sa) rfl ?_
      walk_at "go"
      exact go
    | _ => cases es
theorem listed_all (T : Txt K mg w C_GlimError C_BadRound C_BadText C_BadLine C_BadWay C_TooLong C_Lines C_NUMBERED) : ∀ n, OK P w K mg base CX0 n "_law_listed" ["_law_thing"] (sp1 (p_listedN n))
  | 0 => OK.weak (OK.never0 T.d_L_listed) fun vs H Q E h => by
    obtain ⟨_, _, _, _, _, _, z, _⟩ := h
    omega
  | n + 1 => listed_n T n (listed_all T n)
theorem ok_L_listed (T : Txt K mg w C_GlimError C_BadRound C_BadText C_BadLine C_BadWay C_TooLong C_Lines C_NUMBERED) : OK P w K mg base CX0 6 "_law_listed" ["_law_thing"] (sp1 (p_listedN 6)) := listed_all T 6
end
open PySem.NumText (AllDigits digitsVal)
theorem numIn19 (w : List Nat) : numIn 1 9 w = numW w := by
  unfold numIn
  cases en : numL w with
  | true =>
    obtain ⟨_, h1, h2⟩ := num_one en
    by_cases h : 1 ≤ digitsVal w ∧ digitsVal w ≤ 9
    · rw [if_pos ⟨rfl, by omega, by omega⟩, h1 h]
    · rw [if_neg (fun z => h ⟨by omega, by omega⟩), h2 h]
  | false =>
    rw [if_neg (fun z => by cases z.1)]
    cases e : numW w with
    | none => rfl
    | some v => rw [numW_L e] at en; cases en
theorem numW_long {w : List Nat} (h : w.length ≠ 1) : numW w = none := by
  match w, h with
  | [], _ => rfl
  | [c], h => exact absurd rfl h
  | a :: b :: r, _ => rfl
theorem isGl_count {w : List Nat} : isGl (dS w) = (decide (w.length = 4) && decide ((w.filter fun c => decide (c ∈ SG)).length = 4)) := by
  show (rowL 4 w && decide (w.length = 4)) = _
  by_cases h4 : w.length = 4
  case neg => rw [decide_eq_false h4, Bool.and_false, Bool.false_and]
  rw [decide_eq_true h4, Bool.and_true, Bool.true_and]
  unfold rowL
  rw [decide_eq_true (by omega), Bool.true_and]
  cases e : firstBad w with
  | none =>
    have h := rowL_row (m := 4) (l := w) (by unfold rowL; rw [decide_eq_true (by omega), e]; rfl)
    rw [List.filter_eq_self.mpr fun c hc => decide_eq_true (h.2 c hc), decide_eq_true h4]
    rfl
  | some n =>
    rw [decide_eq_false]
    · rfl
    · intro h
      have h2 : w.filter (fun c => decide (c ∈ SG)) = w := (List.filter_sublist).eq_of_length (by omega)
      rw [firstBad_none fun c hc => by
        have := List.filter_eq_self.mp h2 c hc
        exact of_decide_eq_true this] at e
      cases e
/-- what the law makes of a line's first two words -/
def lwD (k w : List Nat) : Option PyData := match forms k with
  | some [f] => fmD f w
  | _ => none
theorem lw_gl (w : List Nat) : lwD cGlass w = if isGl (dS w) = true then some (dS w) else none := rfl
theorem lw_rd (w : List Nat) : lwD cStand w = (rdP w).map dS := rfl
theorem lw_nu {k w : List Nat} (h : k = cLame ∨ k = cRest ∨ k = cSlip) : lwD k w = (numW w).map PyData.int := by
  rw [← numIn19]
  rcases h with rfl | rfl | rfl <;> rfl
theorem pool_no {w : List Nat} (h : ∀ k < POOL.length, ∀ e, POOL[k]? = some e → ¬ (e.1 = w ∧ e.2 ≠ none)) : POOL.find? (fun e => decide (e.1 = w) && e.2.isSome) = none := by
  rw [List.find?_eq_none]
  intro e he
  obtain ⟨k, hk, ek⟩ := List.mem_iff_getElem.mp he
  have := h k hk e (by rw [List.getElem?_eq_getElem hk, ek])
  intro z
  rw [Bool.and_eq_true, decide_eq_true_eq] at z
  exact this ⟨z.1, fun y => by rw [y] at z; cases z.2⟩
theorem pool_yes {w : List Nat} {i : Nat} {e : List Nat × Option (List Nat)} {r : List Nat} (he : POOL[i]? = some e) (h1 : e.1 = w) (h2 : e.2 = some r) (h : ∀ k < i, ∀ e, POOL[k]? = some e → ¬ (e.1 = w ∧ e.2 ≠ none)) : lawRd w = some r := by
  have hf : POOL.find? (fun e => decide (e.1 = w) && e.2.isSome) = some e := by
    obtain ⟨hi, ei⟩ := List.getElem?_eq_some_iff.mp he
    rw [List.find?_eq_some_iff_getElem]
    refine ⟨by rw [h2, decide_eq_true h1]; rfl, i, hi, ei, fun j hj => ?_⟩
    have := h j hj _ (List.getElem?_eq_getElem (by omega))
    rw [Bool.not_eq_true', Bool.and_eq_false_iff]
    by_cases z : (POOL[j]'(by omega)).1 = w
    · right
      cases e5 : (POOL[j]'(by omega)).2 with
      | none => rfl
      | some y => exact absurd ⟨z, by rw [e5]; simp⟩ this
    · left; exact decide_eq_false z
  unfold lawRd
  rw [hf]
  exact h2
theorem lawRd_none {w : List Nat} (h : ∀ k < POOL.length, ∀ e, POOL[k]? = some e → ¬ (e.1 = w ∧ e.2 ≠ none)) : lawRd w = if 1 ≤ w.length ∧ w.length ≤ 24 ∧ (w.filter fun c => decide (c ∈ SG)).length = w.length then some w else none := by
  unfold lawRd
  rw [pool_no h]
  have e1 : (w.all fun c => decide (c ∈ SG)) = decide ((w.filter fun c => decide (c ∈ SG)).length = w.length) := by
    rw [Bool.eq_iff_iff, decide_eq_true_eq, List.all_eq_true]
    constructor
    · intro z; rw [List.filter_eq_self.mpr z]
    · intro z
      exact List.filter_eq_self.mp ((List.filter_sublist).eq_of_length z)
  dsimp only
  rw [e1]
  by_cases h1 : 1 ≤ w.length ∧ w.length ≤ 24 ∧ (w.filter fun c => decide (c ∈ SG)).length = w.length
  · rw [if_pos h1, decide_eq_true h1.1, decide_eq_true h1.2.1, decide_eq_true h1.2.2]
    rfl
  · rw [if_neg h1, if_neg]
    intro z
    rw [Bool.and_eq_true, Bool.and_eq_true, decide_eq_true_eq, decide_eq_true_eq, decide_eq_true_eq] at z
    exact h1 z
section
variable {P : Program} {w : World} {K : PySem.W.Frag} {mg : Str → Option Value} {base : Heap} {C_GlimError C_BadRound C_BadText C_BadLine C_BadWay C_TooLong C_Lines C_NUMBERED : Addr}
def p_L_line_way : P1 := fun x H Q _ => ∃ (A : Hp) (a : Addr) (ws : List (List Nat)), Same A H ∧ x = .ref a ∧ H a = some (.lst (ws.map S)) ∧ 2 ≤ ws.length ∧ ws.getD 0 [] ∈ [cGlass, cLame, cStand, cRest, cSlip] ∧ Wd (ws.getD 1 []) ∧
  ∀ A' H' v, Ext A H A' H' → (match lwD (ws.getD 0 []) (ws.getD 1 []) with | none => v = .non | some d => At A' v (.tuple [dS (ws.getD 0 []), d])) → Q v H'
theorem ok_L_line_way (T : Txt K mg w C_GlimError C_BadRound C_BadText C_BadLine C_BadWay C_TooLong C_Lines C_NUMBERED) : OK P w K mg base CX0 3 "_law_line_way" ["_law_words"] (sp1  p_L_line_way) := by
  refine OK.mk (k := 2) T.d_L_line_way sc_L_line_way len1 fun f cdv A outer s H vs Q E hr h => ?_
  obtain ⟨x, rfl, h⟩ := h
  refine ⟨_, (pss_cons (ps_if (pt_cmpR (opEq K hr.units) (pe_ix (ixK K) (pv 0) pe_int (fun _ _ => rfl)) (pe_S [103, 108, 97, 115, 115]) (nomark _)) (pss_cons (ps_if (pw_and (pt_cmpR (opEq K hr.units) (pe_callB (cLen K) (by rfl) T.b_len (by decide +kernel) (pa_cons (pe_ix (ixK K) (pv 0) pe_int (fun _ _ => rfl)) pa_nil)) pe_int (nomark _)) (pw_and1 (pt_cmpR (opEq K hr.units) (pe_callB (cLen K) (by rfl) T.b_len (by decide +kernel) (pa_cons (pe_lc (own := [("_law_sign_here", 2)]) (g := gName 2) (by rfl) sc_L_line_way.nd (piAny K (pe_ix (ixK K) (pv 0) pe_int (fun _ _ => rfl))) (blkOk_by (own := [("_law_sign_here", 2)]) (N := ["_law_words", "_law_pair", "_law_sign_here"]) (sc := (defScope s_L_line_way)) (by decide +kernel)) (fun _ _ _ _ _ => (pg_name (i := 2) sc_L_line_way.nd rfl (Or.inl rfl))) (fun _ _ _ _ _ => (pts_one (pt_cmpR (opIn K) (pv 2) (pe_S [46, 103, 114, 119]) (by with_unfolding_all rfl)))) (fun _ _ _ _ _ => (pv 2))) pa_nil)) pe_int (nomark _)))).pt (pss_one (ps_ret (pe_tup (pa_cons (pe_S [103, 108, 97, 115, 115]) (pa_cons (pe_ix (ixK K) (pv 0) pe_int (fun _ _ => rfl)) pa_nil))))) pss_nil) (pss_one (ps_ret pe_non))) pss_nil) (pss_cons (ps_if (pt_cmpR (opEq K hr.units) (pe_ix (ixK K) (pv 0) pe_int (fun _ _ => rfl)) (pe_S [115, 116, 97, 110, 100, 105, 110]) (nomark _)) (pss_cons (ps_for PassesOwn.never rfl (piAny K (Fg.pe_f0 (ok_L_pool (K := K) T) (hr.mono (by decide)) pass0)) (pg_name (i := 1) sc_L_line_way.nd rfl (Or.inl rfl)) (pss_one (ps_if (pw_and (pt_cmpR (opEq K hr.units) (pe_ix (ixK K) (pv 1) pe_int (fun _ _ => rfl)) (pe_ix (ixK K) (pv 0) pe_int (fun _ _ => rfl)) (nomark _)) (pw_and1 (pt_cmpR op_isNotP (pe_ix (ixK K) (pv 1) pe_int (fun _ _ => rfl)) pe_non (nomark _)))).pt (pss_one (ps_ret (pe_tup (pa_cons (pe_S [115, 116, 97, 110, 100, 105, 110]) (pa_cons (pe_ix (ixK K) (pv 1) pe_int (fun _ _ => rfl)) pa_nil))))) pss_nil))) (pss_cons (ps_if (pw_and (pt_chain op_leP op_leP pe_int (pe_callB (cLen K) (by rfl) T.b_len (by decide +kernel) (pa_cons (pe_ix (ixK K) (pv 0) pe_int (fun _ _ => rfl)) pa_nil)) pe_int) (pw_and1 (pt_cmpR (opEq K hr.units) (pe_callB (cLen K) (by rfl) T.b_len (by decide +kernel) (pa_cons (pe_lc (own := [("_law_sign_here", 2)]) (g := gName 2) (by rfl) sc_L_line_way.nd (piAny K (pe_ix (ixK K) (pv 0) pe_int (fun _ _ => rfl))) (blkOk_by (own := [("_law_sign_here", 2)]) (N := ["_law_words", "_law_pair", "_law_sign_here"]) (sc := (defScope s_L_line_way)) (by decide +kernel)) (fun _ _ _ _ _ => (pg_name (i := 2) sc_L_line_way.nd rfl (Or.inl rfl))) (fun _ _ _ _ _ => (pts_one (pt_cmpR (opIn K) (pv 2) (pe_S [46, 103, 114, 119]) (by with_unfolding_all rfl)))) (fun _ _ _ _ _ => (pv 2))) pa_nil)) (pe_callB (cLen K) (by rfl) T.b_len (by decide +kernel) (pa_cons (pe_ix (ixK K) (pv 0) pe_int (fun _ _ => rfl)) pa_nil)) (nomark _)))).pt (pss_one (ps_ret (pe_tup (pa_cons (pe_S [115, 116, 97, 110, 100, 105, 110]) (pa_cons (pe_ix (ixK K) (pv 0) pe_int (fun _ _ => rfl)) pa_nil))))) pss_nil) (pss_one (ps_ret pe_non)))) pss_nil) (pss_cons (ps_if (pw_and (pt_cmpR (opEq K hr.units) (pe_callB (cLen K) (by rfl) T.b_len (by decide +kernel) (pa_cons (pe_ix (ixK K) (pv 0) pe_int (fun _ _ => rfl)) pa_nil)) pe_int (nomark _)) (pw_and1 (pt_cmpR (opIn K) (pe_ix (ixK K) (pv 0) pe_int (fun _ _ => rfl)) (pe_S [49, 50, 51, 52, 53, 54, 55, 56, 57]) (by with_unfolding_all rfl)))).pt (pss_one (ps_ret (pe_tup (pa_cons (pe_ix (ixK K) (pv 0) pe_int (fun _ _ => rfl)) (pa_cons (pe_callTy call_intTx (by rfl) T.b_int (by decide +kernel) (pa_cons (pe_ix (ixK K) (pv 0) pe_int (fun _ _ => rfl)) pa_nil)) pa_nil))))) pss_nil) (pss_one (ps_ret pe_non))))), ?_⟩
  show (_ : TS) { nx := fun _ H' => Q .non H', rt := Q } [some x, none, none] H
  obtain ⟨A0, a, ws, sa, rfl, hH, h2, hk, hw, q⟩ := h
  have e0 : (ws.map S)[0]? = some (S (ws.getD 0 [])) := by rw [List.getElem?_map, List.getD_eq_getElem?_getD, List.getElem?_eq_getElem (by omega)]; rfl
  have e1 : (ws.map S)[1]? = some (S (ws.getD 1 [])) := by rw [List.getElem?_map, List.getD_eq_getElem?_getD, List.getElem?_eq_getElem (by omega)]; rfl
  generalize ws.getD 0 [] = k at *
  generalize ws.getD 1 [] = w at *
  have w25 := (wd_facts hw).1
  have kl : k.length ≤ 10 := by
    have : ∀ k ∈ [cGlass, cLame, cStand, cRest, cSlip], k.length ≤ 10 := by decide
    exact this k hk
  have ix0 : ∀ {G : Hp} {R : VK}, Same H G → R (S k) G → ixP K (.ref a) (.int 0) G R := fun s k => i_ix_lst (.inl (.inl (s _ _ hH))) (atI_int (by decide) e0) k
  have ix1 : ∀ {G : Hp} {R : VK}, Same H G → R (S w) G → ixP K (.ref a) (.int 1) G R := fun s k => i_ix_lst (.inl (.inl (s _ _ hH))) (atI_int (by decide) e1) k
  have ext : ∀ {G : Hp}, Same H G → Ext A0 H A0 G := fun s => ⟨Same.refl _, sa.trans s, s, fun b h1 h2 => absurd h1 h2⟩
  have ret : ∀ {G : Hp} {z : V} {d : PyData}, Same H G → (∀ B, At B z d) → lwD k w = some d → ∀ p, G p = none → Q (.ref p) (upd G p (.tup [S k, z])) := fun s az e p np =>
    q _ _ _ ((ext s).new np) (by rw [e]; exact At.mkTup upd_same (.cons (.str _ (by omega)) (.one (az _))) (by show 2 ≤ 10000; decide))
  have non : ∀ {G : Hp}, Same H G → lwD k w = none → Q .non G := fun s e => q _ _ _ (ext s) (by rw [e])
  walk_at "go"
  refine ix0 (Same.refl _) ?_
  walk_at "go"
  refine i_dec (fun ek => ?_) (fun ek => ?_)
  · subst ek
    rw [lw_gl] at ret non
    rw [isGl_count] at ret non
    walk_at "go"
    refine ix1 (Same.refl _) ?_
    walk_at "go"
    refine i_dec (fun e4 => ?_) (fun e4 => ?_)
    · walk_at "go"
      refine c_strF (z := w) (fun c => decide (c ∈ SG)) (fun R k => ?_) (by omega) (fun _ => rfl) (fun c G hc s QB k => ?_) (fun c G hc s QV k => ?_) (fun Dl G nD s eD => ?_)
      · walk_at "go"
        refine ix1 (Same.refl _) ?_
        exact k
      · show (_ : TT) [some (.ref a), none, some (S [c])] G QB
        walk_at "go"
        exact k _ (Same.refl _)
      · show (_ : TE) [some (.ref a), none, some (S [c])] G QV
        walk_at "go"
        exact k _ (Same.refl _)
      · walk_at "go"
        refine i_len_lst (.inl (.inl eD)) ?_
        rw [List.length_map]
        have fl := List.length_filter_le (fun c => decide (c ∈ SG)) w
        walk_at "go"
        refine i_dec (fun e5 => ?_) (fun e5 => ?_)
        · rw [decide_eq_true (show w.length = 4 by omega), decide_eq_true (show (w.filter fun c => decide (c ∈ SG)).length = 4 by omega), if_pos (by decide)] at ret
          walk_at "go"
          refine ix1 s ?_
          walk_at "go"
          refine i_new (by show 2 ≤ 100000; omega) ?_
          exact ret s (fun _ => .str _ (by omega)) rfl
        · rw [decide_eq_false (show ¬ (w.filter fun c => decide (c ∈ SG)).length = 4 by omega), Bool.and_false, if_neg (by decide)] at non
          walk_at "go"
          exact non s rfl
    · rw [decide_eq_false (show ¬ w.length = 4 by omega), Bool.false_and, if_neg (by decide)] at non
      walk_at "go"
      exact non (Same.refl _) rfl
  walk_at "go"
  refine ix0 (Same.refl _) ?_
  walk_at "go"
  refine i_dec (fun e2 => ?_) (fun e2 => ?_)
  · subst e2
    rw [lw_rd, ← rd_pool hw] at ret non
    walk_at "go"
    refine i_sp0 ⟨H, Same.refl _, fun A' H' v x hv => ?_⟩
    obtain ⟨b, xs, rfl, eb, hl, al⟩ := hv.listed
    have ll := al.len
    rw [List.length_map] at ll
    refine Fg.i_forL (xs := xs) (.inl (.inl (x.ag _ _ eb))) (fun i σ G => ∃ v1, σ = [some (.ref a), v1, none] ∧ Same H' G ∧ ∀ k < i, ∀ e, POOL[k]? = some e → ¬ (e.1 = w ∧ e.2 ≠ none))
      ⟨none, rfl, Same.refl _, fun k hk => absurd hk (Nat.not_lt_zero _)⟩ (fun i σ' G _ p => ?_) ?_ ?_
    · obtain ⟨v1, rfl, s, _⟩ := p
      exact .inl (.inl (s _ _ (x.ag _ _ eb)))
    · rintro i y σ G hy ⟨v1, rfl, s, hb⟩
      have sG : Same H G := x.gg.trans s
      obtain ⟨d, hd, ad⟩ := al.get hy
      obtain ⟨e, he, rfl⟩ : ∃ e, POOL[i]? = some e ∧ poolD e = d := by
        rw [List.getElem?_map] at hd
        obtain ⟨e, he, e'⟩ := Option.map_eq_some_iff.mp hd
        exact ⟨e, he, e'⟩
      have ad := (ad.same x.ag).same s
      obtain ⟨c, zs, rfl, hc, hzl, alz⟩ := ad.tupled
      cases alz with
      | cons az alz =>
      cases alz with
      | cons bz alz =>
      cases alz
      rename_i z0 z1
      obtain ⟨p', rfl, ep, _⟩ := az.strl
      obtain rfl : e.1 = p' := dS_inj (congrArg PyData.str ep)
      have next : ¬ (e.1 = w ∧ e.2 ≠ none) → ∀ k < i + 1, ∀ e, POOL[k]? = some e → ¬ (e.1 = w ∧ e.2 ≠ none) := fun hn k hk e' he' => by
        rcases Nat.lt_or_ge k i with z | z
        · exact hb k z e' he'
        · obtain rfl : k = i := by omega
          rw [he] at he'
          cases he'
          exact hn
      walk_at "go"
      refine ix1 sG ?_
      walk_at "go"
      refine i_dec (fun e1 => ?_) (fun e1 => ?_)
      · walk_at "go"
        cases eo : e.2 with
        | none =>
          rw [eo] at bz
          cases bz
          walk_at "go"
          exact ⟨_, rfl, s, next fun z => z.2 eo⟩
        | some r =>
          rw [eo] at bz
          obtain ⟨r', rfl, er, hr'⟩ := At.strl (x := ⟨r.toArray⟩) bz
          obtain rfl : r = r' := dS_inj (congrArg PyData.str er)
          rw [pool_yes he e1 eo hb] at ret
          walk_at "go"
          refine i_new (by show 2 ≤ 100000; omega) ?_
          exact ret sG (fun _ => .str _ hr') rfl
      · walk_at "go"
        exact ⟨_, rfl, s, next fun z => e1 z.1⟩
    · rintro σ G ⟨v1, rfl, s, hb⟩
      rw [ll] at hb
      have sG : Same H G := x.gg.trans s
      rw [lawRd_none hb] at ret non
      have fl := List.length_filter_le (fun c => decide (c ∈ SG)) w
      walk_at "go"
      refine ix1 sG ?_
      walk_at "go"
      have bad : ¬ (1 ≤ w.length ∧ w.length ≤ 24 ∧ (w.filter fun c => decide (c ∈ SG)).length = w.length) → ∀ {G : Hp}, Same H G → Q .non G := fun h G s => by
        rw [if_neg h] at non
        exact non s rfl
      refine i_dec (fun e1 => ?_) (fun e1 => ?_)
      case refine_2 =>
        walk_at "go"
        exact bad (fun z => e1 (by omega)) sG
      walk_at "go"
      refine i_dec (fun e2 => ?_) (fun e2 => ?_)
      case refine_2 =>
        walk_at "go"
        exact bad (fun z => e2 (by omega)) sG
      walk_at "go"
      refine c_strF (z := w) (fun c => decide (c ∈ SG)) (fun R k => ?_) (by omega) (fun _ => rfl) (fun c G2 hc s2 QB k => ?_) (fun c G2 hc s2 QV k => ?_) (fun Dl G2 nD s2 eD => ?_)
      · walk_at "go"
        refine ix1 sG ?_
        exact k
      · show (_ : TT) [some (.ref a), v1, some (S [c])] G2 QB
        walk_at "go"
        exact k _ (Same.refl _)
      · show (_ : TE) [some (.ref a), v1, some (S [c])] G2 QV
        walk_at "go"
        exact k _ (Same.refl _)
      · have sG2 := sG.trans s2
        walk_at "go"
        refine i_len_lst (.inl (.inl eD)) ?_
        rw [List.length_map]
        walk_at "go"
        refine ix1 sG2 ?_
        walk_at "go"
        refine i_dec (fun e5 => ?_) (fun e5 => ?_)
        · rw [if_pos ⟨by omega, by omega, by omega⟩] at ret
          walk_at "go"
          refine ix1 sG2 ?_
          walk_at "go"
          refine i_new (by show 2 ≤ 100000; omega) ?_
          exact ret sG2 (fun _ => .str _ (by omega)) rfl
        · walk_at "go"
          exact bad (fun z => e5 (by omega)) sG2
  have hk3 : k = cLame ∨ k = cRest ∨ k = cSlip := by
    simp only [List.mem_cons, List.not_mem_nil, or_false] at hk
    rcases hk with h | h | h | h | h
    · exact absurd h ek
    · exact .inl h
    · exact absurd h e2
    · exact .inr (.inl h)
    · exact .inr (.inr h)
  rw [lw_nu hk3] at ret non
  walk_at "go"
  refine ix1 (Same.refl _) ?_
  walk_at "go"
  refine i_dec (fun e3 => ?_) (fun e3 => ?_)
  case refine_2 =>
    rw [numW_long (by omega)] at non
    walk_at "go"
    exact non (Same.refl _) rfl
  obtain ⟨c, rfl⟩ : ∃ c, w = [c] := by
    match w, e3 with
    | [c], _ => exact ⟨c, rfl⟩
    | [], h => exact absurd h (by decide)
    | a :: b :: r, h => simp only [List.length_cons] at h; omega
  walk_at "go"
  refine ix1 (Same.refl _) ?_
  walk_at "go"
  refine i_dec (fun e4 => ?_) (fun e4 => ?_)
  · have hc : 49 ≤ c ∧ c ≤ 57 ∧ c ∈ DG := by
      have : ∀ c ∈ [49, 50, 51, 52, 53, 54, 55, 56, 57], 49 ≤ c ∧ c ≤ 57 ∧ c ∈ DG := by decide
      exact this c e4
    have en : numW [c] = some ((c : Int) - 48) := if_pos ⟨hc.1, hc.2.1⟩
    rw [en] at ret
    walk_at "go"
    refine ix0 (Same.refl _) ?_
    walk_at "go"
    refine ix1 (Same.refl _) ?_
    walk_at "go"
    refine ⟨_, _, rfl, int1 c hc.2.2, by show 1 ≤ 640; decide, ?_⟩
    walk_at "go"
    refine i_new (by show 2 ≤ 100000; omega) ?_
    have e5 : ((num [c] : Nat) : Int) = (c : Int) - 48 := by
      have : num [c] = c - 48 := by simp [num]
      rw [this]
      omega
    rw [e5]
    exact ret (Same.refl _) (fun _ => .int _) rfl
  · have hc : ¬ (49 ≤ c ∧ c ≤ 57) := fun z => e4 (by
      have : ∀ c, 49 ≤ c → c ≤ 57 → c ∈ [49, 50, 51, 52, 53, 54, 55, 56, 57] := fun c h1 h2 => by
        simp only [List.mem_cons, List.not_mem_nil, or_false]; omega
      exact this c z.1 z.2)
    have en : numW [c] = none := if_neg hc
    rw [en] at non
    walk_at "go"
    exact non (Same.refl _) rfl
/-- a way as lines tell it -/
inductive ToldY : List Nat → PyData → Prop where
  | gl {v : PyData} (h : isGl v = true) : ToldY cGlass v
  | rd {v : PyData} (h : rndD v = true) : ToldY cStand v
  | nm {k : List Nat} {i : Int} (h : k = cLame ∨ k = cRest ∨ k = cSlip) (h1 : 1 ≤ i) (h2 : i ≤ 9) : ToldY k (.int i)
theorem ToldY.ints {k : List Nat} {v : PyData} (h : ToldY k v) (hk : k = cLame ∨ k = cRest ∨ k = cSlip) : ∃ i, v = .int i ∧ 1 ≤ i ∧ i ≤ 9 := by
  cases h with
  | gl h => rcases hk with e | e | e <;> exact absurd e (by decide)
  | rd h => rcases hk with e | e | e <;> exact absurd e (by decide)
  | nm h h1 h2 => exact ⟨_, rfl, h1, h2⟩
theorem ToldY.good {k : List Nat} {v : PyData} (h : ToldY k v) (hk : ¬ (k = cLame ∨ k = cRest ∨ k = cSlip)) : wayK k v = true := by
  cases h with
  | gl h => exact h
  | rd h => exact h
  | nm h h1 h2 => exact absurd h hk
theorem way_lame (i : Int) : wayK cLame (.int i) = (decide (2 ≤ i) && decide (i ≤ 4)) := rfl
theorem way_rest {i : Int} (h : 1 ≤ i) : wayK cRest (.int i) = decide (i ≤ 3) := by
  show (decide (1 ≤ i) && decide (i ≤ 3)) = _
  rw [decide_eq_true h, Bool.true_and]
theorem way_slip {i : Int} (h : i ≤ 9) : wayK cSlip (.int i) = decide (2 ≤ i) := by
  show (decide (2 ≤ i) && decide (i ≤ 9)) = _
  rw [decide_eq_true h, Bool.and_true]
def p_L_is_good : P1 := fun x H Q _ => ∃ k v, At H x (.tuple [dS k, v]) ∧ ToldY k v ∧ ∀ H', Same H H' → Q (.bl (wayK k v)) H'
theorem ok_L_is_good (T : Txt K mg w C_GlimError C_BadRound C_BadText C_BadLine C_BadWay C_TooLong C_Lines C_NUMBERED) : OK P w K mg base CX0 1 "_law_is_good" ["_law_way"] (sp1  p_L_is_good) := by
  refine OK.mk (k := 0) T.d_L_is_good sc_L_is_good len1 fun f cdv A outer s H vs Q E hr h => ?_
  obtain ⟨x, rfl, h⟩ := h
  refine ⟨_, (pss_cons (ps_if (pt_cmpR (opEq K hr.units) (pe_ix (ixK K) (pv 0) pe_int (fun _ _ => rfl)) (pe_S [108, 97, 109, 101]) (nomark _)) (pss_one (ps_ret (pe_chain op_leP op_leP pe_int (pe_ix (ixK K) (pv 0) pe_int (fun _ _ => rfl)) pe_int))) pss_nil) (pss_cons (ps_if (pt_cmpR (opEq K hr.units) (pe_ix (ixK K) (pv 0) pe_int (fun _ _ => rfl)) (pe_S [114, 101, 115, 116, 97, 114, 116]) (nomark _)) (pss_one (ps_ret (pe_cmpR op_leP (pe_ix (ixK K) (pv 0) pe_int (fun _ _ => rfl)) pe_int (nomark _)))) pss_nil) (pss_one (ps_ret (pe_or (pe_cmpR (opNe K hr.units) (pe_ix (ixK K) (pv 0) pe_int (fun _ _ => rfl)) (pe_S [115, 108, 105, 112]) (nomark _)) (pe_one (pe_cmpR op_geP (pe_ix (ixK K) (pv 0) pe_int (fun _ _ => rfl)) pe_int (nomark _)))))))), ?_⟩
  show (_ : TS) { nx := fun _ H' => Q .non H', rt := Q } [some x] H
  obtain ⟨k, v, hx, ht, q⟩ := h
  obtain ⟨a, xs, rfl, hH, hl, al⟩ := hx.tupled
  cases al with
  | cons ak al =>
  cases al with
  | cons av al =>
  cases al
  rename_i k0 v0
  obtain ⟨k', rfl, ek, _⟩ := ak.strl
  obtain rfl : k = k' := dS_inj (congrArg PyData.str ek)
  clear ek
  have q := q _ (Same.refl H)
  walk_at "go"
  refine i_dec (fun e0 => ?_) (fun e0 => ?_)
  · obtain ⟨i, rfl, h1, h2⟩ := ht.ints (.inl e0)
    obtain rfl := av.intd
    rw [e0, way_lame] at q
    walk_at "go"
    refine i_dec (fun e1 => ?_) (fun e1 => ?_)
    · rw [decide_eq_true e1, Bool.true_and] at q
      walk_at "go"
      exact q
    · rw [decide_eq_false e1, Bool.false_and] at q
      walk_at "go"
      exact q
  walk_at "go"
  refine i_dec (fun e1 => ?_) (fun e1 => ?_)
  · obtain ⟨i, rfl, h1, h2⟩ := ht.ints (.inr (.inl e1))
    obtain rfl := av.intd
    rw [e1, way_rest h1] at q
    walk_at "go"
    exact q
  walk_at "go"
  refine i_decN (fun e2 => ?_) (fun e2 => ?_)
  · rw [ht.good (fun z => z.elim e0 fun z => z.elim e1 e2)] at q
    exact q
  · obtain ⟨i, rfl, h1, h2⟩ := ht.ints (.inr (.inr e2))
    obtain rfl := av.intd
    rw [e2, way_slip h2] at q
    walk_at "go"
    exact q
end
abbrev cLine : List Nat := [108, 105, 110, 101]
abbrev cWay : List Nat := [119, 97, 121]
def lineT (n k : Nat) : PyData := .list [.tuple [dS cLine, .int (n : Int), .int (k : Int)], .bool true]
def wayT (k : Int) : PyData := .list [.tuple [dS cWay, .int k], .bool true]
def resT : Rs → PyData
  | .line n k => lineT n k
  | .way k => wayT k
  | .good ws => .tuple ws
def SmR : Rs → Prop
  | .line n k => n ≤ 20000 ∧ k ≤ 20000
  | .way k => k.natAbs < 10 ^ 30
  | .good ws => Rp 20000 (.tuple ws) ∧ PyData.hasDictAll ws = false ∧ PyData.depthAll ws ≤ 5
theorem rp_line {n k : Nat} (hn : n ≤ 20000) (hk : k ≤ 20000) : Rp 20000 (lineT n k) := by
  have h1 : Rp 303 (.tuple [dS cLine, .int (n : Int), .int (k : Int)]) := (Rp.tuple (m := 100) (ds := [dS cLine, .int (n : Int), .int (k : Int)]) fun d hd => by
    simp only [List.mem_cons, List.not_mem_nil, or_false] at hd
    rcases hd with rfl | rfl | rfl
    · exact Rp.str (by decide) (by decide)
    · exact Rp.int (Nat.lt_of_le_of_lt (by omega) (show 20000 < 10 ^ 40 by decide))
    · exact Rp.int (Nat.lt_of_le_of_lt (by omega) (show 20000 < 10 ^ 40 by decide))).mono (by show (100 + 1) * 3 ≤ 303; decide)
  exact (Rp.list (m := 303) (ds := [.tuple [dS cLine, .int (n : Int), .int (k : Int)], .bool true]) fun d hd => by
    simp only [List.mem_cons, List.not_mem_nil, or_false] at hd
    rcases hd with rfl | rfl
    · exact h1
    · exact Rp.bool _).mono (by show 304 * 2 ≤ 20000; decide)
theorem rp_way {i : Int} (hi : i.natAbs < 10 ^ 30) : Rp 20000 (wayT i) := by
  have h1 : Rp 303 (.tuple [dS cWay, .int i]) := (Rp.tuple (m := 100) (ds := [dS cWay, .int i]) fun d hd => by
    simp only [List.mem_cons, List.not_mem_nil, or_false] at hd
    rcases hd with rfl | rfl
    · exact Rp.str (by decide) (by decide)
    · exact Rp.int (Nat.lt_of_lt_of_le hi (by decide))).mono (by show (100 + 1) * 2 ≤ 303; decide)
  exact (Rp.list (m := 303) (ds := [.tuple [dS cWay, .int i], .bool true]) fun d hd => by
    simp only [List.mem_cons, List.not_mem_nil, or_false] at hd
    rcases hd with rfl | rfl
    · exact h1
    · exact Rp.bool _).mono (by show 304 * 2 ≤ 20000; decide)
theorem told_line {H G : Hp} {p q : Addr} {i j : Int} (sg : Same H G) (np : G p = none) (n2 : (upd G p (.tup [S cLine, .int i, .int j])) q = none) :
    At (upd (upd G p (.tup [S cLine, .int i, .int j])) q (.lst [.ref p, .bl true])) (.ref q) (.list [.tuple [dS cLine, .int i, .int j], .bool true]) ∧ Same H (upd (upd G p (.tup [S cLine, .int i, .int j])) q (.lst [.ref p, .bl true])) := by
  have ne : p ≠ q := fun z => by rw [← z, upd_same] at n2; cases n2
  exact ⟨.lst upd_same (by show 2 ≤ 10000; decide) (.cons (.tup ((upd_ne ne).trans upd_same) (by show 3 ≤ 10000; decide) (.cons (.str _ (by decide)) (.cons (.int _) (.cons (.int _) .nil)))) (.cons (.bl _) .nil)), sg.trans ((same_upd np).trans (same_upd n2))⟩
theorem told_way {H G : Hp} {p q : Addr} {i : Int} (sg : Same H G) (np : G p = none) (n2 : (upd G p (.tup [S cWay, .int i])) q = none) :
    At (upd (upd G p (.tup [S cWay, .int i])) q (.lst [.ref p, .bl true])) (.ref q) (.list [.tuple [dS cWay, .int i], .bool true]) ∧ Same H (upd (upd G p (.tup [S cWay, .int i])) q (.lst [.ref p, .bl true])) := by
  have ne : p ≠ q := fun z => by rw [← z, upd_same] at n2; cases n2
  exact ⟨.lst upd_same (by show 2 ≤ 10000; decide) (.cons (.tup ((upd_ne ne).trans upd_same) (by show 2 ≤ 10000; decide) (.cons (.str _ (by decide)) (.cons (.int _) .nil))) (.cons (.bl _) .nil)), sg.trans ((same_upd np).trans (same_upd n2))⟩
theorem lk_line {a b : V} : ([(("word" : Str), a), ("line", b)] : List (Str × V)).lookup ("line" : Str) = some b := by
  have h : (("line" : Str) == ("word" : Str)) = false := by decide +kernel
  simp only [List.lookup, h, beq_self_eq_true]
theorem lk_word {a b : V} : ([(("word" : Str), a), ("line", b)] : List (Str × V)).lookup ("word" : Str) = some a := by
  simp only [List.lookup, beq_self_eq_true]
theorem i_xfs {σ : L2.St} {H : Hp} {Q : VK} {i : Nat} {a dd C : Addr} {f : Str} {v : V} {fs : List (Str × V)} (h : σ[i]? = some (some (.ref a))) (hdd : H dd = some (.xd fs)) (l : fs.lookup f = some v) (q : Q v H) : tXf a (.ref C) (some dd) C f (tVar i) σ H Q :=
  ⟨.ref a, h, rfl, rfl, dd, _, v, rfl, hdd, l, q⟩
inductive ErAt (C1 C2 : Addr) : Addr → List (Str × V) → PyData → Prop
  | line (n k : Nat) (hn : n ≤ 20000) (hk : k ≤ 20000) : ErAt C1 C2 C1 [("word", .int (k : Int)), ("line", .int (n : Int))] (lineT n k)
  | way (i : Int) (si : i.natAbs < 10 ^ 30) : ErAt C1 C2 C2 [("number", .int i)] (wayT i)
noncomputable def wrR (d : PyData) : Rs := match badY (deepD d) with
  | some n => .way n
  | none => match deepD d with
    | .tuple ds => .good (ds.map fun w => dS (lnW w))
    | _ => .line 0 0
section
variable {P : Program} {w : World} {K : PySem.W.Frag} {mg : Str → Option Value} {base : Heap} {C_GlimError C_BadRound C_BadText C_BadLine C_BadWay C_TooLong C_Lines C_NUMBERED : Addr}
def p_L_error (C1 C2 : Addr) (ea : Addr) (cls : Value) (ed : Option Addr) : P1 := fun x H Q _ => ∃ dd C fs D, x = .ref ea ∧ ed = some dd ∧ H dd = some (.xd fs) ∧ cls = .ref C ∧ ErAt C1 C2 C fs D ∧ ∀ H', Same H H' → Q (.str D.shown) H'
theorem okX_L_error (T : Txt K mg w C_GlimError C_BadRound C_BadText C_BadLine C_BadWay C_TooLong C_Lines C_NUMBERED) : Fg.OKXW P w K mg base 1 "_law_error" ["_law_wrong"] (fun ea ecls ed => sp1  (p_L_error C_BadLine C_BadWay ea ecls ed)) := by
  refine Fg.OKXW.mk (k := 0) T.d_L_error sc_L_error (fun _ _ _ vs H Q E h => len1 vs H Q E h) fun f cdv A outer s H vs Q E a oe cls d hgu hz hf hr h => ?_
  obtain ⟨x, rfl, h⟩ := h
  refine ⟨_, (pss_cons (ps_set (i := 1) sc_L_error.nd rfl (Or.inl rfl) (pe_lst pa_nil)) (pss_cons (ps_if (pt_val (pe_callB (Fg.cIsXP K hz hf List.mem_cons_self) (by rfl) T.b_isinstance (by decide +kernel) (pa_cons (pv 0) (pa_cons (pe_gR _ T.c_BadLine) pa_nil)))) (pss_one (ps_expr (peApp K (pv 1) (pa_cons (pe_tup (pa_cons (pe_S [108, 105, 110, 101]) (pa_cons (Fg.pe_xfP T.e_BadLine.xf T.nf_BadLine_line hz hf List.mem_cons_self (pv 0)) (pa_cons (Fg.pe_xfP T.e_BadLine.xf T.nf_BadLine_word hz hf List.mem_cons_self (pv 0)) pa_nil)))) pa_nil)))) pss_nil) (pss_cons (ps_if (pt_val (pe_callB (Fg.cIsXP K hz hf List.mem_cons_self) (by rfl) T.b_isinstance (by decide +kernel) (pa_cons (pv 0) (pa_cons (pe_gR _ T.c_BadWay) pa_nil)))) (pss_one (ps_expr (peApp K (pv 1) (pa_cons (pe_tup (pa_cons (pe_S [119, 97, 121]) (pa_cons (Fg.pe_xfP T.e_BadWay.xf T.nf_BadWay_number hz hf List.mem_cons_self (pv 0)) pa_nil))) pa_nil)))) pss_nil) (pss_one (ps_ret (pe_callB (Fg.cReprA K hgu (Fg.uH hr)) (by rfl) T.b_repr (by decide +kernel) (pa_cons (pe_op (opAdd K) (pv 1) (pe_lst (pa_cons (pe_callB (Fg.cIsXP K hz hf List.mem_cons_self) (by rfl) T.b_isinstance (by decide +kernel) (pa_cons (pv 0) (pa_cons (pe_bltn (v := .ty "ValueError") (by rfl) T.b_ValueError (by decide +kernel) rfl) pa_nil))) pa_nil))) pa_nil))))))), ?_⟩
  show (_ : TS) { nx := fun _ H' => Q .non H', rt := Q } [some x, none] H
  obtain ⟨dd, C, fs, D, rfl, rfl, hdd, rfl, hm, q⟩ := h
  walk_at "go"
  refine i_new (by show 0 ≤ 100000; omega) fun p np => ?_
  have nep : dd ≠ p := fun z => by rw [z, np] at hdd; cases hdd
  have hd0 := (upd_ne (o := HO.lst []) nep).trans hdd
  walk_at "go"
  cases hm with
  | line n k hn hk =>
    refine i_isX hd0 T.e_BadLine (.own _) T.k_BadLine_BadLine ?_
    walk_at "go"
    refine i_appAt upd_same ?_
    walk_at "go"
    refine i_xfs rfl hd0 lk_line ?_
    walk_at "go"
    refine i_xfs rfl hd0 lk_word ?_
    walk_at "go"
    refine i_new (by show 3 ≤ 100000; omega) fun p2 nq => ?_
    have ne : p ≠ p2 := fun z => by rw [← z, upd_same] at nq; cases nq
    walk_at "go"
    refine i_appEnd (xs := []) ((upd_ne ne).trans upd_same) (by show 0 < 100000; omega) ?_
    have s1 : Same H (upd (upd (upd H p (.lst [])) p2 (.tup [S cLine, .int (n : Int), .int (k : Int)])) p (.lst ([] ++ [.ref p2]))) := Same.upd ((same_upd np).trans (same_upd nq)) np
    have e1 : (upd (upd (upd H p (.lst [])) p2 (.tup [S cLine, .int (n : Int), .int (k : Int)])) p (.lst ([] ++ [.ref p2]))) p2 = some (.tup [S cLine, .int (n : Int), .int (k : Int)]) := (upd_ne ne.symm).trans upd_same
    have e0 : (upd (upd (upd H p (.lst [])) p2 (.tup [S cLine, .int (n : Int), .int (k : Int)])) p (.lst ([] ++ [.ref p2]))) p = some (.lst [.ref p2]) := upd_same
    generalize upd (upd (upd H p (.lst [])) p2 (.tup [S cLine, .int (n : Int), .int (k : Int)])) p (.lst ([] ++ [.ref p2])) = G at *
    walk_at "go"
    refine i_isX (s1 _ _ hdd) T.e_BadLine (.own _) T.k_BadLine_BadWay ?_
    walk_at "go"
    refine i_isX (s1 _ _ hdd) T.e_BadLine (.ty _) T.k_BadLine_ValueError ?_
    walk_at "go"
    refine i_new (by show 1 ≤ 100000; omega) fun q1 nq1 => ?_
    have nz : q1 ≠ p := fun z => by rw [z, e0] at nq1; cases nq1
    have nz2 : q1 ≠ p2 := fun z => by rw [z, e1] at nq1; cases nq1
    walk_at "go"
    refine i_catL ((upd_ne nz.symm).trans e0) upd_same (by show 1 + 1 ≤ 100000; decide) fun r nr => ?_
    walk_at "go"
    have nr2 : r ≠ p2 := fun z => by rw [z, upd_ne nz2.symm, e1] at nr; cases nr
    refine i_reprA (d := lineT n k) (.lst upd_same (by show 2 ≤ 10000; decide) (.cons (.tup ((upd_ne nr2.symm).trans ((upd_ne nz2.symm).trans e1)) (by show 3 ≤ 10000; decide) (.cons (.str _ (by decide)) (.cons (.int _) (.cons (.int _) .nil)))) (.cons (.bl _) .nil))) (rp_line hn hk) (by decide) rfl (by show 2 ≤ 60; decide) ?_
    walk_at "go"
    exact q _ (s1.trans ((same_upd nq1).trans (same_upd nr)))
  | way i si =>
    refine i_isX hd0 T.e_BadWay (.own _) T.k_BadWay_BadLine ?_
    walk_at "go"
    refine i_isX hd0 T.e_BadWay (.own _) T.k_BadWay_BadWay ?_
    walk_at "go"
    refine i_appAt upd_same ?_
    walk_at "go"
    refine i_xf rfl hd0 ?_
    walk_at "go"
    refine i_new (by show 2 ≤ 100000; omega) fun p2 nq => ?_
    have ne : p ≠ p2 := fun z => by rw [← z, upd_same] at nq; cases nq
    walk_at "go"
    refine i_appEnd (xs := []) ((upd_ne ne).trans upd_same) (by show 0 < 100000; omega) ?_
    have s1 : Same H (upd (upd (upd H p (.lst [])) p2 (.tup [S cWay, .int i])) p (.lst ([] ++ [.ref p2]))) := Same.upd ((same_upd np).trans (same_upd nq)) np
    have e1 : (upd (upd (upd H p (.lst [])) p2 (.tup [S cWay, .int i])) p (.lst ([] ++ [.ref p2]))) p2 = some (.tup [S cWay, .int i]) := (upd_ne ne.symm).trans upd_same
    have e0 : (upd (upd (upd H p (.lst [])) p2 (.tup [S cWay, .int i])) p (.lst ([] ++ [.ref p2]))) p = some (.lst [.ref p2]) := upd_same
    generalize upd (upd (upd H p (.lst [])) p2 (.tup [S cWay, .int i])) p (.lst ([] ++ [.ref p2])) = G at *
    walk_at "go"
    refine i_isX (s1 _ _ hdd) T.e_BadWay (.ty _) T.k_BadWay_ValueError ?_
    walk_at "go"
    refine i_new (by show 1 ≤ 100000; omega) fun q1 nq1 => ?_
    have nz : q1 ≠ p := fun z => by rw [z, e0] at nq1; cases nq1
    have nz2 : q1 ≠ p2 := fun z => by rw [z, e1] at nq1; cases nq1
    walk_at "go"
    refine i_catL ((upd_ne nz.symm).trans e0) upd_same (by show 1 + 1 ≤ 100000; decide) fun r nr => ?_
    walk_at "go"
    have nr2 : r ≠ p2 := fun z => by rw [z, upd_ne nz2.symm, e1] at nr; cases nr
    refine i_reprA (d := wayT i) (.lst upd_same (by show 2 ≤ 10000; decide) (.cons (.tup ((upd_ne nr2.symm).trans ((upd_ne nz2.symm).trans e1)) (by show 2 ≤ 10000; decide) (.cons (.str _ (by decide)) (.cons (.int _) .nil))) (.cons (.bl _) .nil))) (rp_way si) (by decide) rfl (by show 2 ≤ 60; decide) ?_
    walk_at "go"
    exact q _ (s1.trans ((same_upd nq1).trans (same_upd nr)))
def p_L_read : P1 := fun x H Q _ => ∃ d, At H x d ∧ (∀ ds, seqOf d = some ds → ∀ e ∈ ds, ShortL e) ∧ SmR (resD d) ∧ ∀ H', Same H H' → Q (.str (resT (resD d)).shown) H'
theorem ok_L_read (T : Txt K mg w C_GlimError C_BadRound C_BadText C_BadLine C_BadWay C_TooLong C_Lines C_NUMBERED) : GOK P w K mg base CX0 29 "_law_read" ["_law_lines_here"] (sp1  p_L_read) := by
  refine GOK.mk (k := 28) T.d_L_read sc_L_read len1 fun f cdv A outer s H vs Q E hgu hr h => ?_
  obtain ⟨x, rfl, h⟩ := h
  refine ⟨_, (pss_cons (ps_try_as (i := 2) rfl rfl sc_L_read.nd rfl rfl ⟨rfl, by decide, Or.inl T.c_GlimError⟩ takes0 (fun W pn xe tk _ => (pss_one (ps_set (i := 1) sc_L_read.nd rfl (Or.inl rfl) (pe_fS (ok_read_ways (K := K) T) (hr.mono (by decide)) (fun σ => passAt tk σ) (pa_cons (pv 0) pa_nil))))) (fun a oe cls d pn hz hf => (pss_one (ps_ret (Fg.pe_fX (okX_L_error (K := K) T) (hr.mono (by decide)) hgu hz hf (pa_cons (pv 2) pa_nil)))))) (pss_one (ps_ret (pe_callB (Fg.cReprA K hgu hr.units) (by rfl) T.b_repr (by decide +kernel) (pa_cons (pv 1) pa_nil))))), ?_⟩
  show (_ : TS) { nx := fun _ H' => Q .non H', rt := Q } [some x, none, none] H
  obtain ⟨d, hx, sh, sm, q⟩ := h
  walk_at "go"
  refine ⟨H, d, Same.refl _, hx, sh, ?_⟩
  cases er : resD d with
  | line n k =>
    rw [er] at sm q
    intro dd H1 _ s1 hdd
    refine i_caught T.m_BadLine_GlimError fun a na => ?_
    show (_ : TS) _ [some x, none, some (.ref a)] H1
    walk_at "go"
    exact ⟨dd, _, _, _, rfl, rfl, hdd, rfl, .line n k sm.1 sm.2, fun H2 s2 => q H2 (s1.trans s2)⟩
  | way k =>
    rw [er] at sm q
    intro dd H1 _ s1 hdd
    refine i_caught T.m_BadWay_GlimError fun a na => ?_
    show (_ : TS) _ [some x, none, some (.ref a)] H1
    walk_at "go"
    exact ⟨dd, _, _, _, rfl, rfl, hdd, rfl, .way k sm, fun H2 s2 => q H2 (s1.trans s2)⟩
  | good ws =>
    rw [er] at sm q
    intro A' H' v x' hv
    walk_at "go"
    refine i_reprA (hv.same x'.ag) sm.1 (by decide) sm.2.1 (by have := sm.2.2; show PyData.depthAll ws + 1 ≤ 60; omega) ?_
    walk_at "go"
    exact q _ x'.gg
def p_L_lines : P1 := fun x H Q _ => ∃ d, At H x d ∧ d.depth < 6 ∧ SmR (wrR d) ∧ ∀ H', Same H H' → Q (.str (resT (wrR d)).shown) H'
theorem ok_L_lines (T : Txt K mg w C_GlimError C_BadRound C_BadText C_BadLine C_BadWay C_TooLong C_Lines C_NUMBERED) : GOK P w K mg base CX0 9 "_law_lines" ["_law_ways"] (sp1  p_L_lines) := by
  refine GOK.mk (k := 8) T.d_L_lines sc_L_lines len1 fun f cdv A outer s H vs Q E hgu hr h => ?_
  obtain ⟨x, rfl, h⟩ := h
  refine ⟨_, (pss_cons (ps_try_as (i := 2) rfl rfl sc_L_lines.nd rfl rfl ⟨rfl, by decide, Or.inl T.c_GlimError⟩ takes0 (fun W pn xe tk _ => (pss_one (ps_set (i := 1) sc_L_lines.nd rfl (Or.inl rfl) (pe_fS (ok_write_ways (K := K) T) (hr.mono (by decide)) (fun σ => passAt tk σ) (pa_cons (pv 0) pa_nil))))) (fun a oe cls d pn hz hf => (pss_one (ps_ret (Fg.pe_fX (okX_L_error (K := K) T) (hr.mono (by decide)) hgu hz hf (pa_cons (pv 2) pa_nil)))))) (pss_one (ps_ret (pe_callB (Fg.cReprA K hgu hr.units) (by rfl) T.b_repr (by decide +kernel) (pa_cons (pv 1) pa_nil))))), ?_⟩
  show (_ : TS) { nx := fun _ H' => Q .non H', rt := Q } [some x, none, none] H
  obtain ⟨d, hx, dp, sm, q⟩ := h
  walk_at "go"
  refine ⟨H, d, Same.refl _, hx, dp, ?_⟩
  unfold wrR at sm q
  cases er : badY (deepD d) with
  | some k =>
    rw [er] at sm q
    intro dd H1 _ s1 hdd
    refine i_caught T.m_BadWay_GlimError fun a na => ?_
    show (_ : TS) _ [some x, none, some (.ref a)] H1
    walk_at "go"
    exact ⟨dd, _, _, _, rfl, rfl, hdd, rfl, .way k sm, fun H2 s2 => q H2 (s1.trans s2)⟩
  | none =>
    rw [er] at sm q
    intro ds A' H' v ed x' hv
    rw [ed] at sm q
    have sm : SmR (.good (ds.map fun w => dS (lnW w))) := sm
    have q : ∀ H', Same H H' → Q (.str (PyData.tuple (ds.map fun w => dS (lnW w))).shown) H' := q
    walk_at "go"
    refine i_reprA (hv.same x'.ag) sm.1 (by decide) sm.2.1 (by have := sm.2.2; show PyData.depthAll (ds.map fun w => dS (lnW w)) + 1 ≤ 60; omega) ?_
    walk_at "go"
    exact q _ x'.gg
end
abbrev KINDS : List (List Nat) := [cGlass, cLame, cStand, cRest, cSlip]
inductive LnG : PyData → Prop where
  | non : LnG .none
  | sev : LnG (.int 7)
  | tup : LnG (.tuple [dS [108, 97, 109, 101, 32, 50]])
  | tru : LnG (.bool true)
  | ln {ws : List (List Nat)} (h : ∀ w ∈ ws, Wd w) (ne : ws ≠ []) (l : ws.length ≤ 10) : LnG (dS (TL.joinL [32] ws))
theorem wd_wrds {ws : List (List Nat)} (h : ∀ w ∈ ws, Wd w) (ne : ws ≠ []) : wrds ⟨(TL.joinL [32] ws).toArray⟩ = ws :=
  wrds_join ne fun l hl z => ((wd_facts (h l hl)).2 32 z).2 rfl
theorem sum_le {ws : List (List Nat)} (h : ∀ w ∈ ws, w.length ≤ 25) : (ws.map List.length).sum ≤ 25 * ws.length := by
  induction ws with
  | nil => exact Nat.le_refl _
  | cons w r ih =>
    have h1 := h w List.mem_cons_self
    have h2 := ih fun w hw => h w (List.mem_cons_of_mem _ hw)
    rw [List.map_cons, List.sum_cons, List.length_cons]
    omega
theorem join_len {ws : List (List Nat)} (h : ∀ w ∈ ws, Wd w) (ne : ws ≠ []) : (TL.joinL [32] ws).length + 1 ≤ 26 * ws.length := by
  have e := joinL_eq [32] ws ne
  have := sum_le fun w hw => (wd_facts (h w hw)).1
  rw [show ([32] : List Nat).length = 1 from rfl] at e
  omega
theorem LnG.short {e : PyData} (h : LnG e) : ShortL e := fun z ez => by
  cases h with
  | @ln ws h ne l =>
    injection ez with ez
    subst ez
    have := join_len h ne
    rw [str_len]
    omega
  | _ => cases ez
theorem rd_row {w r : List Nat} (hw : Wd w) (h : rdP w = some r) : IsRound r := by
  rw [← rd_pool hw] at h
  unfold lawRd at h
  cases e : POOL.find? (fun e => decide (e.1 = w) && e.2.isSome) with
  | some p =>
    rw [e] at h
    have key : ∀ p ∈ POOL, (match p.2 with | none => true | some r => decide (1 ≤ r.length) && (decide (r.length ≤ 24) && r.all fun c => decide (c ∈ SG))) = true := by decide +kernel
    have k := key p (List.mem_of_find?_eq_some e)
    have h : p.2 = some r := h
    rw [h] at k
    dsimp only at k
    rw [Bool.and_eq_true, Bool.and_eq_true, decide_eq_true_eq, decide_eq_true_eq, List.all_eq_true] at k
    exact ⟨k.1, k.2.1, fun c hc => of_decide_eq_true (k.2.2 c hc)⟩
  | none =>
    rw [e] at h
    dsimp only at h
    split at h
    · rename_i k
      cases h
      rw [Bool.and_eq_true, Bool.and_eq_true, decide_eq_true_eq, decide_eq_true_eq, List.all_eq_true] at k
      exact ⟨k.1, k.2.1, fun c hc => of_decide_eq_true (k.2.2 c hc)⟩
    · cases h
theorem forms_kind {k : List Nat} (h : k ∈ KINDS) : ∃ f, forms k = some [f] := by
  simp only [List.mem_cons, List.not_mem_nil, or_false] at h
  rcases h with rfl | rfl | rfl | rfl | rfl <;> exact ⟨_, rfl⟩
theorem forms_no {k : List Nat} (h : k ∉ KINDS) : forms k = none := by
  simp only [List.mem_cons, List.not_mem_nil, or_false, not_or] at h
  unfold forms
  rw [if_neg h.1, if_neg h.2.2.1, if_neg (fun z => z.elim h.2.1 fun z => z.elim h.2.2.2.1 h.2.2.2.2)]
/-- the law's reading of a line's words -/
def lnR (ws : List (List Nat)) : List PyData ⊕ Nat := if ws.getD 0 [] ∉ KINDS then .inr 0 else if ws.length = 1 then .inr 1 else match lwD (ws.getD 0 []) (ws.getD 1 []) with
  | none => .inr 1
  | some d => if 2 < ws.length then .inr 2 else .inl [dS (ws.getD 0 []), d]
theorem lnR_eq {ws : List (List Nat)} (ne : ws ≠ []) : rdW fmD forms ws = lnR ws := by
  have hl := List.length_pos_iff.mpr ne
  unfold lnR
  by_cases hk : ws.getD 0 [] ∈ KINDS
  case neg => rw [if_pos hk, rdW_none (fm := fmD) (forms_no hk)]
  rw [if_neg (fun z => z hk)]
  obtain ⟨f, hf⟩ := forms_kind hk
  rw [rdW_some (fm := fmD) hf]
  by_cases h1 : ws.length = 1
  · rw [if_pos h1, rdk_short (by omega), h1]
  rw [if_neg h1]
  unfold lwD
  rw [hf]
  dsimp only
  cases e : fmD f (ws.getD 1 []) with
  | none => rw [rdk_bad (by omega) e]
  | some d =>
    rw [rdk_ok (by omega) e]
    exact rdk_end
theorem readLn_ws {ws : List (List Nat)} (h : ∀ w ∈ ws, Wd w) (ne : ws ≠ []) : readLn fmD forms (dS (TL.joinL [32] ws)) = lnR ws := by
  rw [readLn_W, wd_wrds h ne, lnR_eq ne]
theorem lw_told {k w : List Nat} {d : PyData} (hk : k ∈ KINDS) (hw : Wd w) (h : lwD k w = some d) : ToldY k d := by
  simp only [List.mem_cons, List.not_mem_nil, or_false] at hk
  have num : (k = cLame ∨ k = cRest ∨ k = cSlip) → ToldY k d := fun hk => by
    rw [lw_nu hk] at h
    obtain ⟨v, hv, rfl⟩ := Option.map_eq_some_iff.mp h
    match w, hv with
    | [c], hv =>
      have hv : (if 49 ≤ c ∧ c ≤ 57 then some ((c : Int) - 48) else none) = some v := hv
      split at hv
      · rename_i hc
        cases hv
        exact .nm hk (by omega) (by omega)
      · cases hv
  rcases hk with rfl | rfl | rfl | rfl | rfl
  · rw [lw_gl] at h
    split at h
    · rename_i hg
      cases h
      exact .gl hg
    · cases h
  · exact num (.inl rfl)
  · rw [lw_rd] at h
    obtain ⟨r, hr, rfl⟩ := Option.map_eq_some_iff.mp h
    exact .rd (rnd_of (rd_row hw hr))
  · exact num (.inr (.inl rfl))
  · exact num (.inr (.inr rfl))
/-- a way as lines tell it, whole -/
def TW (d : PyData) : Prop := ∃ k v, d = .tuple [dS k, v] ∧ k ∈ KINDS ∧ ToldY k v
theorem TW.way {d : PyData} (h : TW d) : ∃ k v, d = .tuple [dS k, v] ∧ ToldY k v ∧ isWay d = wayK k v := by
  obtain ⟨k, v, rfl, _, ht⟩ := h
  exact ⟨k, v, rfl, ht, rfl⟩
theorem sg_small : ∀ c ∈ SG, c < 16 ^ 8 := by decide
theorem ToldY.rp {k : List Nat} {v : PyData} (h : ToldY k v) : Rp 30 v ∧ v.hasDict = false ∧ v.depth = 0 := by
  cases h with
  | gl h =>
    obtain ⟨l, rfl, h4, hr⟩ := gl_is h
    exact ⟨Rp.str (by omega) fun c hc => sg_small c (hr c hc), rfl, rfl⟩
  | rd h =>
    obtain ⟨l, rfl, hr⟩ := rnd_is h
    exact ⟨Rp.str (by have := hr.2.1; omega) fun c hc => sg_small c (hr.2.2 c hc), rfl, rfl⟩
  | nm h h1 h2 => exact ⟨(Rp.int (Nat.lt_of_le_of_lt (show _ ≤ 9 by omega) (by decide))).mono (Nat.zero_le 30), rfl, rfl⟩
theorem TW.rp {d : PyData} (h : TW d) : Rp 62 d ∧ d.hasDict = false ∧ d.depth ≤ 1 := by
  obtain ⟨k, v, rfl, hk, ht⟩ := h
  obtain ⟨r, nd, dp⟩ := ht.rp
  have kl : ∀ k ∈ KINDS, k.length ≤ 30 ∧ ∀ c ∈ k, c < 16 ^ 8 := by decide
  refine ⟨Rp.tuple (m := 30) (ds := [dS k, v]) fun d hd => ?_, ?_, ?_⟩
  · simp only [List.mem_cons, List.not_mem_nil, or_false] at hd
    rcases hd with rfl | rfl
    · exact Rp.str (kl k hk).1 (kl k hk).2
    · exact r
  · show (false || (v.hasDict || false)) = false
    rw [nd]; rfl
  · show max 0 (max v.depth 0) + 1 ≤ 1
    rw [dp]; decide
theorem nd_of {ds : List PyData} (h : ∀ d ∈ ds, d.hasDict = false) : PyData.hasDictAll ds = false := by
  induction ds with
  | nil => rfl
  | cons d r ih =>
    show (d.hasDict || PyData.hasDictAll r) = false
    rw [h d List.mem_cons_self, ih fun e he => h e (List.mem_cons_of_mem _ he)]
    rfl
theorem tw_sm {ws : List PyData} (h : ∀ d ∈ ws, TW d) (l : ws.length ≤ 100) : SmR (.good ws) :=
  ⟨(Rp.tuple (m := 62) fun d hd => (h d hd).rp.1).mono (by omega), nd_of fun d hd => (h d hd).rp.2.1, Nat.le_trans (deps_of (n := 1) fun d hd => (h d hd).rp.2.2) (by decide)⟩
/-- what good lines tell is small -/
theorem lnG_inl {e : PyData} {es : List PyData} (h : LnG e) (r : readLn fmD forms e = .inl es) : TW (.tuple es) := by
  cases h with
  | @ln ws h ne l =>
    rw [readLn_ws h ne] at r
    unfold lnR at r
    split at r
    · cases r
    rename_i hk
    split at r
    · cases r
    rename_i h1
    have hk : ws.getD 0 [] ∈ KINDS := Classical.not_not.mp hk
    have hl := List.length_pos_iff.mpr ne
    have hw : Wd (ws.getD 1 []) := by
      rw [List.getD_eq_getElem?_getD, List.getElem?_eq_getElem (by omega)]
      exact h _ (List.getElem_mem _)
    cases e : lwD (ws.getD 0 []) (ws.getD 1 []) with
    | none => rw [e] at r; cases r
    | some d =>
      rw [e] at r
      dsimp only at r
      split at r
      · cases r
      · cases r
        exact ⟨_, _, rfl, hk, lw_told hk hw e⟩
  | _ => cases r
theorem lnG_inr {e : PyData} {k : Nat} (h : LnG e) (r : readLn fmD forms e = .inr k) : k ≤ 2 := by
  cases h with
  | @ln ws h ne l =>
    rw [readLn_ws h ne] at r
    unfold lnR at r
    split at r
    · cases r; omega
    split at r
    · cases r; omega
    cases e : lwD (ws.getD 0 []) (ws.getD 1 []) with
    | none => rw [e] at r; cases r; omega
    | some d =>
      rw [e] at r
      dsimp only at r
      split at r <;> cases r
      omega
  | _ => cases r; omega
theorem all_tw : ∀ {ds : List PyData} {n : Nat} {ws : List PyData}, (∀ e ∈ ds, LnG e) → readAll (readLn fmD forms) ds n = .inl ws → (∀ d ∈ ws, TW d) ∧ ws.length = ds.length
  | [], n, ws, h, r => by cases r; exact ⟨fun d hd => absurd hd (by simp), rfl⟩
  | c :: r, n, ws, h, e => by
    have e : (match readLn fmD forms c with | .inr e => .inr (n, e) | .inl es => match readAll (readLn fmD forms) r (n + 1) with | .inl ws => .inl (.tuple es :: ws) | .inr p => .inr p : List PyData ⊕ (Nat × Nat)) = .inl ws := e
    cases e1 : readLn fmD forms c with
    | inr k => rw [e1] at e; cases e
    | inl es =>
      rw [e1] at e
      dsimp only at e
      cases e2 : readAll (readLn fmD forms) r (n + 1) with
      | inr p => rw [e2] at e; cases e
      | inl vs =>
        rw [e2] at e
        cases e
        obtain ⟨a, b⟩ := all_tw (fun e he => h e (List.mem_cons_of_mem _ he)) e2
        refine ⟨fun d hd => ?_, by rw [List.length_cons, b, List.length_cons]⟩
        rcases List.mem_cons.mp hd with rfl | hd
        · exact lnG_inl (h c List.mem_cons_self) e1
        · exact a d hd
theorem all_bad : ∀ {ds : List PyData} {n m k : Nat}, (∀ e ∈ ds, LnG e) → readAll (readLn fmD forms) ds n = .inr (m, k) → m < n + ds.length ∧ k ≤ 2
  | [], n, m, k, h, r => by cases r
  | c :: r, n, m, k, h, e => by
    have e : (match readLn fmD forms c with | .inr e => .inr (n, e) | .inl es => match readAll (readLn fmD forms) r (n + 1) with | .inl ws => .inl (.tuple es :: ws) | .inr p => .inr p : List PyData ⊕ (Nat × Nat)) = .inr (m, k) := e
    rw [List.length_cons]
    cases e1 : readLn fmD forms c with
    | inr j =>
      rw [e1] at e
      cases e
      exact ⟨by omega, lnG_inr (h c List.mem_cons_self) e1⟩
    | inl es =>
      rw [e1] at e
      dsimp only at e
      cases e2 : readAll (readLn fmD forms) r (n + 1) with
      | inr p =>
        rw [e2] at e
        cases e
        obtain ⟨a, b⟩ := all_bad (fun e he => h e (List.mem_cons_of_mem _ he)) e2
        exact ⟨by omega, b⟩
      | inl vs => rw [e2] at e; cases e
theorem badAt_lt {ds : List PyData} {n : Nat} (h : badAt ds = some n) : n < ds.length := by
  unfold badAt at h
  obtain ⟨h1, _⟩ := List.findIdx?_eq_some_iff_getElem.mp h
  exact h1
theorem res_sm {ds : List PyData} (h : ∀ e ∈ ds, LnG e) (l : ds.length ≤ 100) : SmR (resA ds) := by
  unfold resA
  cases e : readAll (readLn fmD forms) ds 0 with
  | inr p =>
    obtain ⟨m, k⟩ := p
    obtain ⟨a, b⟩ := all_bad h e
    exact ⟨by omega, by omega⟩
  | inl ws =>
    obtain ⟨a, b⟩ := all_tw h e
    show SmR (resW ws)
    unfold resW
    cases eb : badY (.tuple ws) with
    | none => exact tw_sm a (by omega)
    | some k =>
      obtain ⟨n, hn, rfl⟩ := Option.map_eq_some_iff.mp (show (badAt ws).map (fun n : Nat => (n : Int)) = some k from eb)
      have := badAt_lt hn
      show (n : Int).natAbs < 10 ^ 30
      exact Nat.lt_of_le_of_lt (show (n : Int).natAbs ≤ 100 by omega) (by decide)
theorem LnG.str {c : PyData} (h : LnG c) (e : isStrD c = true) : ∃ ws, c = dS (TL.joinL [32] ws) ∧ (∀ w ∈ ws, Wd w) ∧ ws ≠ [] ∧ ws.length ≤ 10 := by
  cases h with
  | ln h ne l => exact ⟨_, rfl, h, ne, l⟩
  | _ => cases e
theorem i_ninL {K : PySem.W.Frag} {H : Hp} {Q : VK} {p : Addr} {ms : List (List Nat)} {l : List Nat} (h : H p = some (.lst (ms.map S))) (q : Q (.bl (!decide (l ∈ ms))) H) : notInP K (S l) (.ref p) H Q :=
  .inr ⟨p, _, rfl, .inl (.inl (.inl h)), rfl, flat_S ms, by rw [if_pos rfl, inV_S]; exact q⟩
theorem nostr_ln {c : PyData} (e : isStrD c = false) : readLn fmD forms c = .inr 0 := by
  cases c <;> first
    | rfl
    | cases e
section
variable {P : Program} {w : World} {K : PySem.W.Frag} {mg : Str → Option Value} {base : Heap} {C_GlimError C_BadRound C_BadText C_BadLine C_BadWay C_TooLong C_Lines C_NUMBERED : Addr}
def p_L_due : P1 := fun x H Q _ => ∃ a xs ds, x = .ref a ∧ (H a = some (.lst xs) ∨ H a = some (.tup xs)) ∧ AtAll H xs ds ∧ ds.length ≤ 100 ∧ (∀ e ∈ ds, LnG e) ∧ ∀ H', Same H H' → Q (.str (resT (resA ds)).shown) H'
theorem ok_L_due (T : Txt K mg w C_GlimError C_BadRound C_BadText C_BadLine C_BadWay C_TooLong C_Lines C_NUMBERED) : GOK P w K mg base CX0 4 "_law_due" ["_law_lines_here"] (sp1  p_L_due) := by
  refine GOK.mk (k := 3) T.d_L_due sc_L_due len1 fun f cdv A outer s H vs Q E hgu hr h => ?_
  obtain ⟨x, rfl, h⟩ := h
  refine ⟨_, (pss_cons (ps_set (i := 1) sc_L_due.nd rfl (Or.inl rfl) (pe_lst pa_nil)) (pss_cons (ps_for PassesOwn.never rfl (pi_range1 rfl T.b_range (pa_cons (pe_callB (cLen K) (by rfl) T.b_len (by decide +kernel) (pa_cons (pv 0) pa_nil)) pa_nil)) (pg_name (i := 2) sc_L_due.nd rfl (Or.inl rfl)) (pss_cons (ps_if (pt_not (pt_val (pe_callB (cIsi K) (by rfl) T.b_isinstance (by decide +kernel) (pa_cons (pe_ix (ixK K) (pv 0) (pv 2) (fun _ _ => rfl)) (pa_cons (pe_bltn (v := .ty "str") (by rfl) T.b_str (by decide +kernel) rfl) pa_nil))))) (pss_one (ps_ret (pe_callB (Fg.cReprA K hgu hr.units) (by rfl) T.b_repr (by decide +kernel) (pa_cons (pe_lst (pa_cons (pe_tup (pa_cons (pe_S [108, 105, 110, 101]) (pa_cons (pv 2) (pa_cons pe_int pa_nil)))) (pa_cons pe_bl pa_nil))) pa_nil)))) pss_nil) (pss_cons (ps_set (i := 3) sc_L_due.nd rfl (Or.inl rfl) (peSplit K (pe_ix (ixK K) (pv 0) (pv 2) (fun _ _ => rfl)) (pa_cons (pe_S [32]) pa_nil))) (pss_cons (ps_if (pt_cmpR (opNotIn K) (pe_ix (ixK K) (pv 3) pe_int (fun _ _ => rfl)) (pe_lst (pa_cons (pe_S [103, 108, 97, 115, 115]) (pa_cons (pe_S [108, 97, 109, 101]) (pa_cons (pe_S [115, 116, 97, 110, 100, 105, 110]) (pa_cons (pe_S [114, 101, 115, 116, 97, 114, 116]) (pa_cons (pe_S [115, 108, 105, 112]) pa_nil)))))) (by with_unfolding_all rfl)) (pss_one (ps_ret (pe_callB (Fg.cReprA K hgu hr.units) (by rfl) T.b_repr (by decide +kernel) (pa_cons (pe_lst (pa_cons (pe_tup (pa_cons (pe_S [108, 105, 110, 101]) (pa_cons (pv 2) (pa_cons pe_int pa_nil)))) (pa_cons pe_bl pa_nil))) pa_nil)))) pss_nil) (pss_cons (ps_if (pt_cmpR (opEq K hr.units) (pe_callB (cLen K) (by rfl) T.b_len (by decide +kernel) (pa_cons (pv 3) pa_nil)) pe_int (nomark _)) (pss_one (ps_ret (pe_callB (Fg.cReprA K hgu hr.units) (by rfl) T.b_repr (by decide +kernel) (pa_cons (pe_lst (pa_cons (pe_tup (pa_cons (pe_S [108, 105, 110, 101]) (pa_cons (pv 2) (pa_cons pe_int pa_nil)))) (pa_cons pe_bl pa_nil))) pa_nil)))) pss_nil) (pss_cons (ps_set (i := 4) sc_L_due.nd rfl (Or.inl rfl) (pe_f (ok_L_line_way (K := K) T) (hr.mono (by decide)) pass0 (pa_cons (pv 3) pa_nil))) (pss_cons (ps_if (pt_cmpR op_isP (pv 4) pe_non (nomark _)) (pss_one (ps_ret (pe_callB (Fg.cReprA K hgu hr.units) (by rfl) T.b_repr (by decide +kernel) (pa_cons (pe_lst (pa_cons (pe_tup (pa_cons (pe_S [108, 105, 110, 101]) (pa_cons (pv 2) (pa_cons pe_int pa_nil)))) (pa_cons pe_bl pa_nil))) pa_nil)))) pss_nil) (pss_cons (ps_if (pt_cmpR op_gtP (pe_callB (cLen K) (by rfl) T.b_len (by decide +kernel) (pa_cons (pv 3) pa_nil)) pe_int (nomark _)) (pss_one (ps_ret (pe_callB (Fg.cReprA K hgu hr.units) (by rfl) T.b_repr (by decide +kernel) (pa_cons (pe_lst (pa_cons (pe_tup (pa_cons (pe_S [108, 105, 110, 101]) (pa_cons (pv 2) (pa_cons pe_int pa_nil)))) (pa_cons pe_bl pa_nil))) pa_nil)))) pss_nil) (pss_one (ps_expr (peApp K (pv 1) (pa_cons (pv 4) pa_nil)))))))))))) (pss_cons (ps_for PassesOwn.never rfl (pi_range1 rfl T.b_range (pa_cons (pe_callB (cLen K) (by rfl) T.b_len (by decide +kernel) (pa_cons (pv 1) pa_nil)) pa_nil)) (pg_name (i := 2) sc_L_due.nd rfl (Or.inl rfl)) (pss_one (ps_if (pt_not (pt_val (pe_f (ok_L_is_good (K := K) T) (hr.mono (by decide)) pass0 (pa_cons (pe_ix (ixK K) (pv 1) (pv 2) (fun _ _ => rfl)) pa_nil)))) (pss_one (ps_ret (pe_callB (Fg.cReprA K hgu hr.units) (by rfl) T.b_repr (by decide +kernel) (pa_cons (pe_lst (pa_cons (pe_tup (pa_cons (pe_S [119, 97, 121]) (pa_cons (pv 2) pa_nil))) (pa_cons pe_bl pa_nil))) pa_nil)))) pss_nil))) (pss_one (ps_ret (pe_callB (Fg.cReprA K hgu hr.units) (by rfl) T.b_repr (by decide +kernel) (pa_cons (pe_callTy (cTup K) (by rfl) T.b_tuple (by decide +kernel) (pa_cons (pv 1) pa_nil)) pa_nil))))))), ?_⟩
  show (_ : TS) { nx := fun _ H' => Q .non H', rt := Q } [some x, none, none, none, none] H
  obtain ⟨a, xs, ds, rfl, hs, al, dl, hg, q⟩ := h
  have ll := al.len
  have hsS : ∀ {G : Hp}, Same H G → G a = some (.lst xs) ∨ G a = some (.tup xs) := fun s => hs.imp (s _ _) (s _ _)
  walk_at "go"
  refine i_new (by show 0 ≤ 100000; omega) fun L nL => ?_
  have hid0 : Hid H H L [] (upd H L (.lst [])) := Hid.new (Same.refl _) nL
  have sL : Same H (upd H L (.lst [])) := same_upd nL
  walk_at "go"
  refine f_rng1 ds.length (fun R k => by
    walk_at "go"
    refine i_lenQ (hsS sL) ?_
    rw [ll]
    walk_at "go"
    exact k) (by omega) (fun i σ G => ∃ v2 v3 v4 ws, σ = [some (.ref a), some (.ref L), v2, v3, v4] ∧ Hid H H L ws G ∧ (∀ d ∈ ws, TW d) ∧ ws.length = i ∧ readAll (readLn fmD forms) ds 0 = comb ws (readAll (readLn fmD forms) (ds.drop i) i))
    ⟨none, none, none, [], rfl, hid0, fun d hd => absurd hd (by simp), rfl, ?_⟩ ?_ ?_
  · rw [List.drop_zero]
    cases readAll (readLn fmD forms) ds 0 <;> rfl
  · rintro i σ G hi ⟨v2, v3, v4, ws, rfl, hid, tw, wl, ra⟩
    show (_ : TS) _ [some (.ref a), some (.ref L), some (.int (i : Int)), v3, v4] G
    obtain ⟨A1, l1, x1, eL, al1, ll1, k1⟩ := hid.op
    have sG : Same H G := x1.gg
    have hdi : ds[i]? = some ds[i] := List.getElem?_eq_getElem hi
    generalize ds[i] = c at hdi
    obtain ⟨v, hv, av⟩ := al.at hdi
    have gc := hg c (List.mem_of_getElem? hdi)
    have bad : ∀ {k : Nat}, readLn fmD forms c = .inr k → resA ds = .line i k := fun e => by
      unfold resA
      rw [readAll_bad ra hdi e]
    have lret : ∀ {k : Nat} {G1 : Hp}, readLn fmD forms c = .inr k → Same H G1 → ∀ p, G1 p = none → ∀ p2, (upd G1 p (.tup [S cLine, .int (i : Int), .int (k : Int)])) p2 = none → rReprA K [.ref p2] (upd (upd G1 p (.tup [S cLine, .int (i : Int), .int (k : Int)])) p2 (.lst [.ref p, .bl true])) fun x H' => Q x H' := fun {k G1} e s p np p2 n2 => by
      obtain ⟨h1, h2⟩ := told_line s np n2
      refine i_reprA h1 (rp_line (n := i) (k := k) (by omega) (by have := lnG_inr gc e; omega)) (by decide) rfl (by show 2 ≤ 60; decide) ?_
      have := q _ h2
      rw [bad e] at this
      exact this
    walk_at "go"
    refine i_ixQ (hsS sG) hv ?_
    walk_at "go"
    cases ec : isStrD c with
    | false =>
      have e0 := nostr_ln ec
      refine i_isiStr false (av.same sG) ec ?_
      walk_at "go"
      refine i_new (by show 3 ≤ 100000; omega) fun p np => ?_
      walk_at "go"
      refine i_new (by show 2 ≤ 100000; omega) fun p2 n2 => ?_
      walk_at "go"
      exact lret (k := 0) e0 sG p np p2 n2
    | true =>
    refine i_isiStr true (av.same sG) ec ?_
    obtain ⟨wv, rfl, hw, ne, l10⟩ := gc.str ec
    have er := readLn_ws hw ne
    have ew := wd_wrds hw ne
    have jl := join_len hw ne
    have pos := List.length_pos_iff.mpr ne
    obtain ⟨l, rfl, el, hl0⟩ := av.strl
    obtain rfl : TL.joinL [32] wv = l := dS_inj (congrArg PyData.str el)
    clear el
    walk_at "go"
    refine i_ixQ (hsS sG) hv ?_
    walk_at "go"
    refine ⟨rfl, ?_⟩
    walk_at "go"
    refine ⟨_, ⟨#[32]⟩, rfl, rfl, rfl, ?_, ?_⟩
    · rw [str_len]
      exact Nat.le_trans (show (TL.joinL [32] wv).length + 2 ≤ 100000 by omega) (by decide)
    intro pp np
    rw [words_V, ew]
    obtain ⟨eL2, hid2, k2⟩ := k1 _ _ ((Ext.refl x1.ag).hid (o := .lst (wv.map S)) np)
    have s2 : Same H (upd G pp (.lst (wv.map S))) := sG.trans (same_upd np)
    have eW : (upd G pp (.lst (wv.map S))) pp = some (.lst (wv.map S)) := upd_same
    have nLp : pp ≠ L := fun z => by rw [z, eL] at np; cases np
    generalize upd G pp (.lst (wv.map S)) = G2 at *
    unfold lnR at er
    have w0 : (wv.map S)[0]? = some (S (wv.getD 0 [])) := by rw [List.getElem?_map, List.getD_eq_getElem?_getD, List.getElem?_eq_getElem (by omega)]; rfl
    walk_at "go"
    refine i_ix_lst (.inl (.inl eW)) (atI_int (by decide) w0) ?_
    walk_at "go"
    refine i_new (by show 5 ≤ 100000; omega) fun kl nkl => ?_
    have ekl : upd G2 kl (.lst (KINDS.map S)) kl = some (.lst (KINDS.map S)) := upd_same
    have s3 : Same H (upd G2 kl (.lst (KINDS.map S))) := s2.trans (same_upd nkl)
    have eW3 : upd G2 kl (.lst (KINDS.map S)) pp = some (.lst (wv.map S)) := same_upd nkl _ _ eW
    have hid3 : Hid H H L ws (upd G2 kl (.lst (KINDS.map S))) := hid2.hid nkl
    refine i_ninL (ms := KINDS) ekl ?_
    generalize hG3 : upd G2 kl (.lst (KINDS.map S)) = G3 at *
    have hG3' : upd G2 kl (.lst [S [103, 108, 97, 115, 115], S [108, 97, 109, 101], S [115, 116, 97, 110, 100, 105, 110], S [114, 101, 115, 116, 97, 114, 116], S [115, 108, 105, 112]]) = G3 := hG3
    rw [hG3']
    clear hG3 hG3'
    have len3 : ∀ {G4 : Hp} {R : VK}, Same G3 G4 → R (.int (wv.length : Int)) G4 → rLenP K [.ref pp] G4 R := fun s k => i_len_lst (.inl (.inl (s _ _ eW3))) (by rw [List.length_map]; exact k)
    walk_at "go"
    refine i_decN (fun e0 => ?_) (fun e0 => ?_)
    · rw [if_pos e0] at er
      walk_at "go"
      refine i_new (by show 3 ≤ 100000; omega) fun p np => ?_
      walk_at "go"
      refine i_new (by show 2 ≤ 100000; omega) fun p2 n2 => ?_
      walk_at "go"
      exact lret (k := 0) er s3 p np p2 n2
    rw [if_neg (fun z => z e0)] at er
    walk_at "go"
    refine len3 (Same.refl _) ?_
    walk_at "go"
    refine i_dec (fun e1 => ?_) (fun e1 => ?_)
    · rw [if_pos (by omega)] at er
      walk_at "go"
      refine i_new (by show 3 ≤ 100000; omega) fun p np => ?_
      walk_at "go"
      refine i_new (by show 2 ≤ 100000; omega) fun p2 n2 => ?_
      walk_at "go"
      exact lret (k := 1) er s3 p np p2 n2
    rw [if_neg (by omega)] at er
    obtain ⟨A3, l3, x3, eL3, al3, ll3, k3⟩ := hid3.op
    walk_at "go"
    refine ⟨A3, pp, wv, x3.ag, rfl, eW3, by omega, e0, hw _ (by
      rw [List.getD_eq_getElem?_getD, List.getElem?_eq_getElem (by omega)]
      exact List.getElem_mem _), fun A4 G4 y x4 hy => ?_⟩
    have s4 : Same H G4 := s3.trans x4.gg
    cases elw : lwD (wv.getD 0 []) (wv.getD 1 []) with
    | none =>
      rw [elw] at hy er
      dsimp only at hy er
      subst hy
      walk_at "go"
      refine i_new (by show 3 ≤ 100000; omega) fun p np => ?_
      walk_at "go"
      refine i_new (by show 2 ≤ 100000; omega) fun p2 n2 => ?_
      walk_at "go"
      exact lret (k := 1) er s4 p np p2 n2
    | some d =>
      rw [elw] at hy er
      dsimp only at hy er
      obtain ⟨b, zs, rfl, eb, _, _⟩ := id hy.tupled
      walk_at "go"
      refine len3 x4.gg ?_
      walk_at "go"
      refine i_dec (fun e2 => ?_) (fun e2 => ?_)
      · rw [if_pos (by omega)] at er
        walk_at "go"
        refine i_new (by show 3 ≤ 100000; omega) fun p np => ?_
        walk_at "go"
        refine i_new (by show 2 ≤ 100000; omega) fun p2 n2 => ?_
        walk_at "go"
        exact lret (k := 2) er s4 p np p2 n2
      · rw [if_neg (by omega)] at er
        obtain ⟨eL4, _, k4⟩ := k3 _ _ x4
        have tw1 := lnG_inl gc er
        walk_at "go"
        refine i_appAt eL4 ?_
        walk_at "go"
        refine i_appEnd eL4 (by rw [ll3]; omega) ?_
        refine ⟨_, _, _, ws ++ [.tuple [dS (wv.getD 0 []), d]], rfl, k4 _ _ ((al3.same x4.aa).app (.one hy)), fun e he => ?_, by rw [List.length_append, wl]; rfl, readAll_turn ra hdi er⟩
        rcases List.mem_append.mp he with he | he
        · exact tw e he
        · rw [List.mem_singleton.mp he]; exact tw1
  rintro σ G ⟨v2, v3, v4, ws, rfl, hid, tw, wl, ra⟩
  rw [List.drop_length] at ra
  have ra : readAll (readLn fmD forms) ds 0 = .inl ws := by
    rw [ra]
    show Sum.inl (ws ++ []) = _
    rw [List.append_nil]
  have er : resA ds = resW ws := by unfold resA; rw [ra]
  rw [er] at q
  obtain ⟨A1, l1, x1, eL, eLA, al1, at1, ll1⟩ := hid.cl (Same.refl _) (by omega)
  have sG : Same H G := x1.gg
  walk_at "go"
  refine f_rng1 ws.length (fun R k => by
    walk_at "go"
    refine i_len_lst (.inl (.inl eL)) ?_
    rw [ll1]
    walk_at "go"
    exact k) (by omega) (fun i σ G1 => ∃ v2, σ = [some (.ref a), some (.ref L), v2, v3, v4] ∧ Same G G1 ∧ ∀ k < i, ∀ e, ws[k]? = some e → isWay e = true)
    ⟨v2, rfl, Same.refl _, fun k hk => absurd hk (Nat.not_lt_zero _)⟩ ?_ ?_
  · rintro i σ G1 hi ⟨v2', rfl, s1, hb⟩
    show (_ : TS) _ [some (.ref a), some (.ref L), some (.int (i : Int)), v3, v4] G1
    have hwi : ws[i]? = some ws[i] := List.getElem?_eq_getElem hi
    generalize ws[i] = e at hwi
    obtain ⟨y, hy, ay⟩ := al1.at hwi
    obtain ⟨k, v, rfl, ht, ew⟩ := (tw e (List.mem_of_getElem? hwi)).way
    walk_at "go"
    refine i_ix_lst (.inl (.inl (s1 _ _ eL))) (atI_nat hy) ?_
    walk_at "go"
    refine ⟨k, v, (ay.same x1.ag).same s1, ht, fun G2 s2 => ?_⟩
    have s12 := s1.trans s2
    rw [← ew]
    refine ⟨_, rfl, ?_⟩
    cases eb : isWay (.tuple [dS k, v]) with
    | true =>
      walk_at "go"
      refine ⟨_, rfl, s12, fun k hk e' he' => ?_⟩
      rcases Nat.lt_or_ge k i with z | z
      · exact hb k z e' he'
      · obtain rfl : k = i := by omega
        rw [hwi] at he'
        cases he'
        exact eb
    | false =>
      have ewr : resW ws = .way (i : Int) := by
        unfold resW
        show (match (badAt ws).map fun n : Nat => (n : Int) with | some k => Rs.way k | none => .good ws) = _
        rw [badAt_some hwi eb hb]
        rfl
      walk_at "go"
      refine i_new (by show 2 ≤ 100000; omega) fun p np => ?_
      walk_at "go"
      refine i_new (by show 2 ≤ 100000; omega) fun p2 n2 => ?_
      obtain ⟨h1, h2⟩ := told_way (sG.trans s12) np n2
      walk_at "go"
      refine i_reprA h1 (rp_way (i := (i : Int)) (Nat.lt_of_le_of_lt (show ((i : Int)).natAbs ≤ 100 by omega) (by decide))) (by decide) rfl (by show 2 ≤ 60; decide) ?_
      rw [ewr] at q
      exact q _ h2
  · rintro σ G1 ⟨v2', rfl, s1, hb⟩
    have ewr : resW ws = .good ws := by
      unfold resW
      show (match (badAt ws).map fun n : Nat => (n : Int) with | some k => Rs.way k | none => .good ws) = _
      rw [badAt_none fun d hd => by
        obtain ⟨k, hk, e⟩ := List.mem_iff_getElem.mp hd
        exact hb k hk d (by rw [List.getElem?_eq_getElem hk, e])]
      rfl
    rw [ewr] at q
    have sm := tw_sm tw (by omega)
    walk_at "go"
    refine i_tuple_lst (.inl (.inl (s1 _ _ eL))) fun tl ntl => ?_
    walk_at "go"
    refine i_reprA (d := .tuple ws) (At.mkTup upd_same (((al1.same x1.ag).same s1).same (same_upd ntl)) (by omega)) sm.1 (by decide) sm.2.1 (by have := sm.2.2; show PyData.depthAll ws + 1 ≤ 60; omega) ?_
    exact q _ ((sG.trans s1).trans (same_upd ntl))
end
abbrev MENU : List PyData := [.tuple [dS [103, 108, 97, 115, 115], dS [46, 46, 46]], .tuple [dS [103, 108, 97, 115, 115], dS [103, 46, 120, 46]], .tuple [dS [103, 108, 97, 115, 115], .int 4], .tuple [dS [108, 97, 109, 101], .int 1], .tuple [dS [108, 97, 109, 101], .int 5], .tuple [dS [108, 97, 109, 101], dS [50]], .tuple [dS [115, 116, 97, 110, 100, 105, 110], dS []], .tuple [dS [115, 116, 97, 110, 100, 105, 110], dS [119, 119, 119, 119, 119, 119, 119, 119, 119, 119, 119, 119, 119, 119, 119, 119, 119, 119, 119, 119, 119, 119, 119, 119, 119]], .tuple [dS [114, 101, 115, 116, 97, 114, 116], .int 0], .tuple [dS [114, 101, 115, 116, 97, 114, 116], .int 4], .tuple [dS [114, 101, 115, 116, 97, 114, 116], .bool true], .tuple [dS [115, 108, 105, 112], .int 1], .tuple [dS [115, 108, 105, 112], .int 10], .tuple [dS [115, 108, 105, 112], .int 3, .int 3], .tuple [dS [111, 117, 116], .int 2], .tuple [], .none, .int 7, dS [108, 97, 109, 101, 32, 50], .tuple [dS [108, 97, 109, 101]], .tuple [dS [115, 116, 97, 110, 100, 105, 110], dS [50, 119]]]
theorem menu_odd : (MENU.all fun e => !isWay (deepD e) && decide (e.depth ≤ 1)) = true := by decide +kernel
theorem growO {K : PySem.W.Frag} {d : Dd} {f A G : Hp} {p : Addr} {xs zs : List V} {ds es : List PyData} (x : D2 K d f A G) (al : AtAll A xs ds) (n : G p = none) (az : ∀ B, AtAll B zs es) (l : es.length ≤ 3) :
    ∃ A2, Same A A2 ∧ D2 K d f A2 (upd G p (.tup zs)) ∧ AtAll A2 (xs ++ [.ref p]) (ds ++ [.tuple es]) :=
  ⟨_, same_upd (x.free n), x.new n, (al.same (same_upd (x.free n))).app (.one (At.mkTup upd_same (az _) (by omega)))⟩
section
variable {P : Program} {w : World} {K : PySem.W.Frag} {mg : Str → Option Value} {base : Heap} {C_GlimError C_BadRound C_BadText C_BadLine C_BadWay C_TooLong C_Lines C_NUMBERED : Addr}
def p_L_odd (K : PySem.W.Frag) : P1 := fun x H Q _ => ∃ A d f, x = .ref d.a ∧ D2 K d f A H ∧ ∀ e A' H' v, Same A A' → D2 K d f A' H' → At A' v e → isWay (deepD e) = false → e.depth ≤ 1 → Q v H'
theorem ok_L_odd_way (T : Txt K mg w C_GlimError C_BadRound C_BadText C_BadLine C_BadWay C_TooLong C_Lines C_NUMBERED) : OK P w K mg base CX0 3 "_law_odd_way" ["_law_draw_here"] (sp1  (p_L_odd K)) := by
  refine OK.mk (k := 2) T.d_L_odd_way sc_L_odd_way len1 fun f cdv A outer s H vs Q E hr h => ?_
  obtain ⟨x, rfl, h⟩ := h
  refine ⟨_, (pss_cons (ps_set (i := 1) sc_L_odd_way.nd rfl (Or.inl rfl) (pe_lst (pa_cons (pe_tup (pa_cons (pe_S [103, 108, 97, 115, 115]) (pa_cons (pe_S [46, 46, 46]) pa_nil))) (pa_cons (pe_tup (pa_cons (pe_S [103, 108, 97, 115, 115]) (pa_cons (pe_S [103, 46, 120, 46]) pa_nil))) (pa_cons (pe_tup (pa_cons (pe_S [103, 108, 97, 115, 115]) (pa_cons pe_int pa_nil))) (pa_cons (pe_tup (pa_cons (pe_S [108, 97, 109, 101]) (pa_cons pe_int pa_nil))) (pa_cons (pe_tup (pa_cons (pe_S [108, 97, 109, 101]) (pa_cons pe_int pa_nil))) (pa_cons (pe_tup (pa_cons (pe_S [108, 97, 109, 101]) (pa_cons (pe_S [50]) pa_nil))) (pa_cons (pe_tup (pa_cons (pe_S [115, 116, 97, 110, 100, 105, 110]) (pa_cons (pe_S []) pa_nil))) (pa_cons (pe_tup (pa_cons (pe_S [115, 116, 97, 110, 100, 105, 110]) (pa_cons (pe_op op_mulP (pe_S [119]) pe_int) pa_nil))) (pa_cons (pe_tup (pa_cons (pe_S [114, 101, 115, 116, 97, 114, 116]) (pa_cons pe_int pa_nil))) (pa_cons (pe_tup (pa_cons (pe_S [114, 101, 115, 116, 97, 114, 116]) (pa_cons pe_int pa_nil))) (pa_cons (pe_tup (pa_cons (pe_S [114, 101, 115, 116, 97, 114, 116]) (pa_cons pe_bl pa_nil))) (pa_cons (pe_tup (pa_cons (pe_S [115, 108, 105, 112]) (pa_cons pe_int pa_nil))) (pa_cons (pe_tup (pa_cons (pe_S [115, 108, 105, 112]) (pa_cons pe_int pa_nil))) (pa_cons (pe_tup (pa_cons (pe_S [115, 108, 105, 112]) (pa_cons pe_int (pa_cons pe_int pa_nil)))) (pa_cons (pe_tup (pa_cons (pe_S [111, 117, 116]) (pa_cons pe_int pa_nil))) (pa_cons (pe_tup pa_nil) (pa_cons pe_non (pa_cons pe_int (pa_cons (pe_S [108, 97, 109, 101, 32, 50]) (pa_cons (pe_tup (pa_cons (pe_S [108, 97, 109, 101]) pa_nil)) (pa_cons (pe_tup (pa_cons (pe_S [115, 116, 97, 110, 100, 105, 110]) (pa_cons (pe_S [50, 119]) pa_nil))) pa_nil))))))))))))))))))))))) (pss_one (ps_ret (pe_ix (ixK K) (pv 1) (pe_f (ok_L_pick (K := K) T) (hr.mono (by decide)) pass0 (pa_cons (pv 0) (pa_cons (pe_callB (cLen K) (by rfl) T.b_len (by decide +kernel) (pa_cons (pv 1) pa_nil)) pa_nil))) (fun _ _ => rfl))))), ?_⟩
  show (_ : TS) { nx := fun _ H' => Q .non H', rt := Q } [some x, none] H
  obtain ⟨A0, d, f, rfl, dr, q⟩ := h
  have sA : Same A0 A0 := Same.refl _
  have al : AtAll A0 [] [] := .nil
  walk_at "go"
  refine i_new (by show 2 ≤ 100000; omega) fun p0 n0 => ?_
  obtain ⟨A1, s0, dr, al⟩ := growO dr al n0 (zs := [S [103, 108, 97, 115, 115], S [46, 46, 46]]) (es := [dS [103, 108, 97, 115, 115], dS [46, 46, 46]]) (fun _ => (.cons (.str _ (by decide)) (.cons (.str _ (by decide)) .nil))) (by show 2 ≤ 3; decide)
  replace sA := sA.trans s0
  clear s0 n0
  generalize upd H p0 (.tup [S [103, 108, 97, 115, 115], S [46, 46, 46]]) = G0 at *
  walk_at "go"
  refine i_new (by show 2 ≤ 100000; omega) fun p1 n1 => ?_
  obtain ⟨A2, s1, dr, al⟩ := growO dr al n1 (zs := [S [103, 108, 97, 115, 115], S [103, 46, 120, 46]]) (es := [dS [103, 108, 97, 115, 115], dS [103, 46, 120, 46]]) (fun _ => (.cons (.str _ (by decide)) (.cons (.str _ (by decide)) .nil))) (by show 2 ≤ 3; decide)
  replace sA := sA.trans s1
  clear s1 n1
  generalize upd G0 p1 (.tup [S [103, 108, 97, 115, 115], S [103, 46, 120, 46]]) = G1 at *
  walk_at "go"
  refine i_new (by show 2 ≤ 100000; omega) fun p2 n2 => ?_
  obtain ⟨A3, s2, dr, al⟩ := growO dr al n2 (zs := [S [103, 108, 97, 115, 115], .int 4]) (es := [dS [103, 108, 97, 115, 115], .int 4]) (fun _ => (.cons (.str _ (by decide)) (.cons (.int _) .nil))) (by show 2 ≤ 3; decide)
  replace sA := sA.trans s2
  clear s2 n2
  generalize upd G1 p2 (.tup [S [103, 108, 97, 115, 115], .int 4]) = G2 at *
  walk_at "go"
  refine i_new (by show 2 ≤ 100000; omega) fun p3 n3 => ?_
  obtain ⟨A4, s3, dr, al⟩ := growO dr al n3 (zs := [S [108, 97, 109, 101], .int 1]) (es := [dS [108, 97, 109, 101], .int 1]) (fun _ => (.cons (.str _ (by decide)) (.cons (.int _) .nil))) (by show 2 ≤ 3; decide)
  replace sA := sA.trans s3
  clear s3 n3
  generalize upd G2 p3 (.tup [S [108, 97, 109, 101], .int 1]) = G3 at *
  walk_at "go"
  refine i_new (by show 2 ≤ 100000; omega) fun p4 n4 => ?_
  obtain ⟨A5, s4, dr, al⟩ := growO dr al n4 (zs := [S [108, 97, 109, 101], .int 5]) (es := [dS [108, 97, 109, 101], .int 5]) (fun _ => (.cons (.str _ (by decide)) (.cons (.int _) .nil))) (by show 2 ≤ 3; decide)
  replace sA := sA.trans s4
  clear s4 n4
  generalize upd G3 p4 (.tup [S [108, 97, 109, 101], .int 5]) = G4 at *
  walk_at "go"
  refine i_new (by show 2 ≤ 100000; omega) fun p5 n5 => ?_
  obtain ⟨A6, s5, dr, al⟩ := growO dr al n5 (zs := [S [108, 97, 109, 101], S [50]]) (es := [dS [108, 97, 109, 101], dS [50]]) (fun _ => (.cons (.str _ (by decide)) (.cons (.str _ (by decide)) .nil))) (by show 2 ≤ 3; decide)
  replace sA := sA.trans s5
  clear s5 n5
  generalize upd G4 p5 (.tup [S [108, 97, 109, 101], S [50]]) = G5 at *
  walk_at "go"
  refine i_new (by show 2 ≤ 100000; omega) fun p6 n6 => ?_
  obtain ⟨A7, s6, dr, al⟩ := growO dr al n6 (zs := [S [115, 116, 97, 110, 100, 105, 110], S []]) (es := [dS [115, 116, 97, 110, 100, 105, 110], dS []]) (fun _ => (.cons (.str _ (by decide)) (.cons (.str _ (by decide)) .nil))) (by show 2 ≤ 3; decide)
  replace sA := sA.trans s6
  clear s6 n6
  generalize upd G5 p6 (.tup [S [115, 116, 97, 110, 100, 105, 110], S []]) = G6 at *
  walk_at "go"
  refine i_mul_strI (by decide) (by decide) ?_
  rw [show (List.replicate ((25 : Int)).toNat [119]).flatten = [119, 119, 119, 119, 119, 119, 119, 119, 119, 119, 119, 119, 119, 119, 119, 119, 119, 119, 119, 119, 119, 119, 119, 119, 119] from rfl]
  walk_at "go"
  refine i_new (by show 2 ≤ 100000; omega) fun p7 n7 => ?_
  obtain ⟨A8, s7, dr, al⟩ := growO dr al n7 (zs := [S [115, 116, 97, 110, 100, 105, 110], S [119, 119, 119, 119, 119, 119, 119, 119, 119, 119, 119, 119, 119, 119, 119, 119, 119, 119, 119, 119, 119, 119, 119, 119, 119]]) (es := [dS [115, 116, 97, 110, 100, 105, 110], dS [119, 119, 119, 119, 119, 119, 119, 119, 119, 119, 119, 119, 119, 119, 119, 119, 119, 119, 119, 119, 119, 119, 119, 119, 119]]) (fun _ => (.cons (.str _ (by decide)) (.cons (.str _ (by decide)) .nil))) (by show 2 ≤ 3; decide)
  replace sA := sA.trans s7
  clear s7 n7
  generalize upd G6 p7 (.tup [S [115, 116, 97, 110, 100, 105, 110], S [119, 119, 119, 119, 119, 119, 119, 119, 119, 119, 119, 119, 119, 119, 119, 119, 119, 119, 119, 119, 119, 119, 119, 119, 119]]) = G7 at *
  walk_at "go"
  refine i_new (by show 2 ≤ 100000; omega) fun p8 n8 => ?_
  obtain ⟨A9, s8, dr, al⟩ := growO dr al n8 (zs := [S [114, 101, 115, 116, 97, 114, 116], .int 0]) (es := [dS [114, 101, 115, 116, 97, 114, 116], .int 0]) (fun _ => (.cons (.str _ (by decide)) (.cons (.int _) .nil))) (by show 2 ≤ 3; decide)
  replace sA := sA.trans s8
  clear s8 n8
  generalize upd G7 p8 (.tup [S [114, 101, 115, 116, 97, 114, 116], .int 0]) = G8 at *
  walk_at "go"
  refine i_new (by show 2 ≤ 100000; omega) fun p9 n9 => ?_
  obtain ⟨A10, s9, dr, al⟩ := growO dr al n9 (zs := [S [114, 101, 115, 116, 97, 114, 116], .int 4]) (es := [dS [114, 101, 115, 116, 97, 114, 116], .int 4]) (fun _ => (.cons (.str _ (by decide)) (.cons (.int _) .nil))) (by show 2 ≤ 3; decide)
  replace sA := sA.trans s9
  clear s9 n9
  generalize upd G8 p9 (.tup [S [114, 101, 115, 116, 97, 114, 116], .int 4]) = G9 at *
  walk_at "go"
  refine i_new (by show 2 ≤ 100000; omega) fun p10 n10 => ?_
  obtain ⟨A11, s10, dr, al⟩ := growO dr al n10 (zs := [S [114, 101, 115, 116, 97, 114, 116], .bl true]) (es := [dS [114, 101, 115, 116, 97, 114, 116], .bool true]) (fun _ => (.cons (.str _ (by decide)) (.cons (.bl _) .nil))) (by show 2 ≤ 3; decide)
  replace sA := sA.trans s10
  clear s10 n10
  generalize upd G9 p10 (.tup [S [114, 101, 115, 116, 97, 114, 116], .bl true]) = G10 at *
  walk_at "go"
  refine i_new (by show 2 ≤ 100000; omega) fun p11 n11 => ?_
  obtain ⟨A12, s11, dr, al⟩ := growO dr al n11 (zs := [S [115, 108, 105, 112], .int 1]) (es := [dS [115, 108, 105, 112], .int 1]) (fun _ => (.cons (.str _ (by decide)) (.cons (.int _) .nil))) (by show 2 ≤ 3; decide)
  replace sA := sA.trans s11
  clear s11 n11
  generalize upd G10 p11 (.tup [S [115, 108, 105, 112], .int 1]) = G11 at *
  walk_at "go"
  refine i_new (by show 2 ≤ 100000; omega) fun p12 n12 => ?_
  obtain ⟨A13, s12, dr, al⟩ := growO dr al n12 (zs := [S [115, 108, 105, 112], .int 10]) (es := [dS [115, 108, 105, 112], .int 10]) (fun _ => (.cons (.str _ (by decide)) (.cons (.int _) .nil))) (by show 2 ≤ 3; decide)
  replace sA := sA.trans s12
  clear s12 n12
  generalize upd G11 p12 (.tup [S [115, 108, 105, 112], .int 10]) = G12 at *
  walk_at "go"
  refine i_new (by show 3 ≤ 100000; omega) fun p13 n13 => ?_
  obtain ⟨A14, s13, dr, al⟩ := growO dr al n13 (zs := [S [115, 108, 105, 112], .int 3, .int 3]) (es := [dS [115, 108, 105, 112], .int 3, .int 3]) (fun _ => (.cons (.str _ (by decide)) (.cons (.int _) (.cons (.int _) .nil)))) (by show 3 ≤ 3; decide)
  replace sA := sA.trans s13
  clear s13 n13
  generalize upd G12 p13 (.tup [S [115, 108, 105, 112], .int 3, .int 3]) = G13 at *
  walk_at "go"
  refine i_new (by show 2 ≤ 100000; omega) fun p14 n14 => ?_
  obtain ⟨A15, s14, dr, al⟩ := growO dr al n14 (zs := [S [111, 117, 116], .int 2]) (es := [dS [111, 117, 116], .int 2]) (fun _ => (.cons (.str _ (by decide)) (.cons (.int _) .nil))) (by show 2 ≤ 3; decide)
  replace sA := sA.trans s14
  clear s14 n14
  generalize upd G13 p14 (.tup [S [111, 117, 116], .int 2]) = G14 at *
  walk_at "go"
  refine i_new (by show 0 ≤ 100000; omega) fun p15 n15 => ?_
  obtain ⟨A16, s15, dr, al⟩ := growO dr al n15 (zs := []) (es := []) (fun _ => .nil) (by show 0 ≤ 3; decide)
  replace sA := sA.trans s15
  clear s15 n15
  generalize upd G14 p15 (.tup []) = G15 at *
  replace al := al.app (.one (show At A16 (.non) (.none) from .non))
  replace al := al.app (.one (show At A16 (.int 7) (.int 7) from (.int _)))
  replace al := al.app (.one (show At A16 (S [108, 97, 109, 101, 32, 50]) (dS [108, 97, 109, 101, 32, 50]) from (.str _ (by decide))))
  walk_at "go"
  refine i_new (by show 1 ≤ 100000; omega) fun p19 n19 => ?_
  obtain ⟨A20, s19, dr, al⟩ := growO dr al n19 (zs := [S [108, 97, 109, 101]]) (es := [dS [108, 97, 109, 101]]) (fun _ => (.cons (.str _ (by decide)) .nil)) (by show 1 ≤ 3; decide)
  replace sA := sA.trans s19
  clear s19 n19
  generalize upd G15 p19 (.tup [S [108, 97, 109, 101]]) = G19 at *
  walk_at "go"
  refine i_new (by show 2 ≤ 100000; omega) fun p20 n20 => ?_
  obtain ⟨A21, s20, dr, al⟩ := growO dr al n20 (zs := [S [115, 116, 97, 110, 100, 105, 110], S [50, 119]]) (es := [dS [115, 116, 97, 110, 100, 105, 110], dS [50, 119]]) (fun _ => (.cons (.str _ (by decide)) (.cons (.str _ (by decide)) .nil))) (by show 2 ≤ 3; decide)
  replace sA := sA.trans s20
  clear s20 n20
  generalize upd G19 p20 (.tup [S [115, 116, 97, 110, 100, 105, 110], S [50, 119]]) = G20 at *
  walk_at "go"
  refine i_new (by show 21 ≤ 100000; omega) fun L nL => ?_
  obtain ⟨A9, s9, e9, d9⟩ := dr.step (.lst _) nL
  replace al := al.same s9
  replace sA := sA.trans s9
  walk_at "go"
  refine i_len_lst (.inl (.inl (d9.old e9))) ?_
  have ll : 21 = 21 := rfl
  walk_at "go"
  refine pick2 d9 (by show ((21 : Nat) : Int) ≤ 10000000000000000000000000000000000000000; decide) fun n H3 d3 b => ?_
  have b0 := b.1
  have b1 : n < ((21 : Nat) : Int) := b.2.1 (by show (2 : Int) ≤ ((21 : Nat) : Int); decide)
  obtain ⟨m, rfl⟩ := Int.eq_ofNat_of_zero_le b0
  have hm : m < 21 := by omega
  have hme : MENU[m]? = some MENU[m] := List.getElem?_eq_getElem (show m < MENU.length from hm)
  generalize MENU[m] = e at hme
  obtain ⟨y, hy, ay⟩ := al.at hme
  have odd := List.all_eq_true.mp menu_odd e (List.mem_of_getElem? hme)
  rw [Bool.and_eq_true, Bool.not_eq_true', decide_eq_true_eq] at odd
  refine i_ix_lst (.inl (.inl (d3.old e9))) (atI_nat hy) ?_
  walk_at "go"
  exact q _ _ _ _ sA d3 ay odd.1 odd.2
end
inductive LnM (m : Nat) : PyData → Prop where
  | non : LnM m .none
  | sev : LnM m (.int 7)
  | tup : LnM m (.tuple [dS [108, 97, 109, 101, 32, 50]])
  | tru : LnM m (.bool true)
  | ln {ws : List (List Nat)} (h : ∀ w ∈ ws, Wd w) (ne : ws ≠ []) (l : ws.length ≤ m) : LnM m (dS (TL.joinL [32] ws))
theorem LnM.g {m : Nat} {e : PyData} (h : LnM m e) (hm : m ≤ 10) : LnG e := by
  cases h with
  | non => exact .non
  | sev => exact .sev
  | tup => exact .tup
  | tru => exact .tru
  | ln h ne l => exact .ln h ne (by omega)
theorem LnM.up {m n : Nat} {e : PyData} (h : LnM m e) (hm : m ≤ n) : LnM n e := by
  cases h with
  | non => exact .non
  | sev => exact .sev
  | tup => exact .tup
  | tru => exact .tru
  | ln h ne l => exact .ln h ne (by omega)
theorem wd_nil : Wd [] := .inl (by decide +kernel)
theorem LnM.join {m : Nat} {ws : List (List Nat)} (h : ∀ w ∈ ws, Wd w) (l : ws.length ≤ m) (m1 : 1 ≤ m) : LnM m (dS (TL.joinL [32] ws)) := by
  cases ws with
  | nil => exact LnM.ln (ws := [[]]) (fun w hw => by rw [List.mem_singleton.mp hw]; exact wd_nil) (by simp) (by simpa using m1)
  | cons a r => exact .ln h (by simp) l
theorem LnM.str {m : Nat} {c : PyData} (h : LnM m c) (e : isStrD c = true) : ∃ ws, c = dS (TL.joinL [32] ws) ∧ (∀ w ∈ ws, Wd w) ∧ ws ≠ [] ∧ ws.length ≤ m := by
  cases h with
  | ln h ne l => exact ⟨_, rfl, h, ne, l⟩
  | _ => cases e
theorem btw_nat {n : Int} {k : Nat} (b : Btw n (k : Int)) (hk : 1 ≤ k) : ∃ j : Nat, n = (j : Int) ∧ j < k := by
  obtain ⟨b0, b1, b2⟩ := b
  obtain ⟨j, rfl⟩ := Int.eq_ofNat_of_zero_le b0
  refine ⟨j, rfl, ?_⟩
  by_cases h : 2 ≤ k
  · have := b1 (by omega); omega
  · have := b2 (by omega); omega
/-- a list cut, or two put together, is known -/
theorem cutAt {K : PySem.W.Frag} {d : Dd} {f A G : Hp} {p : Addr} {xs : List V} {ds : List PyData} (x : D2 K d f A G) (al : AtAll A xs ds) (n : G p = none) : ∃ A2, Same A A2 ∧ A2 p = some (.lst xs) ∧ AtAll A2 xs ds ∧ D2 K d f A2 (upd G p (.lst xs)) :=
  ⟨_, same_upd (x.free n), upd_same, al.same (same_upd (x.free n)), x.new n⟩
theorem ixN_at {n p : Nat} (h : p < n) : ixN n (p : Int) = some p := by
  unfold ixN
  rw [if_pos (by omega), if_pos (by omega), Int.toNat_natCast]
theorem joinL_bound2 : ∀ us : List (List Nat), (TL.joinL [32] us).length ≤ (us.map List.length).sum + us.length
  | [] => Nat.zero_le _
  | u :: r => by
    have := joinL_eq [32] (u :: r) (by simp)
    rw [show ([32] : List Nat).length = 1 from rfl] at this
    omega
theorem atS {B : Hp} : ∀ {us : List (List Nat)}, (∀ w ∈ us, Wd w) → AtAll B (us.map S) (us.map dS)
  | [], _ => .nil
  | w :: r, h => .cons (.str _ (Nat.le_trans (wd_facts (h w List.mem_cons_self)).1 (by decide))) (atS fun x hx => h x (List.mem_cons_of_mem _ hx))
theorem word_pool {ws : List V} {A : Hp} (al : AtAll A ws (POOL.map poolD)) {m : Nat} (hm : m < 65) : ∃ e c z, e ∈ POOL ∧ ws[m]? = some (.ref c) ∧ A c = some (.tup [S e.1, z]) := by
  have hl : m < POOL.length := hm
  have hd : (POOL.map poolD)[m]? = some (poolD POOL[m]) := by rw [List.getElem?_map, List.getElem?_eq_getElem hl]; rfl
  obtain ⟨y, hy, ay⟩ := al.at hd
  obtain ⟨c, zs, rfl, ec, _, az⟩ := ay.tupled
  cases az with
  | cons a0 az =>
  cases az with
  | cons a1 az =>
  cases az
  have a0' := a0.strd
  subst a0'
  exact ⟨POOL[m], c, _, List.getElem_mem hl, hy, ec⟩
theorem cutV_mid {xs : List V} {a b : Nat} : cutV xs (some (a : Int)) (some ((a + b : Nat) : Int)) = (xs.drop a).take b := by
  unfold cutV
  rw [HT.sIx_nat, HT.sIx_nat]
  by_cases h : a ≤ xs.length
  · rw [Nat.min_eq_left h]
    by_cases h2 : a + b ≤ xs.length
    · rw [Nat.min_eq_left h2]; congr 1; omega
    · rw [Nat.min_eq_right (by omega), List.take_of_length_le (by rw [List.length_drop]; omega), List.take_of_length_le (by rw [List.length_drop]; omega)]
  · have e1 : min a xs.length = xs.length := by omega
    have e2 : min (a + b) xs.length = xs.length := by omega
    rw [e1, e2, Nat.sub_self, List.take_zero, List.drop_of_length_le (show xs.length ≤ a by omega), List.take_nil]
section
variable {K : PySem.W.Frag} {d : Dd} {f A G : Hp} {Q : VK} {a b : Addr} {xs ys zs : List V} {es fs : List PyData}
theorem i_slD {lo hi : Option Int} (x : D2 K d f A G) (h : A a = some (.lst xs)) (e : cutV xs lo hi = zs) (al : AtAll A zs es) (q : ∀ p A2 G2, Same A A2 → A2 p = some (.lst zs) → AtAll A2 zs es → D2 K d f A2 G2 → Q (.ref p) G2) : slP K (.ref a) lo hi G Q := by
  refine i_slL (.inl (.inl (x.old h))) fun p np => ?_
  rw [e]
  obtain ⟨A2, s2, e2, al2, d2⟩ := cutAt x al np
  exact q p A2 _ s2 e2 al2 d2
theorem i_catD (x : D2 K d f A G) (h1 : A a = some (.lst xs)) (h2 : A b = some (.lst ys)) (a1 : AtAll A xs es) (a2 : AtAll A ys fs) (hz : xs.length + ys.length ≤ 100000) (q : ∀ p A2 G2, Same A A2 → A2 p = some (.lst (xs ++ ys)) → AtAll A2 (xs ++ ys) (es ++ fs) → D2 K d f A2 G2 → Q (.ref p) G2) : addP K (.ref a) (.ref b) G Q := by
  refine i_catL (x.old h1) (x.old h2) hz fun p np => ?_
  obtain ⟨A2, s2, e2, al2, d2⟩ := cutAt x (a1.app a2) np
  exact q p A2 _ s2 e2 al2 d2
theorem i_newD {P : Addr → Hp → Prop} (x : D2 K d f A G) (al : AtAll A xs es) (q : ∀ p A2 G2, Same A A2 → A2 p = some (.lst xs) → AtAll A2 xs es → D2 K d f A2 G2 → P p G2) : ∀ p, G p = none → P p (upd G p (.lst xs)) := fun p np => by
  obtain ⟨A2, s2, e2, al2, d2⟩ := cutAt x al np
  exact q p A2 _ s2 e2 al2 d2
end
abbrev ODD4 : List PyData := [.none, .int 7, .tuple [dS [108, 97, 109, 101, 32, 50]], .bool true]
theorem odd4 {m : Nat} : ∀ e ∈ ODD4, LnM m e := fun e he => by
  simp only [List.mem_cons, List.not_mem_nil, or_false] at he
  rcases he with rfl | rfl | rfl | rfl
  · exact .non
  · exact .sev
  · exact .tup
  · exact .tru
section
variable {P : Program} {w : World} {K : PySem.W.Frag} {mg : Str → Option Value} {base : Heap} {C_GlimError C_BadRound C_BadText C_BadLine C_BadWay C_TooLong C_Lines C_NUMBERED : Addr}
def p_L_spoilt (K : PySem.W.Frag) : P2 := fun x y H Q _ => ∃ A d f a xs ds m, x = .ref d.a ∧ y = .ref a ∧ D2 K d f A H ∧ A a = some (.lst xs) ∧ AtAll A xs ds ∧ ds.length ≤ 60 ∧ (∀ e ∈ ds, LnM m e) ∧ 1 ≤ m ∧ m ≤ 8 ∧
  ∀ A' H' r ys es, Same A A' → D2 K d f A' H' → A' r = some (.lst ys) → AtAll A' ys es → es.length ≤ ds.length + 1 → (∀ e ∈ es, LnM (m + 1) e) → Q (.ref r) H'
theorem ok_L_spoilt (T : Txt K mg w C_GlimError C_BadRound C_BadText C_BadLine C_BadWay C_TooLong C_Lines C_NUMBERED) : OK P w K mg base CX0 3 "_law_spoilt" ["_law_draw_here", "_law_lines_here"] (sp2  (p_L_spoilt K)) := by
  refine OK.mk (k := 2) T.d_L_spoilt sc_L_spoilt len2 fun f cdv A outer s H vs Q E hr h => ?_
  obtain ⟨x, y, rfl, h⟩ := h
  refine ⟨_, (pss_cons (ps_set (i := 2) sc_L_spoilt.nd rfl (Or.inl rfl) (Fg.pe_f0 (ok_L_pool (K := K) T) (hr.mono (by decide)) pass0)) (pss_cons (ps_setLc (i := 3) (own := [("_law_line", 9)]) (g := gName 9) (tt := tYes) (by rfl) sc_L_spoilt.nd rfl rfl (sw_true rfl rfl rfl (by decide +kernel)) (piAny K (pv 1)) (blkOk_by (own := [("_law_line", 9)]) (N := ["_law_draw_here", "_law_lines_here", "_law_pool_here", "_law_out", "_law_number", "_law_kind", "_law_words", "_law_place", "_law_word", "_law_line"]) (sc := (defScope s_L_spoilt)) (by decide +kernel)) (fun _ _ _ _ _ => (pg_name (i := 9) sc_L_spoilt.nd rfl (Or.inl rfl))) (fun _ _ _ _ _ => pts_nil) (fun _ _ _ _ _ => (pv 9))) (pss_cons (ps_if (pt_not (ptTruth K (pv 3) (fun _ => rfl))) (pss_one (ps_ret (pe_lst (pa_cons (pe_ix (ixK K) (pe_ix (ixK K) (pv 2) (pe_f (ok_L_pick (K := K) T) (hr.mono (by decide)) pass0 (pa_cons (pv 0) (pa_cons (pe_callB (cLen K) (by rfl) T.b_len (by decide +kernel) (pa_cons (pv 2) pa_nil)) pa_nil))) (fun _ _ => rfl)) pe_int (fun _ _ => rfl)) pa_nil)))) pss_nil) (pss_cons (ps_set (i := 4) sc_L_spoilt.nd rfl (Or.inl rfl) (pe_f (ok_L_pick (K := K) T) (hr.mono (by decide)) pass0 (pa_cons (pv 0) (pa_cons (pe_callB (cLen K) (by rfl) T.b_len (by decide +kernel) (pa_cons (pv 3) pa_nil)) pa_nil)))) (pss_cons (ps_set (i := 5) sc_L_spoilt.nd rfl (Or.inl rfl) (pe_f (ok_L_pick (K := K) T) (hr.mono (by decide)) pass0 (pa_cons (pv 0) (pa_cons pe_int pa_nil)))) (pss_cons (ps_if (pt_cmpR (opEq K hr.units) (pv 5) pe_int (nomark _)) (pss_one (ps_ret (pe_op (opAdd K) (pe_op (opAdd K) (pe_slice (slK K) (pv 3) po_none (po_some (pv 4))) (pe_slice (slK K) (pe_slice (slK K) (pe_lst (pa_cons pe_non (pa_cons pe_int (pa_cons (pe_tup (pa_cons (pe_S [108, 97, 109, 101, 32, 50]) pa_nil)) (pa_cons pe_bl pa_nil))))) (po_some (pe_f (ok_L_pick (K := K) T) (hr.mono (by decide)) pass0 (pa_cons (pv 0) (pa_cons pe_int pa_nil)))) po_none) po_none (po_some pe_int))) (pe_slice (slK K) (pv 3) (po_some (pe_op (opAdd K) (pv 4) pe_int)) po_none)))) pss_nil) (pss_cons (ps_if (pt_cmpR (opEq K hr.units) (pv 5) pe_int (nomark _)) (pss_one (ps_ret (pe_op (opAdd K) (pe_slice (slK K) (pv 3) po_none (po_some (pv 4))) (pe_slice (slK K) (pv 3) (po_some (pe_op (opAdd K) (pv 4) pe_int)) po_none)))) pss_nil) (pss_cons (ps_if (pt_cmpR (opEq K hr.units) (pv 5) pe_int (nomark _)) (pss_one (ps_ret (pe_op (opAdd K) (pe_op (opAdd K) (pe_slice (slK K) (pv 3) po_none (po_some (pv 4))) (pe_lst (pa_cons (pe_ix (ixK K) (pv 3) (pv 4) (fun _ _ => rfl)) pa_nil))) (pe_slice (slK K) (pv 3) (po_some (pv 4)) po_none)))) pss_nil) (pss_cons (ps_if (pt_cmpR (opEq K hr.units) (pv 5) pe_int (nomark _)) (pss_one (ps_ret (pe_op (opAdd K) (pe_op (opAdd K) (pe_op (opAdd K) (pe_slice (slK K) (pv 3) po_none (po_some (pv 4))) (pe_slice (slK K) (pv 3) (po_some (pe_op (opAdd K) (pv 4) pe_int)) (po_some (pe_op (opAdd K) (pv 4) pe_int)))) (pe_lst (pa_cons (pe_ix (ixK K) (pv 3) (pv 4) (fun _ _ => rfl)) pa_nil))) (pe_slice (slK K) (pv 3) (po_some (pe_op (opAdd K) (pv 4) pe_int)) po_none)))) pss_nil) (pss_cons (ps_if (pt_not (pt_val (pe_callB (cIsi K) (by rfl) T.b_isinstance (by decide +kernel) (pa_cons (pe_ix (ixK K) (pv 3) (pv 4) (fun _ _ => rfl)) (pa_cons (pe_bltn (v := .ty "str") (by rfl) T.b_str (by decide +kernel) rfl) pa_nil))))) (pss_one (ps_ret (pv 3))) pss_nil) (pss_cons (ps_set (i := 6) sc_L_spoilt.nd rfl (Or.inl rfl) (peSplit K (pe_ix (ixK K) (pv 3) (pv 4) (fun _ _ => rfl)) (pa_cons (pe_S [32]) pa_nil))) (pss_cons (ps_set (i := 7) sc_L_spoilt.nd rfl (Or.inl rfl) (pe_f (ok_L_pick (K := K) T) (hr.mono (by decide)) pass0 (pa_cons (pv 0) (pa_cons (pe_callB (cLen K) (by rfl) T.b_len (by decide +kernel) (pa_cons (pv 6) pa_nil)) pa_nil)))) (pss_cons (ps_set (i := 8) sc_L_spoilt.nd rfl (Or.inl rfl) (pe_ix (ixK K) (pe_ix (ixK K) (pv 2) (pe_f (ok_L_pick (K := K) T) (hr.mono (by decide)) pass0 (pa_cons (pv 0) (pa_cons (pe_callB (cLen K) (by rfl) T.b_len (by decide +kernel) (pa_cons (pv 2) pa_nil)) pa_nil))) (fun _ _ => rfl)) pe_int (fun _ _ => rfl))) (Evl.pss_cut (ps_if (pt_cmpR (opEq K hr.units) (pv 5) pe_int (nomark _)) (pss_one (ps_set (i := 6) sc_L_spoilt.nd rfl (Or.inl rfl) (pe_op (opAdd K) (pe_slice (slK K) (pv 6) po_none (po_some (pv 7))) (pe_slice (slK K) (pv 6) (po_some (pe_op (opAdd K) (pv 7) pe_int)) po_none)))) (pss_one (ps_if (pt_cmpR (opEq K hr.units) (pv 5) pe_int (nomark _)) (pss_one (ps_set (i := 6) sc_L_spoilt.nd rfl (Or.inl rfl) (pe_op (opAdd K) (pe_op (opAdd K) (pe_slice (slK K) (pv 6) po_none (po_some (pe_op (opAdd K) (pv 7) pe_int))) (pe_lst (pa_cons (pv 8) pa_nil))) (pe_slice (slK K) (pv 6) (po_some (pe_op (opAdd K) (pv 7) pe_int)) po_none)))) (pss_one (ps_if (pt_cmpR (opEq K hr.units) (pv 5) pe_int (nomark _)) (pss_one (ps_set (i := 6) sc_L_spoilt.nd rfl (Or.inl rfl) (pe_op (opAdd K) (pe_op (opAdd K) (pe_slice (slK K) (pv 6) po_none (po_some (pv 7))) (pe_lst (pa_cons (pe_S []) pa_nil))) (pe_slice (slK K) (pv 6) (po_some (pv 7)) po_none)))) (pss_one (ps_asg (pv 8) (pg_sub (pv 6) (pv 7) set_list)))))))) (pss_cons (ps_asg (peJoin K (pe_S [32]) (pv 6)) (pg_sub (pv 3) (pv 4) set_list)) (pss_one (ps_ret (pv 3)))))))))))))))))), ?_⟩
  show (_ : TS) { nx := fun _ H' => Q .non H', rt := Q } [some x, some y, none, none, none, none, none, none, none, none] H
  obtain ⟨A0, d, f, a, xs, ds, m, rfl, rfl, dr, ea, al, dl, hg, m1, m8, q⟩ := h
  have ll := al.len
  walk_at "go"
  refine i_sp0 ⟨A0, dr.1, fun A1 H1 v x1 hv => ?_⟩
  have d1 := dr.ext x1
  obtain ⟨pa, ps, rfl, epa, pl, pal⟩ := hv.listed
  have pll : ps.length = 65 := pal.len.trans (by rfl)
  walk_at "go"
  refine c_seqL d1 (.inl (x1.aa _ _ ea)) (al.same x1.aa) (fun R k => by walk_at "go"; exact k) (by omega) (fun i e => ds[i]? = some e) (fun _ => rfl) (fun i y e A2 G2 fr he ay s2 d2 QV k => ?_) (fun G1 L ds' lb dl' hp => ?_)
  · show (_ : TE) _ G2 QV
    walk_at "go"
    exact k A2 G2 y e (Same.refl _) d2 ay he
  have ed : ds' = ds := by
    refine List.ext_getElem? fun i => ?_
    by_cases h : i < ds'.length
    · rw [List.getElem?_eq_getElem h, hp i _ (List.getElem?_eq_getElem h)]
    · rw [List.getElem?_eq_none (by omega), List.getElem?_eq_none (by omega)]
  subst ed
  clear hp dl'
  obtain ⟨A2, ys, fr, s2, eL, yl, al2, d2, k⟩ := lb.op
  have ret : ∀ {G : Hp}, LB K d f A1 L G ds' → Q (.ref L) G := fun lb => by
    obtain ⟨A3, zs, s3, d3, e3, al3, _, _⟩ := lb.cl (by omega)
    exact q _ _ _ _ _ (x1.aa.trans s3) d3 e3 al3 (by omega) fun e he => (hg e he).up (by omega)
  walk_at "go"
  refine i_truL eL ?_
  cases em : ys.isEmpty with
  | true =>
    obtain ⟨A3, zs, s3, d3, e3, al3, _, _⟩ := lb.cl (by omega)
    rw [if_pos (by decide)]
    walk_at "go"
    refine i_len_lst (.inl (.inl (d3.old (s3 _ _ epa)))) ?_
    rw [pll]
    walk_at "go"
    refine pick2 d3 (by decide) fun nn G4 d4 b => ?_
    obtain ⟨j, rfl, hj⟩ := btw_nat b (by decide)
    obtain ⟨e, c, z, he, hw, hc⟩ := word_pool (pal.same s3) hj
    have hc4 := d4.old hc
    refine i_ix_lst (.inl (.inl (d4.old (s3 _ _ epa)))) (atI_nat hw) ?_
    walk_at "go"
    have we : Wd e.1 := .inl (List.mem_map_of_mem he)
    refine i_new (by show 1 ≤ 100000; omega) ?_
    refine i_newD d4 (.one (.str e.1 (Nat.le_trans (wd_facts we).1 (by decide)))) fun r A5 G5 s5 e5 al5 d5 => ?_
    refine q A5 G5 r _ _ ((x1.aa.trans s3).trans s5) d5 e5 al5 (by show 1 ≤ _; omega) fun x hx => ?_
    rw [List.mem_singleton.mp hx]
    exact LnM.ln (ws := [e.1]) (fun w hw => by rw [List.mem_singleton.mp hw]; exact we) (by simp) (by show 1 ≤ m + 1; omega)
  | false =>
  have ypos : 1 ≤ ys.length := by
    cases ys with
    | nil => cases em
    | cons _ _ => exact Nat.succ_le_succ (Nat.zero_le _)
  rw [if_neg (by decide)]
  walk_at "go"
  refine i_len_lst (.inl (.inl eL)) ?_
  walk_at "go"
  refine pick2 d2 (by omega) fun nn G3 d3 b => ?_
  obtain ⟨n, rfl, hn⟩ := btw_nat b ypos
  walk_at "go"
  refine pick2 d3 (by decide) fun kd G4 d4 bk => ?_
  obtain ⟨eL4, al4, lb4, _⟩ := k A2 G4 (Same.refl _) d4
  have en1 : (n : Int) + 1 = ((n + 1 : Nat) : Int) := by omega
  have en2 : (n : Int) + 2 = ((n + 1 + 1 : Nat) : Int) := by omega
  -- the list, closed
  have shut : ∃ A5, Same A0 A5 ∧ D2 K d f A5 G4 ∧ ∃ zs, A5 L = some (.lst zs) ∧ AtAll A5 zs ds' ∧ zs.length = ds'.length := by
    obtain ⟨A5, zs, s5, d5, e5, al5, _, zl⟩ := lb4.cl (by omega)
    exact ⟨A5, x1.aa.trans s5, d5, zs, e5, al5, zl⟩
  have gT : ∀ k, ∀ e ∈ ds'.take k, LnM (m + 1) e := fun k e he => (hg e (List.mem_of_mem_take he)).up (by omega)
  have gD : ∀ k, ∀ e ∈ ds'.drop k, LnM (m + 1) e := fun k e he => (hg e (List.mem_of_mem_drop he)).up (by omega)
  have gA : ∀ {u v : List PyData}, (∀ e ∈ u, LnM (m + 1) e) → (∀ e ∈ v, LnM (m + 1) e) → ∀ e ∈ u ++ v, LnM (m + 1) e := fun hu hv e he => (List.mem_append.mp he).elim (hu e) (hv e)
  walk_at "go"
  refine i_dec (fun k0 => ?_) (fun k0 => ?_)
  · obtain ⟨A5, s05, d5, zs, e5, al5, zl⟩ := shut
    walk_at "go"
    refine i_slD d5 e5 (cutV_to n) (al5.take n) fun p1 A6 G6 s6 e6 al6 d6 => ?_
    walk_at "go"
    refine i_new (by show 1 ≤ 100000; omega) fun tt nt => ?_
    obtain ⟨A7, s7, e7, d7⟩ := d6.step (.tup [S [108, 97, 109, 101, 32, 50]]) nt
    generalize upd G6 tt (.tup [S [108, 97, 109, 101, 32, 50]]) = G7 at *
    walk_at "go"
    refine i_new (by show 4 ≤ 100000; omega) fun p2 n2 => ?_
    have ao : AtAll A7 [.non, .int 7, .ref tt, .bl true] ODD4 := .cons .non (.cons (.int 7) (.cons (At.mkTup e7 (.one (.str _ (by decide))) (by show 1 ≤ 10000; decide)) (.cons (.bl true) .nil)))
    obtain ⟨A8, s8, e8, al8, d8⟩ := cutAt d7 ao n2
    generalize upd G7 p2 (.lst [.non, .int 7, .ref tt, .bl true]) = G8 at *
    walk_at "go"
    refine pick2 d8 (by decide) fun jj G9 d9 bj => ?_
    obtain ⟨j, rfl, hj⟩ := btw_nat (k := 4) bj (by decide)
    walk_at "go"
    refine i_slD d9 e8 (cutV_fr j) (al8.drop j) fun p3 A10 G10 s10 e10 al10 d10 => ?_
    walk_at "go"
    refine i_slD d10 e10 (cutV_to 1) (al10.take 1) fun p4 A11 G11 s11 e11 al11 d11 => ?_
    walk_at "go"
    have s6b := ((s7.trans s8).trans s10).trans s11
    refine i_catD d11 (s6b _ _ e6) e11 (al6.same s6b) al11 (by simp only [List.length_take, List.length_drop, List.length_cons, List.length_nil]; omega) fun p5 A12 G12 s12 e12 al12 d12 => ?_
    walk_at "go"
    rw [en1]
    have s5b := (s6.trans s6b).trans s12
    refine i_slD d12 (s5b _ _ e5) (cutV_fr (n + 1)) ((al5.same s5b).drop (n + 1)) fun p6 A13 G13 s13 e13 al13 d13 => ?_
    walk_at "go"
    refine i_catD d13 (s13 _ _ e12) e13 (al12.same s13) al13 (by simp only [List.length_append, List.length_take, List.length_drop, List.length_cons, List.length_nil]; omega) fun r A14 G14 s14 e14 al14 d14 => ?_
    exact q A14 G14 r _ _ (((s05.trans s5b).trans s13).trans s14) d14 e14 al14 (by simp only [List.length_append, List.length_take, List.length_drop, List.length_cons, List.length_nil]; omega) (gA (gA (gT n) fun e he => odd4 e (List.mem_of_mem_drop (List.mem_of_mem_take he))) (gD _))
  walk_at "go"
  refine i_dec (fun k1 => ?_) (fun k1 => ?_)
  · obtain ⟨A5, s05, d5, zs, e5, al5, zl⟩ := shut
    walk_at "go"
    refine i_slD d5 e5 (cutV_to n) (al5.take n) fun p1 A6 G6 s6 e6 al6 d6 => ?_
    walk_at "go"
    rw [en1]
    refine i_slD d6 (s6 _ _ e5) (cutV_fr (n + 1)) ((al5.same s6).drop (n + 1)) fun p2 A7 G7 s7 e7 al7 d7 => ?_
    walk_at "go"
    refine i_catD d7 (s7 _ _ e6) e7 (al6.same s7) al7 (by simp only [List.length_take, List.length_drop]; omega) fun r A8 G8 s8 e8 al8 d8 => ?_
    exact q A8 G8 r _ _ (((s05.trans s6).trans s7).trans s8) d8 e8 al8 (by simp only [List.length_append, List.length_take, List.length_drop]; omega) (gA (gT n) (gD _))
  have hnd : n < ds'.length := by omega
  have hcn : ds'[n]? = some ds'[n] := List.getElem?_eq_getElem hnd
  have gcn := hg _ (List.mem_of_getElem? hcn)
  generalize ds'[n] = c at hcn gcn
  walk_at "go"
  refine i_dec (fun k2 => ?_) (fun k2 => ?_)
  · obtain ⟨A5, s05, d5, zs, e5, al5, zl⟩ := shut
    obtain ⟨y, hy, ay⟩ := al5.at hcn
    walk_at "go"
    refine i_slD d5 e5 (cutV_to n) (al5.take n) fun p1 A6 G6 s6 e6 al6 d6 => ?_
    walk_at "go"
    refine i_ix_lst (.inl (.inl (d6.old (s6 _ _ e5)))) (atI_nat hy) ?_
    walk_at "go"
    refine i_new (by show 1 ≤ 100000; omega) fun p2 n2 => ?_
    obtain ⟨A7, s7, e7, al7, d7⟩ := cutAt d6 (.one (ay.same s6)) n2
    generalize upd G6 p2 (.lst [y]) = G7 at *
    walk_at "go"
    refine i_catD d7 (s7 _ _ e6) e7 (al6.same s7) al7 (by simp only [List.length_take, List.length_cons, List.length_nil]; omega) fun p3 A8 G8 s8 e8 al8 d8 => ?_
    walk_at "go"
    have s5b := (s6.trans s7).trans s8
    refine i_slD d8 (s5b _ _ e5) (cutV_fr n) ((al5.same s5b).drop n) fun p4 A9 G9 s9 e9 al9 d9 => ?_
    walk_at "go"
    refine i_catD d9 (s9 _ _ e8) e9 (al8.same s9) al9 (by simp only [List.length_append, List.length_take, List.length_drop, List.length_cons, List.length_nil]; omega) fun r A10 G10 s10 e10 al10 d10 => ?_
    exact q A10 G10 r _ _ (((s05.trans s5b).trans s9).trans s10) d10 e10 al10 (by simp only [List.length_append, List.length_take, List.length_drop, List.length_cons, List.length_nil]; omega) (gA (gA (gT n) fun e he => by rw [List.mem_singleton.mp he]; exact gcn.up (by omega)) (gD _))
  walk_at "go"
  refine i_dec (fun k3 => ?_) (fun k3 => ?_)
  · obtain ⟨A5, s05, d5, zs, e5, al5, zl⟩ := shut
    obtain ⟨y, hy, ay⟩ := al5.at hcn
    walk_at "go"
    refine i_slD d5 e5 (cutV_to n) (al5.take n) fun p1 A6 G6 s6 e6 al6 d6 => ?_
    walk_at "go"
    rw [en1, en2]
    refine i_slD d6 (s6 _ _ e5) (cutV_mid (a := n + 1) (b := 1)) (((al5.same s6).drop (n + 1)).take 1) fun p2 A7 G7 s7 e7 al7 d7 => ?_
    walk_at "go"
    refine i_catD d7 (s7 _ _ e6) e7 (al6.same s7) al7 (by simp only [List.length_take, List.length_drop]; omega) fun p3 A8 G8 s8 e8 al8 d8 => ?_
    walk_at "go"
    have s5b := (s6.trans s7).trans s8
    refine i_ix_lst (.inl (.inl (d8.old (s5b _ _ e5)))) (atI_nat hy) ?_
    walk_at "go"
    refine i_new (by show 1 ≤ 100000; omega) fun p4 n4 => ?_
    obtain ⟨A9, s9, e9, al9, d9⟩ := cutAt d8 (.one (ay.same s5b)) n4
    generalize upd G8 p4 (.lst [y]) = G9 at *
    walk_at "go"
    refine i_catD d9 (s9 _ _ e8) e9 (al8.same s9) al9 (by simp only [List.length_append, List.length_take, List.length_drop, List.length_cons, List.length_nil]; omega) fun p5 A10 G10 s10 e10 al10 d10 => ?_
    walk_at "go"
    rw [en2]
    have s5c := (s5b.trans s9).trans s10
    refine i_slD d10 (s5c _ _ e5) (cutV_fr (n + 1 + 1)) ((al5.same s5c).drop (n + 1 + 1)) fun p6 A11 G11 s11 e11 al11 d11 => ?_
    walk_at "go"
    refine i_catD d11 (s11 _ _ e10) e11 (al10.same s11) al11 (by simp only [List.length_append, List.length_take, List.length_drop, List.length_cons, List.length_nil]; omega) fun r A12 G12 s12 e12 al12 d12 => ?_
    exact q A12 G12 r _ _ (((s05.trans s5c).trans s11).trans s12) d12 e12 al12 (by simp only [List.length_append, List.length_take, List.length_drop, List.length_cons, List.length_nil]; omega) (gA (gA (gA (gT n) fun e he => (gD _) e (List.mem_of_mem_take he)) fun e he => by rw [List.mem_singleton.mp he]; exact gcn.up (by omega)) (gD _))
  clear shut
  obtain ⟨y, hy, ay⟩ := al4.at hcn
  walk_at "go"
  refine i_ix_lst (.inl (.inl eL4)) (atI_nat hy) ?_
  walk_at "go"
  cases ec : isStrD c with
  | false =>
    refine i_isiStr false (ay.same d4.1) ec ?_
    walk_at "go"
    exact ret lb4
  | true =>
  refine i_isiStr true (ay.same d4.1) ec ?_
  obtain ⟨wv, rfl, hw, ne, lm⟩ := gcn.str ec
  have ew := wd_wrds hw ne
  have jl := join_len hw ne
  have pos := List.length_pos_iff.mpr ne
  obtain ⟨l, rfl, el, hl0⟩ := ay.strl
  obtain rfl : TL.joinL [32] wv = l := dS_inj (congrArg PyData.str el)
  clear el
  walk_at "go"
  refine i_ix_lst (.inl (.inl eL4)) (atI_nat hy) ?_
  walk_at "go"
  refine ⟨rfl, ?_⟩
  walk_at "go"
  refine ⟨_, ⟨#[32]⟩, rfl, rfl, rfl, ?_, ?_⟩
  · rw [str_len]
    exact Nat.le_trans (show (TL.joinL [32] wv).length + 2 ≤ 100000 by omega) (by decide)
  intro W nW
  rw [words_V, ew]
  have nAW := d4.free nW
  have d5 := d4.new (o := .lst (wv.map S)) nW
  have eW : (upd A2 W (.lst (wv.map S))) W = some (.lst (wv.map S)) := upd_same
  have s25 : Same A2 (upd A2 W (.lst (wv.map S))) := same_upd nAW
  have cel := d4.cel
  walk_at "go"
  refine i_len_lst (.inl (.inl (d5.old eW))) ?_
  rw [List.length_map]
  walk_at "go"
  refine pick2 d5 (by omega) fun pp G6 d6 bp => ?_
  obtain ⟨p, rfl, hp⟩ := btw_nat bp pos
  walk_at "go"
  have sp : Same A1 (upd A2 W (.lst (wv.map S))) := s2.trans s25
  refine i_len_lst (.inl (.inl (d6.old (sp _ _ epa)))) ?_
  rw [pll]
  walk_at "go"
  refine pick2 d6 (by decide) fun jj G7 d7 bj => ?_
  obtain ⟨j, rfl, hj⟩ := btw_nat bj (by decide)
  obtain ⟨e, c, z, he, hwc, hc⟩ := word_pool (pal.same sp) hj
  have hc7 := d7.old hc
  have we : Wd e.1 := .inl (List.mem_map_of_mem he)
  refine i_ix_lst (.inl (.inl (d7.old (sp _ _ epa)))) (atI_nat hwc) ?_
  walk_at "go"
  have wT : ∀ k, ∀ w ∈ wv.take k, Wd w := fun k w h => hw w (List.mem_of_mem_take h)
  have wD : ∀ k, ∀ w ∈ wv.drop k, Wd w := fun k w h => hw w (List.mem_of_mem_drop h)
  have wA : ∀ {u v : List (List Nat)}, (∀ e ∈ u, Wd e) → (∀ e ∈ v, Wd e) → ∀ e ∈ u ++ v, Wd e := fun hu hv e he => (List.mem_append.mp he).elim (hu e) (hv e)
  have w1 : ∀ {u : List Nat}, Wd u → ∀ w ∈ [u], Wd w := fun h w hw => by rw [List.mem_singleton.mp hw]; exact h
  have ep1 : (p : Int) + 1 = ((p + 1 : Nat) : Int) := by omega
  refine i_cut (fun σ G => ∃ (W' : Addr) (us : List (List Nat)) (A8 : Hp) (v7 v8 v9 : Option V), σ = [some (.ref d.a), some (.ref a), some (.ref pa), some (.ref L), some (.int (n : Int)), some (.int kd), some (.ref W'), v7, v8, v9] ∧ Same A2 A8 ∧ D2 K d fr A8 G ∧ G W' = some (.lst (us.map S)) ∧ (∀ w ∈ us, Wd w) ∧ us.length ≤ m + 1) ?_ ?_
  · walk_at "go"
    refine i_dec (fun k4 => ?_) (fun k4 => ?_)
    · walk_at "go"
      refine i_slD d7 eW (cutV_to' p) (atS (wT p)) fun p1 A8 G8 s8 e8 al8 d8 => ?_
      walk_at "go"
      rw [ep1]
      refine i_slD d8 (s8 _ _ eW) (cutV_fr' (p + 1)) (atS (wD (p + 1))) fun p2 A9 G9 s9 e9 al9 d9 => ?_
      walk_at "go"
      refine i_catD d9 (s9 _ _ e8) e9 (al8.same s9) al9 (by simp only [List.length_map, List.length_take, List.length_drop]; omega) fun r A10 G10 s10 e10 al10 d10 => ?_
      rw [← List.map_append] at e10
      exact ⟨r, _, A10, _, _, _, rfl, (((s25.trans s8).trans s9).trans s10), d10, d10.old e10, wA (wT p) (wD _), by simp only [List.length_append, List.length_take, List.length_drop]; omega⟩
    walk_at "go"
    refine i_dec (fun k5 => ?_) (fun k5 => ?_)
    · walk_at "go"
      rw [ep1]
      refine i_slD d7 eW (cutV_to' (p + 1)) (atS (wT (p + 1))) fun p1 A8 G8 s8 e8 al8 d8 => ?_
      walk_at "go"
      refine i_new (by show 1 ≤ 100000; omega) fun p2 n2 => ?_
      have a1 : AtAll A8 [S e.1] [dS e.1] := atS (w1 we)
      obtain ⟨A9, s9, e9, al9, d9⟩ := cutAt d8 a1 n2
      generalize upd G8 p2 (.lst [S e.1]) = G9 at *
      have e9 : A9 p2 = some (.lst ([e.1].map S)) := e9
      have al9 : AtAll A9 ([e.1].map S) [dS e.1] := al9
      walk_at "go"
      refine i_catD d9 (s9 _ _ e8) e9 (al8.same s9) al9 (by simp only [List.length_map, List.length_take, List.length_cons, List.length_nil]; omega) fun p3 A10 G10 s10 e10 al10 d10 => ?_
      walk_at "go"
      rw [ep1]
      have s8b := (s8.trans s9).trans s10
      refine i_slD d10 (s8b _ _ eW) (cutV_fr' (p + 1)) (atS (wD (p + 1))) fun p4 A11 G11 s11 e11 al11 d11 => ?_
      walk_at "go"
      refine i_catD d11 (s11 _ _ e10) e11 (al10.same s11) al11 (by simp only [List.length_append, List.length_map, List.length_take, List.length_drop, List.length_cons, List.length_nil]; omega) fun r A12 G12 s12 e12 al12 d12 => ?_
      rw [← List.map_append, ← List.map_append] at e12
      exact ⟨r, _, A12, _, _, _, rfl, (((s25.trans s8b).trans s11).trans s12), d12, d12.old e12, wA (wA (wT _) (w1 we)) (wD _), by simp only [List.length_append, List.length_take, List.length_drop, List.length_cons, List.length_nil]; omega⟩
    walk_at "go"
    refine i_dec (fun k6 => ?_) (fun k6 => ?_)
    · walk_at "go"
      refine i_slD d7 eW (cutV_to' p) (atS (wT p)) fun p1 A8 G8 s8 e8 al8 d8 => ?_
      walk_at "go"
      refine i_new (by show 1 ≤ 100000; omega) fun p2 n2 => ?_
      have a1 : AtAll A8 [S []] [dS []] := atS (w1 wd_nil)
      obtain ⟨A9, s9, e9, al9, d9⟩ := cutAt d8 a1 n2
      generalize upd G8 p2 (.lst [S []]) = G9 at *
      have e9 : A9 p2 = some (.lst (([[]] : List (List Nat)).map S)) := e9
      have al9 : AtAll A9 (([[]] : List (List Nat)).map S) [dS []] := al9
      walk_at "go"
      refine i_catD d9 (s9 _ _ e8) e9 (al8.same s9) al9 (by simp only [List.length_map, List.length_take, List.length_cons, List.length_nil]; omega) fun p3 A10 G10 s10 e10 al10 d10 => ?_
      walk_at "go"
      have s8b := (s8.trans s9).trans s10
      refine i_slD d10 (s8b _ _ eW) (cutV_fr' p) (atS (wD p)) fun p4 A11 G11 s11 e11 al11 d11 => ?_
      walk_at "go"
      refine i_catD d11 (s11 _ _ e10) e11 (al10.same s11) al11 (by simp only [List.length_append, List.length_map, List.length_take, List.length_drop, List.length_cons, List.length_nil]; omega) fun r A12 G12 s12 e12 al12 d12 => ?_
      rw [← List.map_append, ← List.map_append] at e12
      exact ⟨r, _, A12, _, _, _, rfl, (((s25.trans s8b).trans s11).trans s12), d12, d12.old e12, wA (wA (wT _) (w1 wd_nil)) (wD _), by simp only [List.length_append, List.length_take, List.length_drop, List.length_cons, List.length_nil]; omega⟩
    walk_at "go"
    refine i_setL p (d7.old eW) (ixN_at (by rw [List.length_map]; omega)) (ys := (wv.set p e.1).map S) (by rw [List.map_set]) ?_
    refine ⟨W, wv.set p e.1, _, _, _, _, rfl, same_upd nAW, d7.put cel nAW, upd_same, fun w h => ?_, by rw [List.length_set]; omega⟩
    rcases mem_set h with h | h
    · exact hw w h
    · rw [h]; exact we
  · rintro σ G ⟨W', us, A8, v7, v8, v9, rfl, s8, d8, e8, hu, lu⟩
    obtain ⟨eL8, al8, _, _, set8⟩ := k A8 G s8 d8
    have ul := sum_le fun w h => (wd_facts (hu w h)).1
    walk_at "go"
    refine i_joinG (.inl (.inl e8)) (by show _ + us.length * 1 ≤ 100000; omega) ?_
    walk_at "go"
    have jl8 := joinL_bound2 us
    refine i_setL n eL8 (ixN_at (by omega)) rfl ?_
    have lb9 := set8 (S (TL.joinL [32] us)) (dS (TL.joinL [32] us)) n (.str _ (by omega))
    obtain ⟨A9, zs, s9, d9, e9, al9, _, _⟩ := lb9.cl (by rw [List.length_set]; omega)
    walk_at "go"
    refine q _ _ L zs _ (x1.aa.trans s9) d9 e9 al9 (by rw [List.length_set]; omega) fun x hx => ?_
    rcases mem_set hx with h | h
    · exact (hg x h).up (by omega)
    · rw [h]; exact LnM.join hu lu (by omega)
end
abbrev FCH : List Nat := [40, 41, 46, 64, 103, 114, 119, 48, 49, 50, 51, 52, 53, 54, 55, 56, 57]
def Chs (t : List Nat) : Prop := ∀ c ∈ t, c ∈ FCH
theorem Chs.app {a b : List Nat} (h : Chs a) (k : Chs b) : Chs (a ++ b) := fun c hc => (List.mem_append.mp hc).elim (h c) (k c)
theorem chs_dec : ∀ n < 100, Chs (dec n) := by
  have : ∀ n < 100, ∀ c ∈ dec n, c ∈ FCH := by decide +kernel
  exact this
theorem chs_row {l : List Nat} (h : Row l) : Chs l := fun c hc => by
  have : ∀ c ∈ SG, c ∈ FCH := by decide
  exact this c (h c hc)
theorem comp_chs {f : List Nat → Option (List Nat)} {p t : List Nat} (h : Comp f p t) (n : Nat) (hf : ∀ a s, a.length ≤ n → Row a → f a = some s → Chs s) : p.length ≤ n → Row p → Chs t := by
  induction h with
  | nil => exact fun _ _ c hc => absurd hc (by simp)
  | @cons a b s t ha hs hb ih =>
    intro hl hr
    rw [List.length_append] at hl
    exact (hf a s (by omega) (fun c hc => hr c (List.mem_append_left _ hc)) hs).app (ih (by omega) fun c hc => hr c (List.mem_append_right _ hc))
theorem fold_chs : ∀ n, n ≤ 24 → (∀ p s, p.length ≤ n → Row p → fI p = some s → Chs s) ∧ (∀ p, p.length ≤ n → Row p → Chs (fT p)) ∧ ∀ p, p ≠ [] → p.length ≤ n → Row p → Chs (fC p)
  | 0, _ => by
    refine ⟨fun p s hl hr h => ?_, fun p hl hr => ?_, fun p hp hl _ => absurd (List.length_eq_zero_iff.mp (by omega)) hp⟩
    · have hp : p = [] := List.length_eq_zero_iff.mp (by omega)
      subst hp
      unfold fI itS at h
      rw [if_neg (by decide)] at h
      obtain ⟨⟨k, u, hu, hk, e, _⟩, _⟩ := least_mem h
      have := congrArg List.length e
      rw [rpt_len] at this
      have h1 := List.length_pos_iff.mpr hu
      have h2 : 2 * u.length ≤ k * u.length := Nat.mul_le_mul_right _ hk
      simp only [List.length_nil] at this
      omega
    · have hp : p = [] := List.length_eq_zero_iff.mp (by omega)
      rw [hp, fT_nil]
      exact fun c hc => absurd hc (by simp)
  | n + 1, hn => by
    obtain ⟨i1, i2, i3⟩ := fold_chs n (by omega)
    have a1 : ∀ p s, p.length ≤ n + 1 → Row p → fI p = some s → Chs s := fun p s hl hr h => by
      unfold fI itS at h
      by_cases e1 : p.length = 1
      · rw [if_pos e1] at h
        cases h
        exact chs_row hr
      · rw [if_neg e1] at h
        obtain ⟨⟨k, u, hu, hk, e, ht⟩, _⟩ := least_mem h
        have el := congrArg List.length e
        rw [rpt_len] at el
        have h1 := List.length_pos_iff.mpr hu
        have h2 : 2 * u.length ≤ k * u.length := Nat.mul_le_mul_right _ hk
        have h3 : k * 1 ≤ k * u.length := Nat.mul_le_mul_left _ h1
        have hru : Row u := fun c hc => hr c (by
          obtain ⟨k', rfl⟩ : ∃ k', k = k' + 1 := ⟨k - 1, by omega⟩
          rw [e, rpt_succ]
          exact List.mem_append_left _ hc)
        have hd := chs_dec k (by omega)
        rcases ht with ⟨_, rfl⟩ | rfl
        · exact hd.app (chs_row hru)
        · refine hd.app ((?_ : Chs [40]).app ((i3 u hu (by omega) hru).app ?_))
          · intro c hc; rw [List.mem_singleton.mp hc]; decide
          · intro c hc; rw [List.mem_singleton.mp hc]; decide
    have a2 : ∀ p, p.length ≤ n + 1 → Row p → Chs (fT p) := fun p hl hr => comp_chs (fT_isL p).1 (n + 1) a1 hl hr
    refine ⟨a1, a2, fun p hp hl hr => ?_⟩
    rcases (fC_exists hp).1 with h | ⟨a, j, ha, hj, e, h⟩
    · rw [h]; exact a2 p hl hr
    · rw [h]
      have hla : a.length ≤ n + 1 := by
        have := congrArg List.length e
        rw [List.length_append] at this
        omega
      refine (a2 a hla fun c hc => hr c (by rw [e]; exact List.mem_append_left _ hc)).app fun c hc => ?_
      rcases List.mem_cons.mp hc with rfl | hc
      · decide
      · exact chs_dec p.length (by omega) c hc
theorem fC_chs {l : List Nat} (h : IsRound l) : Chs (fC l) := (fold_chs 24 (Nat.le_refl _)).2.2 l (List.length_pos_iff.mp h.1) h.2.1 h.2.2
/-- read back -/
theorem rdP_fold {l : List Nat} (h : IsRound l) : rdP (fC l) = some l ∧ (38 : Nat) ∉ fC l := by
  obtain ⟨h1, h2⟩ := fold_back h.2.1 h.2.2 (List.length_pos_iff.mp h.1)
  refine ⟨?_, h2⟩
  unfold told at h1
  unfold rdP
  cases e : rd (fC l) 6 0 with
  | error k => rw [e] at h1; cases h1
  | ok se =>
    obtain ⟨s, e2⟩ := se
    rw [e] at h1
    dsimp only at h1 ⊢
    split at h1
    · cases h1
    rename_i k1
    rw [if_neg k1]
    cases h1
    rw [if_neg (by have := h.2.1; show ¬ 24 < l.length; omega)]
theorem i_ne_same {K : PySem.W.Frag} {H : Hp} {Q : VK} {x : Str} (q : Q (.bl false) H) : neP K (.str x) (.str x) H Q := by
  show neP K (S x.cps.toList) (S x.cps.toList) H Q
  refine i_ne_str ?_
  rw [decide_eq_true rfl]
  exact q
theorem i_eq_same {K : PySem.W.Frag} {H : Hp} {Q : VK} {x : Str} (q : Q (.bl true) H) : eqP K (.str x) (.str x) H Q := by
  show eqP K (S x.cps.toList) (S x.cps.toList) H Q
  refine i_eq_str ?_
  rw [decide_eq_true rfl]
  exact q
theorem way_std {l : List Nat} (h : IsRound l) : isWay (.tuple [dS cStand, dS l]) = true := (WayF.rd h).ok
theorem ln_std (l : List Nat) : lnW (.tuple [dS cStand, dS l]) = TL.joinL [32] [cStand, fC l] := by
  show lnK cStand (dS l) = _
  unfold lnK
  rw [if_pos rfl]
  rfl
theorem wrds_std {l : List Nat} (h : IsRound l) : wrds ⟨(TL.joinL [32] [cStand, fC l]).toArray⟩ = [cStand, fC l] := by
  refine wrds_join (by simp) fun w hw => ?_
  simp only [List.mem_cons, List.not_mem_nil, or_false] at hw
  rcases hw with rfl | rfl
  · decide
  · exact fun z => absurd (fC_chs h 32 z) (by decide)
theorem readLn_std {l : List Nat} (h : IsRound l) : readLn fmD forms (dS (TL.joinL [32] [cStand, fC l])) = .inl [dS cStand, dS l] := by
  rw [readLn_W, wrds_std h]
  rw [rdW_some (fm := fmD) (show forms (([cStand, fC l] : List (List Nat)).getD 0 []) = some [.rd] from rfl), rdk_ok (d := dS l) (by show 1 < 2; decide) (by show (rdP (fC l)).map dS = _; rw [(rdP_fold h).1]; rfl)]
  rfl
theorem res_std {l : List Nat} (h : IsRound l) : resD (.tuple [dS (TL.joinL [32] [cStand, fC l])]) = .good [.tuple [dS cStand, dS l]] := by
  show resA [dS (TL.joinL [32] [cStand, fC l])] = _
  unfold resA
  have e : readAll (readLn fmD forms) [dS (TL.joinL [32] [cStand, fC l])] 0 = .inl [.tuple [dS cStand, dS l]] := by
    show (match readLn fmD forms (dS (TL.joinL [32] [cStand, fC l])) with | .inr e => .inr (0, e) | .inl es => match readAll (readLn fmD forms) [] (0 + 1) with | .inl ws => .inl (.tuple es :: ws) | .inr p => .inr p : List PyData ⊕ (Nat × Nat)) = _
    rw [readLn_std h]
    rfl
  rw [e]
  show resW [.tuple [dS cStand, dS l]] = _
  unfold resW
  show (match (badAt [.tuple [dS cStand, dS l]]).map fun n : Nat => (n : Int) with | some k => Rs.way k | none => .good [.tuple [dS cStand, dS l]]) = _
  rw [badAt_none fun d hd => by rw [List.mem_singleton.mp hd]; exact way_std h]
  rfl
theorem tw_std {l : List Nat} (h : IsRound l) : ∀ d ∈ [PyData.tuple [dS cStand, dS l]], TW d := fun d hd => by
  rw [List.mem_singleton.mp hd]
  exact ⟨_, _, rfl, by decide, .rd (rnd_of h)⟩
section
variable {P : Program} {w : World} {K : PySem.W.Frag} {mg : Str → Option Value} {base : Heap} {C_GlimError C_BadRound C_BadText C_BadLine C_BadWay C_TooLong C_Lines C_NUMBERED : Addr}
def p_L_any : P1 := fun x H Q _ => ∃ l, x = S l ∧ IsRound l ∧ ∀ H', Same H H' → Q (.bl true) H'
theorem ok_L_any_standin (T : Txt K mg w C_GlimError C_BadRound C_BadText C_BadLine C_BadWay C_TooLong C_Lines C_NUMBERED) : GOK P w K mg base CX0 30 "_law_any_standin" ["_law_row"] (sp1  p_L_any) := by
  refine GOK.mk (k := 29) T.d_L_any_standin sc_L_any_standin len1 fun f cdv A outer s H vs Q E hgu hr h => ?_
  obtain ⟨x, rfl, h⟩ := h
  refine ⟨_, (pss_cons (ps_set (i := 1) sc_L_any_standin.nd rfl (Or.inl rfl) (pe_f (ok_write_ways (K := K) T) (hr.mono (by decide)) Fg.passN (pa_cons (pe_lst (pa_cons (pe_lst (pa_cons (pe_S [115, 116, 97, 110, 100, 105, 110]) (pa_cons (pv 0) pa_nil))) pa_nil)) pa_nil))) (pss_cons (ps_if (pw_or (pt_not (pt_val (pe_callB (cIsi K) (by rfl) T.b_isinstance (by decide +kernel) (pa_cons (pv 1) (pa_cons (pe_bltn (v := .ty "tuple") (by rfl) T.b_tuple (by decide +kernel) rfl) pa_nil))))) (pw_or (pt_cmpR (opNe K hr.units) (pe_callB (cLen K) (by rfl) T.b_len (by decide +kernel) (pa_cons (pv 1) pa_nil)) pe_int (nomark _)) (pw_or1 (pt_not (pt_val (pe_callB (cIsi K) (by rfl) T.b_isinstance (by decide +kernel) (pa_cons (pe_ix (ixK K) (pv 1) pe_int (fun _ _ => rfl)) (pa_cons (pe_bltn (v := .ty "str") (by rfl) T.b_str (by decide +kernel) rfl) pa_nil)))))))).pt (pss_one (ps_ret pe_bl)) pss_nil) (pss_cons (ps_set (i := 2) sc_L_any_standin.nd rfl (Or.inl rfl) (peSplit K (pe_ix (ixK K) (pv 1) pe_int (fun _ _ => rfl)) (pa_cons (pe_S [32]) pa_nil))) (pss_cons (ps_if (pw_or (pt_cmpR (opNe K hr.units) (pe_callB (cLen K) (by rfl) T.b_len (by decide +kernel) (pa_cons (pv 2) pa_nil)) pe_int (nomark _)) (pw_or (pt_cmpR (opNe K hr.units) (pe_ix (ixK K) (pv 2) pe_int (fun _ _ => rfl)) (pe_S [115, 116, 97, 110, 100, 105, 110]) (nomark _)) (pw_or (pt_cmpR op_gtP (pe_callB (cLen K) (by rfl) T.b_len (by decide +kernel) (pa_cons (pe_ix (ixK K) (pv 2) pe_int (fun _ _ => rfl)) pa_nil)) (pe_callB (cLen K) (by rfl) T.b_len (by decide +kernel) (pa_cons (pv 0) pa_nil)) (nomark _)) (pw_or1 (pt_cmpR (opIn K) (pe_S [38]) (pe_ix (ixK K) (pv 2) pe_int (fun _ _ => rfl)) (by with_unfolding_all rfl)))))).pt (pss_one (ps_ret pe_bl)) pss_nil) (pss_one (ps_ret (pe_cmpR (opEq K hr.units) (pe_g (ok_L_read (K := K) T) hgu (hr.mono (by decide)) pass0 (pa_cons (pv 1) pa_nil)) (pe_callB (Fg.cReprA K hgu hr.units) (by rfl) T.b_repr (by decide +kernel) (pa_cons (pe_tup (pa_cons (pe_tup (pa_cons (pe_S [115, 116, 97, 110, 100, 105, 110]) (pa_cons (pv 0) pa_nil))) pa_nil)) pa_nil)) (nomark _)))))))), ?_⟩
  show (_ : TS) { nx := fun _ H' => Q .non H', rt := Q } [some x, none, none] H
  obtain ⟨l, rfl, hl, q⟩ := h
  have l24 := hl.2.1
  have f24 := fC_row hl
  have fle := fC_len (p := l) (List.length_pos_iff.mp hl.1)
  walk_at "go"
  refine i_new (by show 2 ≤ 100000; omega) fun p1 n1 => ?_
  walk_at "go"
  refine i_new (by show 1 ≤ 100000; omega) fun p2 n2 => ?_
  have ne : p1 ≠ p2 := fun z => by rw [← z, upd_same] at n2; cases n2
  have s2 : Same H (upd (upd H p1 (.lst [S [115, 116, 97, 110, 100, 105, 110], S l])) p2 (.lst [.ref p1])) := (same_upd n1).trans (same_upd n2)
  have at2 : At (upd (upd H p1 (.lst [S [115, 116, 97, 110, 100, 105, 110], S l])) p2 (.lst [.ref p1])) (.ref p2) (.list [.list [dS cStand, dS l]]) :=
    .lst upd_same (by show 1 ≤ 10000; decide) (.one (.lst ((upd_ne ne).trans upd_same) (by show 2 ≤ 10000; decide) (.cons (.str _ (by decide)) (.one (.str _ (by omega))))))
  generalize upd (upd H p1 (.lst [S [115, 116, 97, 110, 100, 105, 110], S l])) p2 (.lst [.ref p1]) = G2 at *
  walk_at "go"
  refine ⟨G2, _, Same.refl _, at2, by show 2 < 6; decide, ?_⟩
  have eb : badY (deepD (.list [.list [dS cStand, dS l]])) = none := by
    show (badAt [.tuple [dS cStand, dS l]]).map (fun n : Nat => (n : Int)) = none
    rw [badAt_none fun d hd => by rw [List.mem_singleton.mp hd]; exact way_std hl]
    rfl
  rw [eb]
  intro ds A3 G3 v ed x3 hv
  have ed : PyData.tuple [.tuple [dS cStand, dS l]] = .tuple ds := ed
  injection ed with ed
  subst ed
  have hv : At A3 v (.tuple [dS (lnW (.tuple [dS cStand, dS l]))]) := hv
  rw [ln_std] at hv
  have jl : (TL.joinL [32] [cStand, fC l]).length ≤ 40 := by
    have := joinL_eq [32] [cStand, fC l] (by simp)
    rw [show ([32] : List Nat).length = 1 from rfl] at this
    simp only [List.map_cons, List.map_nil, List.sum_cons, List.sum_nil, List.length_cons, List.length_nil] at this
    omega
  have ew := wrds_std hl
  have er := res_std hl
  generalize TL.joinL [32] [cStand, fC l] = ln at *
  have s3 : Same H G3 := s2.trans x3.gg
  have hv3 := hv.same x3.ag
  obtain ⟨t, xs, rfl, ht, htl, alt⟩ := hv3.tupled
  cases alt with
  | cons at0 alt =>
  cases alt
  obtain ⟨ln', rfl, e2, _⟩ := at0.strl
  obtain rfl : ln = ln' := dS_inj (congrArg PyData.str e2)
  clear e2
  walk_at "go"
  refine i_isiTup true hv3 rfl ?_
  walk_at "go"
  refine i_len_tup (.inl (.inl ht)) ?_
  walk_at "go"
  refine i_decN (fun z => absurd (show ((([S ln] : List V).length : Nat) : Int) = 1 from rfl) z) (fun _ => ?_)
  walk_at "go"
  refine ⟨rfl, ?_⟩
  walk_at "go"
  refine ⟨_, ⟨#[32]⟩, rfl, rfl, rfl, ?_, ?_⟩
  · rw [str_len]
    exact Nat.le_trans (show ln.length + 2 ≤ 100000 by omega) (by decide)
  intro W nW
  rw [words_V, ew]
  have s4 := s3.trans (same_upd (o := HO.lst ([cStand, fC l].map S)) nW)
  have hv4 := hv3.same (same_upd (o := HO.lst ([cStand, fC l].map S)) nW)
  have eW : (upd G3 W (.lst ([cStand, fC l].map S))) W = some (.lst [S cStand, S (fC l)]) := upd_same
  generalize upd G3 W (.lst ([cStand, fC l].map S)) = G4 at *
  walk_at "go"
  refine i_len_lst (.inl (.inl eW)) ?_
  walk_at "go"
  refine i_decN (fun z => absurd (show ((([S cStand, S (fC l)] : List V).length : Nat) : Int) = 2 from rfl) z) (fun _ => ?_)
  walk_at "go"
  refine i_decN (fun z => absurd rfl z) (fun _ => ?_)
  walk_at "go"
  refine i_dec (fun z => absurd z (by omega)) (fun _ => ?_)
  walk_at "go"
  refine i_dec (fun z => absurd z (rdP_fold hl).2) (fun _ => ?_)
  walk_at "go"
  have sm := tw_sm (tw_std hl) (by show 1 ≤ 100; decide)
  refine ⟨.tuple [dS ln], hv4, fun ds e => ?_, by rw [er]; exact sm, fun H5 s5 => ?_⟩
  · cases e
    intro x hx z hz
    rw [List.mem_singleton.mp hx] at hz
    injection hz with hz
    subst hz
    rw [str_len]
    omega
  rw [er]
  walk_at "go"
  refine i_new (by show 2 ≤ 100000; omega) fun p5 n5 => ?_
  walk_at "go"
  refine i_new (by show 1 ≤ 100000; omega) fun p6 n6 => ?_
  have ne6 : p5 ≠ p6 := fun z => by rw [← z, upd_same] at n6; cases n6
  walk_at "go"
  refine i_reprA (d := .tuple [.tuple [dS cStand, dS l]]) (.tup upd_same (by show 1 ≤ 10000; decide) (.one (.tup ((upd_ne ne6).trans upd_same) (by show 2 ≤ 10000; decide) (.cons (.str _ (by decide)) (.one (.str _ (by omega))))))) sm.1 (by decide) sm.2.1 (by show 2 ≤ 60; decide) ?_
  refine i_eq_same ?_
  exact q _ ((s4.trans s5).trans ((same_upd n5).trans (same_upd n6)))
end
theorem WayF.leaf {k : List Nat} {v : PyData} (h : WayF k v) : deepD v = v ∧ v.depth = 0 ∧ listD v = v := by
  cases h <;> exact ⟨rfl, rfl, rfl⟩
theorem GoodY.deep {e : PyData} (h : GoodY e) : deepD e = e ∧ deepD (listD e) = e ∧ e.depth ≤ 1 ∧ (listD e).depth ≤ 1 ∧ isWay e = true := by
  obtain ⟨k, v, rfl, hF⟩ := h.way
  obtain ⟨h1, h2, h3⟩ := hF.leaf
  refine ⟨?_, ?_, ?_, ?_, hF.ok⟩
  · show PyData.tuple [dS k, deepD v] = _
    rw [h1]
  · show PyData.tuple [dS k, deepD (listD v)] = _
    rw [h3, h1]
  · show max 0 (max v.depth 0) + 1 ≤ 1
    rw [h2]; decide
  · show max 0 (max (listD v).depth 0) + 1 ≤ 1
    rw [h3, h2]; decide
theorem wr_way {d : PyData} {n : Int} (h : badY (deepD d) = some n) : wrR d = .way n := by
  unfold wrR
  rw [h]
theorem wr_good {d : PyData} {ds : List PyData} (h : deepD d = .tuple ds) (k : ∀ e ∈ ds, isWay e = true) : wrR d = .good (ds.map fun w => dS (lnW w)) := by
  unfold wrR
  rw [h]
  show (match (badAt ds).map fun n : Nat => (n : Int) with | some n => Rs.way n | none => .good (ds.map fun w => dS (lnW w))) = _
  rw [badAt_none k]
  rfl
theorem bad_mid {es : List PyData} {o : PyData} {n : Nat} (hn : n ≤ es.length) (h : ∀ e ∈ es, isWay (deepD e) = true) (ho : isWay (deepD o) = false) : badAt ((es.take n ++ [o] ++ es.drop n).map deepD) = some n := by
  have ln : (es.take n).length = n := by rw [List.length_take]; omega
  refine badAt_some (d := deepD o) ?_ ho fun k hk c hc => ?_
  · rw [List.getElem?_map, List.getElem?_append_left (by rw [List.length_append, ln]; simp), List.getElem?_append_right (by omega), ln, Nat.sub_self]
    rfl
  · rw [List.getElem?_map, List.getElem?_append_left (by rw [List.length_append, ln]; simp; omega), List.getElem?_append_left (by omega)] at hc
    obtain ⟨e, he, rfl⟩ := Option.map_eq_some_iff.mp hc
    exact h e (List.mem_of_mem_take (List.mem_of_getElem? he))
theorem leaf_odd {e : PyData} (h1 : deepD e = e) (h3 : isTupD e = false) (h4 : seqOf e = none) : badY (deepD e) = some (-1) ∧ resD e = .line 0 0 := by
  rw [h1]
  refine ⟨?_, by unfold resD; rw [h4]⟩
  cases e <;> first
    | rfl
    | cases h3
section
variable {P : Program} {w : World} {K : PySem.W.Frag} {mg : Str → Option Value} {base : Heap} {C_GlimError C_BadRound C_BadText C_BadLine C_BadWay C_TooLong C_Lines C_NUMBERED : Addr}
def p_L_refused (K : PySem.W.Frag) : P2 := fun x y H Q _ => ∃ A d f a xs ds, x = .ref d.a ∧ y = .ref a ∧ D2 K d f A H ∧ A a = some (.lst xs) ∧ AtAll A xs ds ∧ ds.length ≤ 12 ∧ (∀ e ∈ ds, GoodY e) ∧
  ∀ A' H', Same A A' → D2 K d f A' H' → Q (.bl true) H'
theorem ok_L_refused (T : Txt K mg w C_GlimError C_BadRound C_BadText C_BadLine C_BadWay C_TooLong C_Lines C_NUMBERED) : GOK P w K mg base CX0 30 "_law_refused" ["_law_draw_here", "_law_ways"] (sp2  (p_L_refused K)) := by
  refine GOK.mk (k := 29) T.d_L_refused sc_L_refused len2 fun f cdv A outer s H vs Q E hgu hr h => ?_
  obtain ⟨x, y, rfl, h⟩ := h
  refine ⟨_, (pss_cons (ps_setLc (i := 2) (own := [("_law_way", 5)]) (g := gName 5) (tt := tYes) (by rfl) sc_L_refused.nd rfl rfl (sw_true rfl rfl rfl (by decide +kernel)) (piAny K (pv 1)) (blkOk_by (own := [("_law_way", 5)]) (N := ["_law_draw_here", "_law_ways", "_law_odd", "_law_number", "_law_thing", "_law_way"]) (sc := (defScope s_L_refused)) (by decide +kernel)) (fun _ _ _ _ _ => (pg_name (i := 5) sc_L_refused.nd rfl (Or.inl rfl))) (fun _ _ _ _ _ => pts_nil) (fun _ _ _ _ _ => (pe_ix (ixK K) (pe_lst (pa_cons (pv 5) (pa_cons (pe_f (ok_L_listed (K := K) T) (hr.mono (by decide)) pass0 (pa_cons (pv 5) pa_nil)) pa_nil))) (pe_f (ok_L_pick (K := K) T) (hr.mono (by decide)) pass0 (pa_cons (pv 0) (pa_cons pe_int pa_nil))) (fun _ _ => rfl)))) (pss_cons (ps_set (i := 3) sc_L_refused.nd rfl (Or.inl rfl) (pe_f (ok_L_pick (K := K) T) (hr.mono (by decide)) pass0 (pa_cons (pv 0) (pa_cons (pe_op (opAdd K) (pe_callB (cLen K) (by rfl) T.b_len (by decide +kernel) (pa_cons (pv 2) pa_nil)) pe_int) pa_nil)))) (pss_cons (ps_set (i := 2) sc_L_refused.nd rfl (Or.inl rfl) (pe_op (opAdd K) (pe_op (opAdd K) (pe_slice (slK K) (pv 2) po_none (po_some (pv 3))) (pe_lst (pa_cons (pe_f (ok_L_odd_way (K := K) T) (hr.mono (by decide)) pass0 (pa_cons (pv 0) pa_nil)) pa_nil))) (pe_slice (slK K) (pv 2) (po_some (pv 3)) po_none))) (pss_cons (ps_if (pw_or (pt_cmpR (opNe K hr.units) (pe_g (ok_L_lines (K := K) T) hgu (hr.mono (by decide)) pass0 (pa_cons (pv 2) pa_nil)) (pe_callB (Fg.cReprA K hgu hr.units) (by rfl) T.b_repr (by decide +kernel) (pa_cons (pe_lst (pa_cons (pe_tup (pa_cons (pe_S [119, 97, 121]) (pa_cons (pv 3) pa_nil))) (pa_cons pe_bl pa_nil))) pa_nil)) (nomark _)) (pw_or1 (pt_cmpR (opNe K hr.units) (pe_g (ok_L_lines (K := K) T) hgu (hr.mono (by decide)) pass0 (pa_cons (pe_callTy (cTup K) (by rfl) T.b_tuple (by decide +kernel) (pa_cons (pv 2) pa_nil)) pa_nil)) (pe_callB (Fg.cReprA K hgu hr.units) (by rfl) T.b_repr (by decide +kernel) (pa_cons (pe_lst (pa_cons (pe_tup (pa_cons (pe_S [119, 97, 121]) (pa_cons (pv 3) pa_nil))) (pa_cons pe_bl pa_nil))) pa_nil)) (nomark _)))).pt (pss_one (ps_ret pe_bl)) pss_nil) (pss_cons (ps_set (i := 4) sc_L_refused.nd rfl (Or.inl rfl) (pe_ix (ixK K) (pe_lst (pa_cons pe_non (pa_cons pe_int (pa_cons (pe_S [108, 97, 109, 101, 32, 50]) (pa_cons pe_bl (pa_cons (pe_S []) pa_nil)))))) (pe_f (ok_L_pick (K := K) T) (hr.mono (by decide)) pass0 (pa_cons (pv 0) (pa_cons pe_int pa_nil))) (fun _ _ => rfl))) (pss_one (ps_ret (pe_and (pe_cmpR (opEq K hr.units) (pe_g (ok_L_lines (K := K) T) hgu (hr.mono (by decide)) pass0 (pa_cons (pv 4) pa_nil)) (pe_callB (Fg.cReprA K hgu hr.units) (by rfl) T.b_repr (by decide +kernel) (pa_cons (pe_lst (pa_cons (pe_tup (pa_cons (pe_S [119, 97, 121]) (pa_cons (pe_un un_neg pe_int) pa_nil))) (pa_cons pe_bl pa_nil))) pa_nil)) (nomark _)) (pe_one (pe_cmpR (opEq K hr.units) (pe_g (ok_L_read (K := K) T) hgu (hr.mono (by decide)) pass0 (pa_cons (pv 4) pa_nil)) (pe_callB (Fg.cReprA K hgu hr.units) (by rfl) T.b_repr (by decide +kernel) (pa_cons (pe_lst (pa_cons (pe_tup (pa_cons (pe_S [108, 105, 110, 101]) (pa_cons pe_int (pa_cons pe_int pa_nil)))) (pa_cons pe_bl pa_nil))) pa_nil)) (nomark _))))))))))), ?_⟩
  show (_ : TS) { nx := fun _ H' => Q .non H', rt := Q } [some x, some y, none, none, none, none] H
  obtain ⟨A0, d, f, a, xs, ds, rfl, rfl, dr, ea, al, dl, hg, q⟩ := h
  walk_at "go"
  refine c_seqB dr (.inl ea) al (fun R k => by walk_at "go"; exact k) (by omega) (fun i e' => ∃ e, ds[i]? = some e ∧ (e' = e ∨ e' = listD e)) (fun _ => rfl) (fun i y e A1 G1 fr he ay s1 d1 QV k => ?_) (fun A1 G1 Dl ys es s1 d1 eD alD esl hp => ?_)
  · have ge := (hg e (List.mem_of_getElem? he)).deep
    show (_ : TE) _ G1 QV
    walk_at "go"
    refine ⟨A1, e, d1.1, ay, by omega, fun A2 G2 v x2 hv => ?_⟩
    have d2 := d1.ext x2
    walk_at "go"
    refine i_new (by show 2 ≤ 100000; omega) fun p np => ?_
    have a2 : AtAll A2 [y, v] [e, listD e] := .cons (ay.same x2.aa) (.one hv)
    obtain ⟨A3, s3, e3, al3, d3⟩ := cutAt d2 a2 np
    generalize upd G2 p (.lst [y, v]) = G3 at *
    walk_at "go"
    refine pick2 d3 (by decide) fun jj G4 d4 bj => ?_
    obtain ⟨j, rfl, hj⟩ := btw_nat (k := 2) bj (by decide)
    have h4 := d4.old e3
    match j, hj with
    | 0, _ =>
      refine i_ix_lst (v := y) (.inl (.inl h4)) (atI_nat rfl) ?_
      exact k _ _ _ _ (x2.aa.trans s3) d4 ((ay.same x2.aa).same s3) ⟨e, he, .inl rfl⟩
    | 1, _ =>
      refine i_ix_lst (v := v) (.inl (.inl h4)) (atI_nat rfl) ?_
      exact k _ _ _ _ (x2.aa.trans s3) d4 (hv.same s3) ⟨e, he, .inr rfl⟩
  have ges : ∀ e' ∈ es, isWay (deepD e') = true ∧ e'.depth ≤ 1 := fun e' he' => by
    obtain ⟨i, hi, rfl⟩ := List.mem_iff_getElem.mp he'
    obtain ⟨e, he, h⟩ := hp i _ (List.getElem?_eq_getElem hi)
    obtain ⟨g1, g2, g3, g4, g5⟩ := (hg e (List.mem_of_getElem? he)).deep
    rcases h with h | h
    · rw [h, g1]; exact ⟨g5, g3⟩
    · rw [h, g2]; exact ⟨g5, g4⟩
  have yl := alD.len
  walk_at "go"
  refine i_len_lst (.inl (.inl (d1.old eD))) ?_
  walk_at "go"
  refine pick2 d1 (by omega) fun nn G2 d2 bn => ?_
  obtain ⟨n, rfl, hn⟩ := btw_nat (k := ys.length + 1) (by rw [Int.natCast_add]; exact bn) (by omega)
  have hn2 : n ≤ es.length := by omega
  walk_at "go"
  refine i_slD d2 eD (cutV_to n) (alD.take n) fun p1 A3 G3 s3 e3 al3 d3 => ?_
  walk_at "go"
  refine ⟨A3, d, f, rfl, d3, fun o A4 G4 v s4 d4 av odd odp => ?_⟩
  walk_at "go"
  refine i_new (by show 1 ≤ 100000; omega) fun p2 n2 => ?_
  obtain ⟨A5, s5, e5, al5, d5⟩ := cutAt d4 (.one av) n2
  generalize upd G4 p2 (.lst [v]) = G5 at *
  have s35 := s4.trans s5
  walk_at "go"
  refine i_catD d5 (s35 _ _ e3) e5 (al3.same s35) al5 (by simp only [List.length_take, List.length_cons, List.length_nil]; omega) fun p3 A6 G6 s6 e6 al6 d6 => ?_
  walk_at "go"
  have s16 := (s3.trans s35).trans s6
  refine i_slD d6 (s16 _ _ eD) (cutV_fr n) ((alD.same s16).drop n) fun p4 A7 G7 s7 e7 al7 d7 => ?_
  walk_at "go"
  refine i_catD d7 (s7 _ _ e6) e7 (al6.same s7) al7 (by simp only [List.length_append, List.length_take, List.length_drop, List.length_cons, List.length_nil]; omega) fun r A8 G8 s8 e8 al8 d8 => ?_
  have zl := al8.len
  have wl : (es.take n ++ [o] ++ es.drop n).length ≤ 13 := by simp only [List.length_append, List.length_take, List.length_drop, List.length_cons, List.length_nil]; omega
  have at8 : At A8 (.ref r) (.list (es.take n ++ [o] ++ es.drop n)) := At.mkLst e8 al8 (by omega)
  have bm := bad_mid hn2 (fun e he => (ges e he).1) odd
  have dep : PyData.depthAll (es.take n ++ [o] ++ es.drop n) ≤ 1 := deps_of fun e he => by
    rcases List.mem_append.mp he with he | he
    · rcases List.mem_append.mp he with he | he
      · exact (ges e (List.mem_of_mem_take he)).2
      · rw [List.mem_singleton.mp he]; exact odp
    · exact (ges e (List.mem_of_mem_drop he)).2
  have sA : Same A0 A8 := ((s1.trans s16).trans s7).trans s8
  generalize es.take n ++ [o] ++ es.drop n = os at *
  generalize ys.take n ++ [v] ++ ys.drop n = zs at *
  clear d1 d2 d3 d4 d5 d6 d7 hp
  have bl : badY (deepD (.list os)) = some (n : Int) := by
    show (badAt (deepD.deepDs os)).map (fun n : Nat => (n : Int)) = _
    rw [deepDs_map, bm]
    rfl
  have sn : SmR (.way (n : Int)) := Nat.lt_of_le_of_lt (show ((n : Int)).natAbs ≤ 100 by omega) (by decide)
  walk_at "go"
  refine ⟨.list os, at8.same d8.1, by show PyData.depthAll os + 1 < 6; omega, by rw [wr_way bl]; exact sn, fun G9 s9 => ?_⟩
  rw [wr_way bl]
  walk_at "go"
  refine i_new (by show 2 ≤ 100000; omega) fun p np => ?_
  walk_at "go"
  refine i_new (by show 2 ≤ 100000; omega) fun p2 n2 => ?_
  obtain ⟨h1, h2⟩ := told_way s9 np n2
  walk_at "go"
  refine i_reprA h1 (rp_way sn) (by decide) rfl (by show 2 ≤ 60; decide) ?_
  refine i_ne_same ?_
  have d9 := d8.same h2
  clear h1
  generalize upd (upd G9 p (.tup [S cWay, .int (n : Int)])) p2 (.lst [.ref p, .bl true]) = G10 at *
  walk_at "go"
  refine i_tuple_lst (.inl (.inl (d9.old e8))) fun tl ntl => ?_
  have d10 := d9.same (same_upd (o := .tup zs) ntl)
  have atT : At (upd G10 tl (.tup zs)) (.ref tl) (.tuple os) := At.mkTup upd_same ((al8.same d9.1).same (same_upd ntl)) (by omega)
  generalize upd G10 tl (.tup zs) = G11 at *
  have blT : badY (deepD (.tuple os)) = some (n : Int) := bl
  walk_at "go"
  refine ⟨.tuple os, atT, by show PyData.depthAll os + 1 < 6; omega, by rw [wr_way blT]; exact sn, fun G12 s12 => ?_⟩
  rw [wr_way blT]
  walk_at "go"
  refine i_new (by show 2 ≤ 100000; omega) fun p np => ?_
  walk_at "go"
  refine i_new (by show 2 ≤ 100000; omega) fun p2 n2 => ?_
  obtain ⟨h1, h2⟩ := told_way s12 np n2
  walk_at "go"
  refine i_reprA h1 (rp_way sn) (by decide) rfl (by show 2 ≤ 60; decide) ?_
  refine i_ne_same ?_
  have d12 := d10.same h2
  clear h1
  generalize upd (upd G12 p (.tup [S cWay, .int (n : Int)])) p2 (.lst [.ref p, .bl true]) = G13 at *
  walk_at "go"
  refine i_new (by show 5 ≤ 100000; omega) fun L nL => ?_
  have a5 : AtAll A8 [.non, .int 7, S [108, 97, 109, 101, 32, 50], .bl true, S []] [.none, .int 7, dS [108, 97, 109, 101, 32, 50], .bool true, dS []] := .cons .non (.cons (.int 7) (.cons (.str _ (by decide)) (.cons (.bl true) (.one (.str _ (by decide))))))
  obtain ⟨A14, s14, e14, al14, d14⟩ := cutAt d12 a5 nL
  generalize upd G13 L (.lst [.non, .int 7, S [108, 97, 109, 101, 32, 50], .bl true, S []]) = G14 at *
  walk_at "go"
  refine pick2 d14 (by decide) fun jj G15 d15 bj => ?_
  obtain ⟨j, rfl, hj⟩ := btw_nat (k := 5) bj (by decide)
  have fin : ∀ {v : V} {e : PyData}, At A14 v e → deepD e = e → e.depth = 0 → isTupD e = false → seqOf e = none → ∃ e, At A14 v e ∧ e.depth = 0 ∧ badY (deepD e) = some (-1) ∧ resD e = .line 0 0 ∧ seqOf e = none := fun {v e} av h1 h2 h3 h4 =>
    ⟨e, av, h2, (leaf_odd h1 h3 h4).1, (leaf_odd h1 h3 h4).2, h4⟩
  obtain ⟨v, hv, e, av, dp, by_, rs, sq⟩ : ∃ v, ([.non, .int 7, S [108, 97, 109, 101, 32, 50], .bl true, S []] : List V)[j]? = some v ∧ ∃ e, At A14 v e ∧ e.depth = 0 ∧ badY (deepD e) = some (-1) ∧ resD e = .line 0 0 ∧ seqOf e = none := by
    match j, hj with
    | 0, _ => exact ⟨_, rfl, fin .non rfl rfl rfl rfl⟩
    | 1, _ => exact ⟨_, rfl, fin (.int 7) rfl rfl rfl rfl⟩
    | 2, _ => exact ⟨_, rfl, fin (.str _ (by decide)) rfl rfl rfl rfl⟩
    | 3, _ => exact ⟨_, rfl, fin (.bl true) rfl rfl rfl rfl⟩
    | 4, _ => exact ⟨_, rfl, fin (.str _ (by decide)) rfl rfl rfl rfl⟩
  refine i_ix_lst (.inl (.inl (d15.old e14))) (atI_nat hv) ?_
  have sm1 : SmR (.way (-1)) := by show (1 : Nat) < 10 ^ 30; decide
  walk_at "go"
  refine ⟨e, av.same d15.1, by rw [dp]; decide, by rw [wr_way by_]; exact sm1, fun G16 s16 => ?_⟩
  rw [wr_way by_]
  walk_at "go"
  refine i_new (by show 2 ≤ 100000; omega) fun p np => ?_
  walk_at "go"
  refine i_new (by show 2 ≤ 100000; omega) fun p2 n2 => ?_
  obtain ⟨h1, h2⟩ := told_way s16 np n2
  walk_at "go"
  refine i_reprA h1 (rp_way sm1) (by decide) rfl (by show 2 ≤ 60; decide) ?_
  refine i_eq_same ?_
  have d16 := d15.same h2
  clear h1
  generalize upd (upd G16 p (.tup [S cWay, .int (-1)])) p2 (.lst [.ref p, .bl true]) = G17 at *
  walk_at "go"
  refine ⟨e, av.same d16.1, fun ds e1 => absurd (sq.symm.trans e1) nofun, by rw [rs]; exact ⟨Nat.zero_le _, Nat.zero_le _⟩, fun G18 s18 => ?_⟩
  rw [rs]
  walk_at "go"
  refine i_new (by show 3 ≤ 100000; omega) fun p np => ?_
  walk_at "go"
  refine i_new (by show 2 ≤ 100000; omega) fun p2 n2 => ?_
  obtain ⟨h1, h2⟩ := told_line s18 np n2
  walk_at "go"
  refine i_reprA (d := lineT 0 0) h1 (rp_line (Nat.zero_le _) (Nat.zero_le _)) (by decide) rfl (by show 2 ≤ 60; decide) ?_
  refine i_eq_same ?_
  exact q _ _ (sA.trans s14) (d16.same h2)
end
theorem joinL_mem : ∀ {ws : List (List Nat)} {c : Nat}, c ∈ TL.joinL [32] ws → c = 32 ∨ ∃ w ∈ ws, c ∈ w
  | [], c, h => absurd h (by simp [TL.joinL])
  | [p], c, h => .inr ⟨p, List.mem_cons_self, h⟩
  | p :: q :: r, c, h => by
    have h : c ∈ p ++ ([32] ++ TL.joinL [32] (q :: r)) := h
    rcases List.mem_append.mp h with h | h
    · exact .inr ⟨p, List.mem_cons_self, h⟩
    rcases List.mem_append.mp h with h | h
    · exact .inl (List.mem_singleton.mp h)
    · rcases joinL_mem h with h | ⟨w, hw, h⟩
      · exact .inl h
      · exact .inr ⟨w, List.mem_cons_of_mem _ hw, h⟩
theorem good_line {e : PyData} (h : GoodY e) : LnM 2 (dS (lnW e)) := by
  have mk : ∀ {k w : List Nat}, k ∈ KINDS → Wd w → lnW e = TL.joinL [32] [k, w] → LnM 2 (dS (lnW e)) := fun {k w} hk hw e => by
    rw [e]
    refine .ln (fun x hx => ?_) (by simp) (by show 2 ≤ 2; decide)
    simp only [List.mem_cons, List.not_mem_nil, or_false] at hx
    rcases hx with rfl | rfl
    · exact .inl (wd_kind _ (by
        simp only [List.mem_cons, List.not_mem_nil, or_false] at hk ⊢
        exact hk))
    · exact hw
  cases h with
  | @gl l h r => exact mk (k := cGlass) (w := l) (by decide) (wd_glass h r) rfl
  | @rd p h =>
    refine mk (k := cStand) (w := p.2) (by decide) (.inl (wd_fold p h)) ?_
    show lnK cStand (dS p.1) = _
    unfold lnK
    rw [if_pos rfl]
    show cStand ++ [32] ++ fC p.1 = _
    rw [folds_ok p h]
    rfl
  | @nm k n h =>
    have hk : k ∈ KINDS ∧ k ≠ cStand := by rcases h with ⟨rfl, _⟩ | ⟨rfl, _⟩ | ⟨rfl, _⟩ <;> decide
    refine mk (k := k) (w := dec n) hk.1 (wd_dec (by omega) (by omega)) ?_
    show lnK k (.int (n : Int)) = _
    unfold lnK
    rw [if_neg hk.2, show txD (.int (n : Int)) = dec n from congrArg dec (Int.toNat_natCast n)]
    show k ++ [32] ++ dec n = k ++ ([32] ++ dec n)
    rw [List.append_assoc]
theorem LnM.rp {m : Nat} {e : PyData} (h : LnM m e) (hm : m ≤ 10) : Rp 300 e ∧ e.hasDict = false ∧ e.depth ≤ 1 := by
  cases h with
  | non => exact ⟨Rp.non, rfl, by decide⟩
  | sev => exact ⟨(Rp.int (by decide)).mono (Nat.zero_le 300), rfl, by decide⟩
  | tup => exact ⟨(Rp.tuple (m := 10) (ds := [dS [108, 97, 109, 101, 32, 50]]) fun d hd => by rw [List.mem_singleton.mp hd]; exact Rp.str (by decide) (by decide)).mono (by decide), rfl, by decide⟩
  | tru => exact ⟨Rp.bool _, rfl, by decide⟩
  | @ln ws h ne l =>
    have jl := join_len h ne
    refine ⟨Rp.str (by omega) fun c hc => ?_, rfl, Nat.zero_le _⟩
    rcases joinL_mem hc with rfl | ⟨w, hw, hc⟩
    · decide
    · exact Nat.lt_trans ((wd_facts (h w hw)).2 c hc).1 (by decide)
theorem ln_sm {es : List PyData} {m : Nat} (h : ∀ e ∈ es, LnM m e) (hm : m ≤ 10) (l : es.length ≤ 60) : SmR (.good es) ∧ Rp 20000 (.list es) :=
  ⟨⟨(Rp.tuple (m := 300) fun d hd => ((h d hd).rp hm).1).mono (by omega), nd_of fun d hd => ((h d hd).rp hm).2.1, Nat.le_trans (deps_of (n := 1) fun d hd => ((h d hd).rp hm).2.2) (by decide)⟩, (Rp.list (m := 300) fun d hd => ((h d hd).rp hm).1).mono (by omega)⟩
theorem WayF.rp {k : List Nat} {v : PyData} (h : WayF k v) : Rp 30 v ∧ v.hasDict = false ∧ k.length ≤ 30 ∧ ∀ c ∈ k, c < 16 ^ 8 := by
  cases h with
  | gl h4 hr => exact ⟨Rp.str (by omega) fun c hc => sg_small c (hr c hc), rfl, by decide, by decide⟩
  | rd hr => exact ⟨Rp.str (by have := hr.2.1; omega) fun c hc => sg_small c (hr.2.2 c hc), rfl, by decide, by decide⟩
  | @nm _ n h =>
    refine ⟨(Rp.int (Nat.lt_of_le_of_lt (show ((n : Int)).natAbs ≤ 9 by omega) (by decide))).mono (Nat.zero_le 30), rfl, ?_⟩
    rcases h with ⟨e, _⟩ | ⟨e, _⟩ | ⟨e, _⟩ <;> (have e : k = _ := e; rw [e]; decide)
theorem list_rp {ds : List PyData} (h : ∀ e ∈ ds, GoodY e) (l : ds.length ≤ 12) : Rp 20000 (.list (ds.map listD)) ∧ (PyData.list (ds.map listD)).hasDict = false ∧ (PyData.list (ds.map listD)).depth ≤ 2 := by
  have one : ∀ e ∈ ds.map listD, Rp 62 e ∧ e.hasDict = false ∧ e.depth ≤ 1 := fun e he => by
    obtain ⟨d, hd, rfl⟩ := List.mem_map.mp he
    have dp := (h d hd).deep.2.2.2.1
    obtain ⟨k, v, rfl, hF⟩ := (h d hd).way
    obtain ⟨r, nd, kl, kc⟩ := hF.rp
    have lf := hF.leaf.2.2
    have e1 : listD (.tuple [dS k, v]) = .list [dS k, v] := by
      show PyData.list [dS k, listD v] = _
      rw [lf]
    rw [e1] at dp ⊢
    refine ⟨Rp.list (m := 30) (ds := [dS k, v]) fun d hd => ?_, ?_, dp⟩
    · simp only [List.mem_cons, List.not_mem_nil, or_false] at hd
      rcases hd with rfl | rfl
      · exact Rp.str kl kc
      · exact r
    · show (false || (v.hasDict || false)) = false
      rw [nd]; rfl
  refine ⟨(Rp.list (m := 62) fun d hd => (one d hd).1).mono (by rw [List.length_map]; omega), nd_of fun d hd => (one d hd).2.1, ?_⟩
  have := deps_of (n := 1) fun d hd => (one d hd).2.2
  show PyData.depthAll (ds.map listD) + 1 ≤ 2
  omega
theorem deep_ways {ds : List PyData} (h : ∀ e ∈ ds, GoodY e) : deepD.deepDs ds = ds ∧ deepD.deepDs (ds.map listD) = ds := by
  rw [deepDs_map, deepDs_map, List.map_map]
  exact ⟨(List.map_congr_left fun e he => (h e he).deep.1).trans (List.map_id _), (List.map_congr_left fun e he => (h e he).deep.2.1).trans (List.map_id _)⟩
theorem wr_all {ds : List PyData} (h : ∀ e ∈ ds, GoodY e) {D : PyData} (hD : D = .list ds ∨ D = .tuple ds ∨ D = .list (ds.map listD)) : wrR D = .good (ds.map fun w => dS (lnW w)) ∧ D.depth < 6 := by
  obtain ⟨e1, e2⟩ := deep_ways h
  have w : ∀ e ∈ ds, isWay e = true := fun e he => (h e he).deep.2.2.2.2
  have d1 := deps_of (n := 1) fun e he => (h e he).deep.2.2.1
  have d2 : PyData.depthAll (ds.map listD) ≤ 1 := deps_of (n := 1) fun e he => by
    obtain ⟨x, hx, rfl⟩ := List.mem_map.mp he
    exact (h x hx).deep.2.2.2.1
  rcases hD with rfl | rfl | rfl
  · exact ⟨wr_good (congrArg PyData.tuple e1) w, by show PyData.depthAll ds + 1 < 6; omega⟩
  · exact ⟨wr_good (congrArg PyData.tuple e1) w, by show PyData.depthAll ds + 1 < 6; omega⟩
  · exact ⟨wr_good (congrArg PyData.tuple e2) w, by show PyData.depthAll (ds.map listD) + 1 < 6; omega⟩
theorem i_forR3 {σ : L2.St} {H : Hp} {D : Ends} {tb : TS} {g : TG} (n : Nat) (hn : n ≤ 100000000) (Pv : Nat → L2.St → Hp → Prop) (h0 : Pv 0 σ H)
    (hs : ∀ i σ' H', i < n → Pv i σ' H' → g (.int (i : Int)) σ' H' fun σ2 H2 => tb { D with nx := Pv (i + 1), ct := Pv (i + 1), bk := D.nx } σ2 H2) (hd : ∀ σ' H', Pv n σ' H' → D.nx σ' H') : ∃ j : Int, ([.int (n : Int)] : List V) = [.int j] ∧ -(2 ^ 62) ≤ j ∧ j < 2 ^ 62 ∧ LoopG g tb D σ (Itr 0 j.toNat) H := by
  refine ⟨(n : Int), rfl, by omega, by omega, ?_⟩
  rw [Int.toNat_natCast]
  refine for_range Pv h0 (fun i σ' H' hi p => ?_) hd
  rw [Int.zero_add]
  exact hs i σ' H' hi p
section
variable {P : Program} {w : World} {K : PySem.W.Frag} {mg : Str → Option Value} {base : Heap} {C_GlimError C_BadRound C_BadText C_BadLine C_BadWay C_TooLong C_Lines C_NUMBERED : Addr}
def p_L_round (K : PySem.W.Frag) : P2 := fun x y H Q _ => ∃ (H0 : Hp) (d : Dd) (most : Int), x = .ref d.a ∧ y = .int most ∧ Dr K d H0 H ∧ 1 ≤ most ∧ most ≤ 1000 ∧ ∀ l H', Dr K d H0 H' → Row l → 1 ≤ l.length → (l.length : Int) ≤ most → Q (S l) H'
theorem ok_L_round (T : Txt K mg w C_GlimError C_BadRound C_BadText C_BadLine C_BadWay C_TooLong C_Lines C_NUMBERED) : OK P w K mg base CX0 4 "_law_round" ["_law_draw_here", "_law_most"] (sp2  (p_L_round K)) := by
  refine OK.mk (k := 3) T.d_L_round sc_L_round len2 fun f cdv A outer s H vs Q E hr h => ?_
  obtain ⟨x, y, rfl, h⟩ := h
  refine ⟨_, (pss_one (ps_ret (peJoin K (pe_S []) (pe_lc (own := [("_law_turn", 2)]) (g := gName 2) (tt := tYes) (by rfl) sc_L_round.nd (pi_range1 rfl T.b_range (pa_cons (pe_op (opAdd K) pe_int (pe_f (ok_L_pick (K := K) T) (hr.mono (by decide)) pass0 (pa_cons (pv 0) (pa_cons (pv 1) pa_nil)))) pa_nil)) (blkOk_by (own := [("_law_turn", 2)]) (N := ["_law_draw_here", "_law_most", "_law_turn"]) (sc := (defScope s_L_round)) (by decide +kernel)) (fun _ _ _ _ _ => (pg_name (i := 2) sc_L_round.nd rfl (Or.inl rfl))) (fun _ _ _ _ _ => pts_nil) (fun _ _ _ _ _ => (pe_f (ok_L_sign (K := K) T) (hr.mono (by decide)) pass0 (pa_cons (pv 0) pa_nil))))))), ?_⟩
  show (_ : TS) { nx := fun _ H' => Q .non H', rt := Q } [some x, some y, none] H
  obtain ⟨H0, d, most, rfl, rfl, dr, m1, m2, q⟩ := h
  walk_at "go"
  refine c_rngD (K := K) (d := d) (H0 := H0) (fun z => 1 ≤ z ∧ z ≤ most) (fun R k => ?_) (fun z h => by omega) (fun i acc => ∃ cs : List Nat, cs.length = i ∧ i ≤ 1000 ∧ Row cs ∧ acc = cs.map fun c => S [c]) ⟨[], rfl, by omega, fun c hc => by simp at hc, rfl⟩ ?_ (fun _ => rfl) ?_ ?_
  · walk_at "go"
    refine ⟨H0, d, most, rfl, rfl, dr, by omega, fun n H1 dr1 b => ?_⟩
    walk_at "go"
    exact k _ _ dr1 (by have := b.1; have := b.2.1; have := b.2.2; omega)
  · rintro i acc ⟨cs, h1, h2, h3, rfl⟩
    rw [List.length_map]; omega
  · rintro z i acc Hk H2 hz hi ⟨cs, h1, h2, h3, rfl⟩ dr2 QV k
    show (_ : TE) [some (.ref d.a), some (.int most), some (.int (i : Int))] H2 QV
    walk_at "go"
    refine ⟨Hk, d, rfl, dr2, fun c H3 dr3 hc => k _ _ dr3 ⟨cs ++ [c], by rw [List.length_append, h1]; rfl, by omega, fun x hx => ?_, by rw [List.map_append]; rfl⟩⟩
    rcases List.mem_append.mp hx with hx | hx
    · exact h3 x hx
    · rw [List.mem_singleton.mp hx]; exact hc
  · rintro z Dl H3 acc hz n0 ⟨cs, h1, h2, h3, rfl⟩ dr3
    walk_at "go"
    refine i_join1 (.inl (.inl (dr3.old upd_same))) (by omega) ?_
    exact q cs H3 (dr3.less dr.cells n0) h3 (by omega) (by omega)
end
section
variable {P : Program} {w : World} {K : PySem.W.Frag} {mg : Str → Option Value} {base : Heap} {C_GlimError C_BadRound C_BadText C_BadLine C_BadWay C_TooLong C_Lines C_NUMBERED : Addr}
def p_law (K : PySem.W.Frag) : P1 := fun x H Q _ => ∃ (a : Addr) (ns : List Int), x = .ref a ∧ SqL K H a (ns.map V.int) ∧ ns.length ≤ 63 ∧ ∀ H', Q (.bl true) H'
theorem ok_law_at {f : Addr} {fd : FuncData} (F : Fun K "law" "law" s_law f fd) (T : Txt K mg w C_GlimError C_BadRound C_BadText C_BadLine C_BadWay C_TooLong C_Lines C_NUMBERED) : GOk P w K mg base CX0 31 f fd ["_law_script"] (sp1 (p_law K)) := by
  refine FnGOk.mk (k := 30) F sc_law len1 fun cdv A outer s H vs Q E hgu hr h => ?_
  obtain ⟨x, rfl, h⟩ := h
  refine ⟨_, (pss_cons (ps_set (i := 1) sc_law.nd rfl (Or.inr rfl) (pe_f (ok_L_draw (K := K) T) (hr.mono (by decide)) pass0 (pa_cons (pv 0) pa_nil))) (pss_cons (ps_set (i := 2) sc_law.nd rfl (Or.inl rfl) (pe_f (ok_L_pick (K := K) T) (hr.mono (by decide)) pass0 (pa_cons (pv 1) (pa_cons pe_int pa_nil)))) (Evl.pss_cut (ps_if (pt_cmpR (opEq K hr.units) (pe_f (ok_L_pick (K := K) T) (hr.mono (by decide)) pass0 (pa_cons (pv 1) (pa_cons pe_int pa_nil))) pe_int (nomark _)) (pss_one (ps_set (i := 2) sc_law.nd rfl (Or.inl rfl) pe_int)) pss_nil) (pss_cons (ps_setLc (i := 3) (own := [("_law_turn", 7)]) (g := gName 7) (tt := tYes) (by rfl) sc_law.nd rfl rfl (sw_true rfl rfl rfl (by decide +kernel)) (pi_range1 rfl T.b_range (pa_cons (pv 2) pa_nil)) (blkOk_by (own := [("_law_turn", 7)]) (N := ["_law_script", "_law_draw_here", "_law_many", "_law_ways", "_law_lines_here", "_law_listed_here", "_law_thing", "_law_turn", "_law_spoilt_here", "_law_spoil", "_law_before", "_law_way", "_law_line"]) (sc := (defScope s_law)) (by decide +kernel)) (fun _ _ _ _ _ => (pg_name (i := 7) sc_law.nd rfl (Or.inl rfl))) (fun _ _ _ _ _ => pts_nil) (fun _ _ _ _ _ => (pe_f (ok_L_drawn_way (K := K) T) (hr.mono (by decide)) pass0 (pa_cons (pv 1) pa_nil)))) (pss_cons (ps_setLc (i := 4) (own := [("_law_way", 11)]) (g := gName 11) (tt := tYes) (by rfl) sc_law.nd rfl rfl (sw_true rfl rfl rfl (by decide +kernel)) (piAny K (pv 3)) (blkOk_by (own := [("_law_way", 11)]) (N := ["_law_script", "_law_draw_here", "_law_many", "_law_ways", "_law_lines_here", "_law_listed_here", "_law_thing", "_law_turn", "_law_spoilt_here", "_law_spoil", "_law_before", "_law_way", "_law_line"]) (sc := (defScope s_law)) (by decide +kernel)) (fun _ _ _ _ _ => (pg_name (i := 11) sc_law.nd rfl (Or.inl rfl))) (fun _ _ _ _ _ => pts_nil) (fun _ _ _ _ _ => (pe_f (ok_L_written (K := K) T) (hr.mono (by decide)) pass0 (pa_cons (pv 11) pa_nil)))) (pss_cons (ps_setLc (i := 5) (own := [("_law_way", 11)]) (g := gName 11) (tt := tYes) (by rfl) sc_law.nd rfl rfl (sw_true rfl rfl rfl (by decide +kernel)) (piAny K (pv 3)) (blkOk_by (own := [("_law_way", 11)]) (N := ["_law_script", "_law_draw_here", "_law_many", "_law_ways", "_law_lines_here", "_law_listed_here", "_law_thing", "_law_turn", "_law_spoilt_here", "_law_spoil", "_law_before", "_law_way", "_law_line"]) (sc := (defScope s_law)) (by decide +kernel)) (fun _ _ _ _ _ => (pg_name (i := 11) sc_law.nd rfl (Or.inl rfl))) (fun _ _ _ _ _ => pts_nil) (fun _ _ _ _ _ => (pe_f (ok_L_listed (K := K) T) (hr.mono (by decide)) pass0 (pa_cons (pv 11) pa_nil)))) (pss_cons (ps_for PassesOwn.never rfl (piAny K (pe_lst (pa_cons (pv 3) (pa_cons (pe_callTy (cTup K) (by rfl) T.b_tuple (by decide +kernel) (pa_cons (pv 3) pa_nil)) (pa_cons (pv 5) pa_nil))))) (pg_name (i := 6) sc_law.nd rfl (Or.inl rfl)) (pss_one (ps_if (pt_cmpR (opNe K hr.units) (pe_g (ok_L_lines (K := K) T) hgu (hr.mono (by decide)) pass0 (pa_cons (pv 6) pa_nil)) (pe_callB (Fg.cReprA K hgu hr.units) (by rfl) T.b_repr (by decide +kernel) (pa_cons (pe_callTy (cTup K) (by rfl) T.b_tuple (by decide +kernel) (pa_cons (pv 4) pa_nil)) pa_nil)) (nomark _)) (pss_one (ps_ret pe_bl)) pss_nil))) (pss_cons (ps_if (pt_cmpR (opNe K hr.units) (pe_callB (Fg.cReprA K hgu hr.units) (by rfl) T.b_repr (by decide +kernel) (pa_cons (pv 5) pa_nil)) (pe_callB (Fg.cReprA K hgu hr.units) (by rfl) T.b_repr (by decide +kernel) (pa_cons (pe_f (ok_L_listed (K := K) T) (hr.mono (by decide)) pass0 (pa_cons (pv 3) pa_nil)) pa_nil)) (nomark _)) (pss_one (ps_ret pe_bl)) pss_nil) (pss_cons (ps_for PassesOwn.never rfl (pi_range1 rfl T.b_range (pa_cons pe_int pa_nil)) (pg_name (i := 7) sc_law.nd rfl (Or.inl rfl)) (pss_cons (ps_setLc (i := 8) (own := [("_law_line", 12)]) (g := gName 12) (tt := tYes) (by rfl) sc_law.nd rfl rfl (sw_true rfl rfl rfl (by decide +kernel)) (piAny K (pv 4)) (blkOk_by (own := [("_law_line", 12)]) (N := ["_law_script", "_law_draw_here", "_law_many", "_law_ways", "_law_lines_here", "_law_listed_here", "_law_thing", "_law_turn", "_law_spoilt_here", "_law_spoil", "_law_before", "_law_way", "_law_line"]) (sc := (defScope s_law)) (by decide +kernel)) (fun _ _ _ _ _ => (pg_name (i := 12) sc_law.nd rfl (Or.inl rfl))) (fun _ _ _ _ _ => pts_nil) (fun _ _ _ _ _ => (pv 12))) (pss_cons (ps_for PassesOwn.never rfl (pi_range1 rfl T.b_range (pa_cons (pe_ix (ixK K) (pe_lst (pa_cons pe_int (pa_cons pe_int (pa_cons pe_int (pa_cons pe_int pa_nil))))) (pv 7) (fun _ _ => rfl)) pa_nil)) (pg_name (i := 9) sc_law.nd rfl (Or.inl rfl)) (pss_one (ps_set (i := 8) sc_law.nd rfl (Or.inl rfl) (pe_f (ok_L_spoilt (K := K) T) (hr.mono (by decide)) pass0 (pa_cons (pv 1) (pa_cons (pv 8) pa_nil)))))) (pss_cons (ps_set (i := 10) sc_law.nd rfl (Or.inl rfl) (pe_callB (Fg.cReprA K hgu hr.units) (by rfl) T.b_repr (by decide +kernel) (pa_cons (pv 8) pa_nil))) (pss_cons (ps_for PassesOwn.never rfl (piAny K (pe_lst (pa_cons (pv 8) (pa_cons (pe_callTy (cTup K) (by rfl) T.b_tuple (by decide +kernel) (pa_cons (pv 8) pa_nil)) pa_nil)))) (pg_name (i := 6) sc_law.nd rfl (Or.inl rfl)) (pss_one (ps_if (pt_cmpR (opNe K hr.units) (pe_g (ok_L_read (K := K) T) hgu (hr.mono (by decide)) pass0 (pa_cons (pv 6) pa_nil)) (pe_g (ok_L_due (K := K) T) hgu (hr.mono (by decide)) pass0 (pa_cons (pv 6) pa_nil)) (nomark _)) (pss_one (ps_ret pe_bl)) pss_nil))) (pss_one (ps_if (pt_cmpR (opNe K hr.units) (pe_callB (Fg.cReprA K hgu hr.units) (by rfl) T.b_repr (by decide +kernel) (pa_cons (pv 8) pa_nil)) (pv 10) (nomark _)) (pss_one (ps_ret pe_bl)) pss_nil))))))) (pss_cons (ps_if (pt_not (pt_val (pe_g (ok_L_refused (K := K) T) hgu (hr.mono (by decide)) pass0 (pa_cons (pv 1) (pa_cons (pv 3) pa_nil))))) (pss_one (ps_ret pe_bl)) pss_nil) (pss_cons (ps_for PassesOwn.never rfl (piAny K (pe_op (opAdd K) (pv 3) (pv 5))) (pg_name (i := 11) sc_law.nd rfl (Or.inl rfl)) (pss_one (ps_if (pt_cmpR op_isnot_bl (pe_f (ok_is_way (K := K) T) (hr.mono (by decide)) pass0 (pa_cons (pv 11) pa_nil)) pe_bl (nomark _)) (pss_one (ps_ret pe_bl)) pss_nil))) (pss_one (ps_ret (pe_g (ok_L_any_standin (K := K) T) hgu (hr.mono (by decide)) pass0 (pa_cons (pe_f (ok_L_round (K := K) T) (hr.mono (by decide)) pass0 (pa_cons (pv 1) (pa_cons (pe_ix (ixK K) (pe_lst (pa_cons pe_int (pa_cons pe_int (pa_cons pe_int pa_nil)))) (pe_f (ok_L_pick (K := K) T) (hr.mono (by decide)) pass0 (pa_cons (pv 1) (pa_cons pe_int pa_nil))) (fun _ _ => rfl)) pa_nil))) pa_nil))))))))))))))), ?_⟩
  show (_ : TS) { nx := fun _ H' => Q .non H', rt := Q } [some x, none, none, none, none, none, none, none, none, none, none, none, none] H
  obtain ⟨a, ns, rfl, hS, hl, q⟩ := h
  walk_at "go"
  refine ⟨a, ns, rfl, hS, by omega, fun H0 d H1 s0 dr => ?_⟩
  have d0 := D2.of0 dr
  walk_at "go"
  refine pick2 d0 (by decide) fun n0 G0 d1 b0 => ?_
  obtain ⟨m0, rfl, hm0⟩ := btw_nat (k := 6) b0 (by decide)
  walk_at "go"
  refine i_cut (fun σ G => ∃ m : Nat, m ≤ 12 ∧ σ = [some (.ref a), some (.ref d.a), some (.int (m : Int)), none, none, none, none, none, none, none, none, none, none] ∧ D2 K d noF H0 G) ?_ ?_
  · walk_at "go"
    refine pick2 d1 (by decide) fun n1 G1 d2 b1 => ?_
    walk_at "go"
    refine i_dec (fun e => ?_) (fun e => ?_)
    · walk_at "go"
      exact ⟨12, by decide, rfl, d2⟩
    · walk_at "go"
      exact ⟨m0, by omega, rfl, d2⟩
  clear d0 d1 b0 dr
  rintro σ G ⟨m, hm, rfl, d3⟩
  walk_at "go"
  refine c_rngB d3 (fun R k => by walk_at "go"; exact k) (by omega) (fun _ e => GoodY e) (fun _ => rfl) (fun i A1 G1 fr hi s1 d4 QV k => ?_) (fun A1 G1 wl xs ds s1 d4 ew al dl hp => ?_)
  · show (_ : TE) _ G1 QV
    walk_at "go"
    exact ⟨A1, d, fr, rfl, d4, fun e A2 G2 v s2 d5 av ge => k _ _ _ _ s2 d5 av ge⟩
  have hg : ∀ e ∈ ds, GoodY e := fun e he => by
    obtain ⟨i, hi, rfl⟩ := List.mem_iff_getElem.mp he
    exact hp i _ (List.getElem?_eq_getElem hi)
  clear hp
  have dl12 : ds.length ≤ 12 := by omega
  have xl := al.len
  walk_at "go"
  refine Fg.c_lstD (A := A1) d4.1 (fun R k => by walk_at "go"; exact k) (.inl (.inl (d4.old ew))) al (by omega) (fun e => dS (lnW e)) (fun _ => rfl) (fun y e A2 G2 he hy y2 QV k => ?_) (fun ll A2 G2 ls x2 e2 ea2 al2 len2 => ?_)
  · show (_ : TE) _ G2 QV
    walk_at "go"
    refine ⟨e, hy.same y2.ag, hg e he, fun G3 s3 => ?_⟩
    exact k A2 G3 _ ⟨Same.refl _, y2.ag.trans s3, s3, fun b h1 h2 => absurd h1 h2⟩ (.str _ (Nat.le_trans (lnW_len (hg e he).deep.2.2.2.2) (by decide)))
  have d5 := d4.ext x2
  clear e2
  walk_at "go"
  refine Fg.c_lstD (A := A2) d5.1 (fun R k => by walk_at "go"; exact k) (.inl (.inl (d5.old (x2.aa _ _ ew)))) (al.same x2.aa) (by omega) listD (fun _ => rfl) (fun y e A3 G3 he hy y3 QV k => ?_) (fun li A3 G3 zs x3 e3 ea3 al3 len3 => ?_)
  · show (_ : TE) _ G3 QV
    walk_at "go"
    exact ⟨A3, e, y3.ag, hy, by have := (hg e he).deep.2.2.1; omega, k⟩
  have d6 := d5.ext x3
  clear e3 d4 d5
  have ew3 := x3.aa _ _ (x2.aa _ _ ew)
  have aw3 := (al.same x2.aa).same x3.aa
  have el3 := x3.aa _ _ ea2
  have am3 := al2.same x3.aa
  clear ew al ea2 al2 x2 x3
  have lnM : ∀ e ∈ ds.map (fun e => dS (lnW e)), LnM 2 e := fun e he => by
    obtain ⟨y, hy, rfl⟩ := List.mem_map.mp he
    exact good_line (hg y hy)
  have lm : (ds.map fun e => dS (lnW e)).length ≤ 12 := by rw [List.length_map]; omega
  obtain ⟨smL, rpL⟩ := ln_sm lnM (by decide) (by omega)
  obtain ⟨rpI, ndI, dpI⟩ := list_rp hg dl12
  walk_at "go"
  refine i_tuple_lst (.inl (.inl (d6.old ew3))) fun tl ntl => ?_
  obtain ⟨A4, s4, e4, d7⟩ := d6.step (.tup xs) ntl
  generalize upd G3 tl (.tup xs) = G4 at *
  walk_at "go"
  refine i_new (by show 3 ≤ 100000; omega) fun L3 nL3 => ?_
  have aw4 := aw3.same s4
  have a3 : AtAll A4 [.ref wl, .ref tl, .ref li] [.list ds, .tuple ds, .list (ds.map listD)] := .cons (At.mkLst (s4 _ _ ew3) aw4 (by omega)) (.cons (At.mkTup e4 aw4 (by omega)) (.one (At.mkLst (s4 _ _ ea3) (al3.same s4) (by rw [List.length_map]; omega))))
  obtain ⟨A5, s5, e5, al5, d8⟩ := cutAt d7 a3 nL3
  generalize upd G4 L3 (.lst [.ref wl, .ref tl, .ref li]) = G5 at *
  have s45 := s4.trans s5
  clear d6 d7 d3
  refine Fg.i_forL (xs := [.ref wl, .ref tl, .ref li]) (.inl (.inl (d8.old e5))) (fun i σ G => ∃ v6, σ = [some (.ref a), some (.ref d.a), some (.int (m : Int)), some (.ref wl), some (.ref ll), some (.ref li), v6, none, none, none, none, none, none] ∧ D2 K d noF A5 G)
    ⟨none, rfl, d8⟩ (fun i σ' G _ p => ?_) ?_ ?_
  · obtain ⟨v6, rfl, d9⟩ := p
    exact .inl (.inl (d9.old e5))
  · rintro i y σ G hy ⟨v6, rfl, d9⟩
    obtain ⟨D, hD, aD⟩ := al5.get hy
    have hD3 : D = .list ds ∨ D = .tuple ds ∨ D = .list (ds.map listD) := by
      have := List.mem_of_getElem? hD
      simpa only [List.mem_cons, List.not_mem_nil, or_false] using this
    obtain ⟨wr, dp⟩ := wr_all hg hD3
    walk_at "go"
    refine ⟨D, aD.same d9.1, dp, by rw [wr]; exact smL, fun G6 s6 => ?_⟩
    rw [wr]
    have d10 := d9.same s6
    walk_at "go"
    refine i_tuple_lst (.inl (.inl (d10.old (s45 _ _ el3)))) fun t2 nt2 => ?_
    have d11 := d10.same (same_upd (o := .tup ls) nt2)
    have aT : At (upd G6 t2 (.tup ls)) (.ref t2) (.tuple (ds.map fun e => dS (lnW e))) := At.mkTup upd_same (((am3.same s45).same d10.1).same (same_upd nt2)) (by omega)
    generalize upd G6 t2 (.tup ls) = G7 at *
    walk_at "go"
    refine i_reprA aT smL.1 (by decide) smL.2.1 (by have := smL.2.2; show PyData.depthAll _ + 1 ≤ 60; omega) ?_
    refine i_ne_same ?_
    walk_at "go"
    exact ⟨_, rfl, d11⟩
  rintro σ G ⟨v6, rfl, d9⟩
  have ew5 := s45 _ _ ew3
  have aw5 := aw3.same s45
  have el5 := s45 _ _ el3
  have am5 := am3.same s45
  have ei5 := s45 _ _ ea3
  have ai5 := al3.same s45
  clear d8 e5 al5 a3 aw4 e4 ea3 al3 el3 am3 ew3 aw3 s4 s5 s45
  have aI : At A5 (.ref li) (.list (ds.map listD)) := At.mkLst ei5 ai5 (by rw [List.length_map]; omega)
  have aW : At A5 (.ref wl) (.list ds) := At.mkLst ew5 aw5 (by omega)
  walk_at "go"
  refine i_reprA (aI.same d9.1) rpI (by decide) ndI (by omega) ?_
  walk_at "go"
  refine ⟨A5, .list ds, d9.1, aW, by have := (wr_all hg (D := .list ds) (.inl rfl)).2; omega, fun A6 G6 v x6 hv => ?_⟩
  have el6 : listD (.list ds) = .list (ds.map listD) := by rw [← listDs_map]; rfl
  rw [el6] at hv
  have d10 := d9.ext x6
  walk_at "go"
  refine i_reprA (hv.same x6.ag) rpI (by decide) ndI (by omega) ?_
  refine i_ne_same ?_
  walk_at "go"
  have ew6 := x6.aa _ _ ew5
  have aw6 := aw5.same x6.aa
  have el6' := x6.aa _ _ el5
  have am6 := am5.same x6.aa
  have ei6 := x6.aa _ _ ei5
  have ai6 := ai5.same x6.aa
  clear d9 x6 ew5 aw5 el5 am5 ei5 ai5 aI aW hv el6
  refine f_rng1 4 (fun R k => by walk_at "go"; exact k) (by decide) (fun i σ G => ∃ A v6 v7 v8 v9 v10, σ = [some (.ref a), some (.ref d.a), some (.int (m : Int)), some (.ref wl), some (.ref ll), some (.ref li), v6, v7, v8, v9, v10, none, none] ∧ Same A6 A ∧ D2 K d noF A G)
    ⟨A6, v6, none, none, none, none, rfl, Same.refl _, d10⟩ ?_ ?_
  · rintro i σ G hi ⟨A, v6, v7, v8, v9, v10, rfl, s7, d11⟩
    show (_ : TS) _ [some (.ref a), some (.ref d.a), some (.int (m : Int)), some (.ref wl), some (.ref ll), some (.ref li), v6, some (.int (i : Int)), v8, v9, v10, none, none] G
    have el7 := s7 _ _ el6'
    have am7 := am6.same s7
    walk_at "go"
    refine Fg.c_lstD (A := A) d11.1 (fun R k => by walk_at "go"; exact k) (.inl (.inl (d11.old el7))) am7 (by omega) (fun e => e) (fun _ => rfl) (fun y e A8 G8 he hy y8 QV k => ?_) (fun sp A8 G8 ys x8 e8 ea8 al8 len8 => ?_)
    · show (_ : TE) _ G8 QV
      walk_at "go"
      exact k A8 G8 y (Ext.refl y8.ag) hy
    rw [List.map_id'] at al8
    have d12 := d11.ext x8
    clear e8
    walk_at "go"
    refine i_forR ?_
    walk_at "go"
    refine i_new (by show 4 ≤ 100000; omega) fun L4 nL4 => ?_
    have d13 := d12.skip (o := .lst [.int 1, .int 1, .int 2, .int 0]) nL4
    have eL4 : upd G8 L4 (.lst [.int 1, .int 1, .int 2, .int 0]) L4 = some (.lst [.int 1, .int 1, .int 2, .int 0]) := upd_same
    generalize upd G8 L4 (.lst [.int 1, .int 1, .int 2, .int 0]) = G9 at *
    obtain ⟨c, hc, hc2⟩ : ∃ c : Nat, c ≤ 2 ∧ ([.int 1, .int 1, .int 2, .int 0] : List V)[i]? = some (.int (c : Int)) := by
      match i, hi with
      | 0, _ => exact ⟨1, by decide, rfl⟩
      | 1, _ => exact ⟨1, by decide, rfl⟩
      | 2, _ => exact ⟨2, by decide, rfl⟩
      | 3, _ => exact ⟨0, by decide, rfl⟩
    walk_at "go"
    refine i_ix_lst (.inl (.inl eL4)) (atI_nat hc2) ?_
    walk_at "go"
    refine i_forR3 c (by omega) (fun j σ G => ∃ A r ys es v9, σ = [some (.ref a), some (.ref d.a), some (.int (m : Int)), some (.ref wl), some (.ref ll), some (.ref li), v6, some (.int (i : Int)), some (.ref r), v9, v10, none, none] ∧ Same A8 A ∧ D2 K d noF A G ∧ A r = some (.lst ys) ∧ AtAll A ys es ∧ es.length ≤ 12 + j ∧ ∀ e ∈ es, LnM (2 + j) e)
      ⟨A8, sp, ys, _, v9, rfl, Same.refl _, d13, ea8, al8, by omega, lnM⟩ ?_ ?_
    · rintro j σ G hj ⟨A9, r, ys9, es, v9', rfl, s9, d14, er, ar, lr, gr⟩
      walk_at "go"
      refine ⟨A9, d, noF, r, ys9, es, 2 + j, rfl, rfl, d14, er, ar, by omega, gr, by omega, by omega, fun A' H' r' ys' es' s' d' e' al' l' g' => ?_⟩
      walk_at "go"
      exact ⟨A', r', ys', es', _, rfl, s9.trans s', d', e', al', by omega, fun e he => (g' e he).up (by omega)⟩
    rintro σ G ⟨A9, r, ys9, es, v9', rfl, s9, d14, er, ar, lr, gr⟩
    clear d11 d12 d13 eL4
    have sr := ar.len
    obtain ⟨smS, rpS⟩ := ln_sm gr (by omega) (by omega)
    have gG : ∀ e ∈ es, LnG e := fun e he => (gr e he).g (by omega)
    have atR : At A9 (.ref r) (.list es) := At.mkLst er ar (by omega)
    have dpS : (PyData.list es).depth ≤ 60 := by have := smS.2.2; show PyData.depthAll es + 1 ≤ 60; omega
    walk_at "go"
    refine i_reprA (atR.same d14.1) rpS (by decide) smS.2.1 dpS ?_
    walk_at "go"
    refine i_tuple_lst (.inl (.inl (d14.old er))) fun tl ntl => ?_
    obtain ⟨A10, s10, e10, d15⟩ := d14.step (.tup ys9) ntl
    generalize upd G tl (.tup ys9) = G10 at *
    walk_at "go"
    refine i_new (by show 2 ≤ 100000; omega) fun L2 nL2 => ?_
    have a2 : AtAll A10 [.ref r, .ref tl] [.list es, .tuple es] := .cons (atR.same s10) (.one (At.mkTup e10 (ar.same s10) (by omega)))
    obtain ⟨A11, s11, e11, al11, d16⟩ := cutAt d15 a2 nL2
    generalize upd G10 L2 (.lst [.ref r, .ref tl]) = G11 at *
    clear d14 d15
    refine Fg.i_forL (xs := [.ref r, .ref tl]) (.inl (.inl (d16.old e11))) (fun j σ G => ∃ v6, σ = [some (.ref a), some (.ref d.a), some (.int (m : Int)), some (.ref wl), some (.ref ll), some (.ref li), v6, some (.int (i : Int)), some (.ref r), v9', some (.str (PyData.list es).shown), none, none] ∧ D2 K d noF A11 G)
      ⟨_, rfl, d16⟩ (fun j σ' G _ p => ?_) ?_ ?_
    · obtain ⟨v6, rfl, d17⟩ := p
      exact .inl (.inl (d17.old e11))
    · rintro j y σ G hy ⟨v6', rfl, d17⟩
      obtain ⟨D, hD, aD⟩ := al11.get hy
      have hD2 : resD D = resA es ∧ seqOf D = some es ∧ seqD D = some es := by
        have := List.mem_of_getElem? hD
        simp only [List.mem_cons, List.not_mem_nil, or_false] at this
        rcases this with rfl | rfl <;> exact ⟨rfl, rfl, rfl⟩
      obtain ⟨b, bs, rfl, bl, bal, hb⟩ := seq_at aD hD2.2.2
      walk_at "go"
      refine ⟨D, aD.same d17.1, fun ds' e => ?_, by rw [hD2.1]; exact res_sm gG (by omega), fun G17 s17 => ?_⟩
      · rw [hD2.2.1] at e
        cases e
        exact fun e he => (gG e he).short
      rw [hD2.1]
      have d18 := d17.same s17
      walk_at "go"
      refine ⟨b, bs, es, rfl, hb.imp (d18.1 _ _) (d18.1 _ _), bal.same d18.1, by omega, gG, fun G18 s18 => ?_⟩
      refine i_ne_same ?_
      walk_at "go"
      exact ⟨_, rfl, d18.same s18⟩
    rintro σ G ⟨v6', rfl, d17⟩
    walk_at "go"
    refine i_reprA (((atR.same s10).same s11).same d17.1) rpS (by decide) smS.2.1 dpS ?_
    walk_at "go"
    refine i_ne_same ?_
    walk_at "go"
    exact ⟨A11, _, _, _, _, _, rfl, ((((s7.trans x8.aa).trans s9).trans s10).trans s11), d17⟩
  rintro σ G ⟨A, v6', v7, v8, v9, v10, rfl, s7, d11⟩
  walk_at "go"
  refine ⟨A, d, noF, wl, xs, ds, rfl, rfl, d11, s7 _ _ ew6, aw6.same s7, dl12, hg, fun A' H' s' d' => ?_⟩
  have s8 := s7.trans s'
  walk_at "go"
  refine i_catD d' (s8 _ _ ew6) (s8 _ _ ei6) (aw6.same s8) (ai6.same s8) (by rw [xl, ai6.len, List.length_map]; omega) fun W A2 G2 s9 e9 al9 d12 => ?_
  have all9 : ∀ e ∈ ds ++ ds.map listD, isWay (deepD e) = true ∧ e.depth < 6 := fun e he => by
    rcases List.mem_append.mp he with he | he
    · obtain ⟨h1, _, h3, _, h5⟩ := (hg e he).deep
      rw [h1]; exact ⟨h5, by omega⟩
    · obtain ⟨x, hx, rfl⟩ := List.mem_map.mp he
      obtain ⟨_, h2, _, h4, h5⟩ := (hg x hx).deep
      rw [h2]; exact ⟨h5, by omega⟩
  refine Fg.i_forL (xs := xs ++ zs) (.inl (.inl (d12.old e9))) (fun j σ G => ∃ v11, σ = [some (.ref a), some (.ref d.a), some (.int (m : Int)), some (.ref wl), some (.ref ll), some (.ref li), v6', v7, v8, v9, v10, v11, none] ∧ D2 K d noF A2 G)
    ⟨none, rfl, d12⟩ (fun j σ' G _ p => ?_) ?_ ?_
  · obtain ⟨v11, rfl, d13⟩ := p
    exact .inl (.inl (d13.old e9))
  · rintro j y σ G hy ⟨v11, rfl, d13⟩
    obtain ⟨e, he, ae⟩ := al9.get hy
    obtain ⟨w9, dp9⟩ := all9 e (List.mem_of_getElem? he)
    walk_at "go"
    refine ⟨A2, e, d13.1, ae, dp9, fun G3 s3 => ?_⟩
    rw [w9]
    walk_at "go"
    refine ⟨true, true, rfl, rfl, ?_⟩
    refine ⟨_, rfl, ?_⟩
    rw [show (!decide (true = true)) = false from rfl]
    walk_at "go"
    exact ⟨_, rfl, d13.same s3⟩
  rintro σ G ⟨v11, rfl, d13⟩
  walk_at "go"
  refine i_new (by show 3 ≤ 100000; omega) fun L5 nL5 => ?_
  have d14 := d13.new (o := .lst [.int 4, .int 24, .int 9]) nL5
  have eL5 : (upd A2 L5 (.lst [.int 4, .int 24, .int 9])) L5 = some (.lst [.int 4, .int 24, .int 9]) := upd_same
  generalize upd A2 L5 (.lst [.int 4, .int 24, .int 9]) = A3 at *
  generalize upd G L5 (.lst [.int 4, .int 24, .int 9]) = G3 at *
  walk_at "go"
  refine pick2 d14 (by decide) fun jj G4 d15 bj => ?_
  obtain ⟨j, rfl, hj⟩ := btw_nat (k := 3) bj (by decide)
  obtain ⟨c, hc, hc2⟩ : ∃ c : Nat, (1 ≤ c ∧ c ≤ 24) ∧ ([.int 4, .int 24, .int 9] : List V)[j]? = some (.int (c : Int)) := by
    match j, hj with
    | 0, _ => exact ⟨4, by decide, rfl⟩
    | 1, _ => exact ⟨24, by decide, rfl⟩
    | 2, _ => exact ⟨9, by decide, rfl⟩
  refine i_ix_lst (.inl (.inl (d15.old eL5))) (atI_nat hc2) ?_
  walk_at "go"
  refine ⟨A3, d, (c : Int), rfl, rfl, d15.to0, by omega, by omega, fun l H' dr' hr h1 h2 => ?_⟩
  walk_at "go"
  refine ⟨l, rfl, ⟨h1, by omega, hr⟩, fun H'' _ => ?_⟩
  walk_at "go"
  exact q _
end
theorem all_mk {l : PySem.W.OpenLaw} {w : World} {K : PySem.W.Frag} {h : Heap} {mg : Str → Option Value} {fa C_GlimError C_BadRound C_BadText C_BadLine C_BadWay C_TooLong C_Lines C_NUMBERED f1 f2 f3 f4 f5 f6 f7 f8 f9 f10 f11 f12 f13 f14 f15 f16 f17 f18 f19 f20 f21 f22 f23 f24 f25 f26 f27 f28 f29 f30 f31 f32 f33 f34 f35 f36 f37 f38 f39 f40 f41 f42 f43 f44 f45 f46 f47 f48 f49 f50 f51 f52 f53 f54 f55 f56 f57 f58 f59 f60 f61 f62 f63 f64 f65 f66 f67 f68 f69 f70 : Addr} (X : K.In h) (G : h.Ns mainGlobals mg) (hfa : mg "law" = some (.ref fa))
    {od1 an1 od2 an2 od3 an3 od4 an4 od5 an5 od6 an6 od7 an7 od8 an8 od9 an9 od10 an10 od11 an11 od12 an12 od13 an13 od14 an14 od15 an15 od16 an16 od17 an17 od18 an18 od19 an19 od20 an20 od21 an21 od22 an22 od23 an23 od24 an24 od25 an25 od26 an26 od27 an27 od28 an28 od29 an29 od30 an30 od31 an31 od32 an32 od33 an33 od34 an34 od35 an35 od36 an36 od37 an37 od38 an38 od39 an39 od40 an40 od41 an41 od42 an42 od43 an43 od44 an44 od45 an45 od46 an46 od47 an47 od48 an48 od49 an49 od50 an50 od51 an51 od52 an52 od53 an53 od54 an54 od55 an55 od56 an56 od57 an57 od58 an58 od59 an59 od60 an60 od61 an61 od62 an62 od63 an63 od64 an64 od65 an65 od66 an66 od67 an67 od68 an68 od69 an69 od70 an70 : Option Addr} {sl1 sl2 sl3 sl4 sl5 sl6 sl7 sl8 sl9 sl10 sl11 sl12 sl13 sl14 sl15 sl16 sl17 sl18 sl19 sl20 sl21 sl22 sl23 sl24 sl25 sl26 sl27 sl28 sl29 sl30 sl31 sl32 sl33 sl34 sl35 sl36 sl37 sl38 sl39 sl40 sl41 sl42 sl43 sl44 sl45 sl46 sl47 sl48 sl49 sl50 sl51 sl52 sl53 sl54 sl55 sl56 sl57 sl58 sl59 sl60 sl61 sl62 sl63 sl64 sl65 sl66 sl67 sl68 sl69 sl70 : Array (Option Value)} {oc1 kV1 dc1 pm1 cd1 ct1 oc2 kV2 dc2 pm2 cd2 ct2 oc3 kV3 dc3 pm3 cd3 ct3 oc4 kV4 dc4 pm4 cd4 ct4 oc5 kV5 dc5 pm5 cd5 ct5 oc6 kV6 dc6 pm6 cd6 ct6 oc7 kV7 dc7 pm7 cd7 ct7 oc8 kV8 dc8 pm8 cd8 ct8 oc9 kV9 dc9 pm9 cd9 ct9 oc10 kV10 dc10 pm10 cd10 ct10 oc11 kV11 dc11 pm11 cd11 ct11 oc12 kV12 dc12 pm12 cd12 ct12 oc13 kV13 dc13 pm13 cd13 ct13 oc14 kV14 dc14 pm14 cd14 ct14 oc15 kV15 dc15 pm15 cd15 ct15 oc16 kV16 dc16 pm16 cd16 ct16 oc17 kV17 dc17 pm17 cd17 ct17 oc18 kV18 dc18 pm18 cd18 ct18 oc19 kV19 dc19 pm19 cd19 ct19 oc20 kV20 dc20 pm20 cd20 ct20 oc21 kV21 dc21 pm21 cd21 ct21 oc22 kV22 dc22 pm22 cd22 ct22 oc23 kV23 dc23 pm23 cd23 ct23 oc24 kV24 dc24 pm24 cd24 ct24 oc25 kV25 dc25 pm25 cd25 ct25 oc26 kV26 dc26 pm26 cd26 ct26 oc27 kV27 dc27 pm27 cd27 ct27 oc28 kV28 dc28 pm28 cd28 ct28 oc29 kV29 dc29 pm29 cd29 ct29 oc30 kV30 dc30 pm30 cd30 ct30 oc31 kV31 dc31 pm31 cd31 ct31 oc32 kV32 dc32 pm32 cd32 ct32 oc33 kV33 dc33 pm33 cd33 ct33 oc34 kV34 dc34 pm34 cd34 ct34 oc35 kV35 dc35 pm35 cd35 ct35 oc36 kV36 dc36 pm36 cd36 ct36 oc37 kV37 dc37 pm37 cd37 ct37 oc38 kV38 dc38 pm38 cd38 ct38 oc39 kV39 dc39 pm39 cd39 ct39 oc40 kV40 dc40 pm40 cd40 ct40 oc41 kV41 dc41 pm41 cd41 ct41 oc42 kV42 dc42 pm42 cd42 ct42 oc43 kV43 dc43 pm43 cd43 ct43 oc44 kV44 dc44 pm44 cd44 ct44 oc45 kV45 dc45 pm45 cd45 ct45 oc46 kV46 dc46 pm46 cd46 ct46 oc47 kV47 dc47 pm47 cd47 ct47 oc48 kV48 dc48 pm48 cd48 ct48 oc49 kV49 dc49 pm49 cd49 ct49 oc50 kV50 dc50 pm50 cd50 ct50 oc51 kV51 dc51 pm51 cd51 ct51 oc52 kV52 dc52 pm52 cd52 ct52 oc53 kV53 dc53 pm53 cd53 ct53 oc54 kV54 dc54 pm54 cd54 ct54 oc55 kV55 dc55 pm55 cd55 ct55 oc56 kV56 dc56 pm56 cd56 ct56 oc57 kV57 dc57 pm57 cd57 ct57 oc58 kV58 dc58 pm58 cd58 ct58 oc59 kV59 dc59 pm59 cd59 ct59 oc60 kV60 dc60 pm60 cd60 ct60 oc61 kV61 dc61 pm61 cd61 ct61 oc62 kV62 dc62 pm62 cd62 ct62 oc63 kV63 dc63 pm63 cd63 ct63 oc64 kV64 dc64 pm64 cd64 ct64 oc65 kV65 dc65 pm65 cd65 ct65 oc66 kV66 dc66 pm66 cd66 ct66 oc67 kV67 dc67 pm67 cd67 ct67 oc68 kV68 dc68 pm68 cd68 ct68 oc69 kV69 dc69 pm69 cd69 ct69 oc70 kV70 dc70 pm70 cd70 ct70 : Value}
    {nm_TooLong q_TooLong : Str} {N_TooLong : Addr} {bs_TooLong bm_TooLong : List Value} {sn_TooLong : List Str} {sub_TooLong : List Value} {ab_TooLong : Bool} {col_TooLong : Option Bool} {dd_TooLong : Option Addr} {m0_TooLong m1_TooLong m2_TooLong m3_TooLong m5_TooLong : Option Value}
    {nm_BadWay q_BadWay : Str} {N_BadWay : Addr} {bs_BadWay bm_BadWay : List Value} {sn_BadWay : List Str} {sub_BadWay : List Value} {ab_BadWay : Bool} {col_BadWay : Option Bool} {dd_BadWay : Option Addr} {m0_BadWay m1_BadWay m2_BadWay m3_BadWay m5_BadWay : Option Value}
    {nm_BadLine q_BadLine : Str} {N_BadLine : Addr} {bs_BadLine bm_BadLine : List Value} {sn_BadLine : List Str} {sub_BadLine : List Value} {ab_BadLine : Bool} {col_BadLine : Option Bool} {dd_BadLine : Option Addr} {m0_BadLine m1_BadLine m2_BadLine m3_BadLine m5_BadLine : Option Value}
    {nm_BadText q_BadText : Str} {N_BadText : Addr} {bs_BadText bm_BadText : List Value} {sn_BadText : List Str} {sub_BadText : List Value} {ab_BadText : Bool} {col_BadText : Option Bool} {dd_BadText : Option Addr} {m0_BadText m1_BadText m2_BadText m3_BadText m5_BadText : Option Value}
    {nm_BadRound q_BadRound : Str} {N_BadRound : Addr} {bs_BadRound bm_BadRound : List Value} {sn_BadRound : List Str} {sub_BadRound : List Value} {ab_BadRound : Bool} {col_BadRound : Option Bool} {dd_BadRound : Option Addr} {m0_BadRound m1_BadRound m2_BadRound m3_BadRound m5_BadRound : Option Value}
    {nd_NUMBERED : Nat} {v_NUMBERED_0 : Addr} {h_NUMBERED_0 : Int} {k_NUMBERED_0 : Tok} {dv_NUMBERED_0 : Option Addr} {nv_NUMBERED_0 : Nat} {sv_NUMBERED_0 : Array (Option Value)} {tv_NUMBERED_0_0 tv_NUMBERED_0_1 : Tok} {v_NUMBERED_1 : Addr} {h_NUMBERED_1 : Int} {k_NUMBERED_1 : Tok} {dv_NUMBERED_1 : Option Addr} {nv_NUMBERED_1 : Nat} {sv_NUMBERED_1 : Array (Option Value)} {tv_NUMBERED_1_0 tv_NUMBERED_1_1 : Tok} {v_NUMBERED_2 : Addr} {h_NUMBERED_2 : Int} {k_NUMBERED_2 : Tok} {dv_NUMBERED_2 : Option Addr} {nv_NUMBERED_2 : Nat} {sv_NUMBERED_2 : Array (Option Value)} {tv_NUMBERED_2_0 tv_NUMBERED_2_1 : Tok}
    {t_SIGNS t_MOST_LEVELS t_MOST_ROUND t_DIGITS_rhythmtext t_MOST_OPEN t_DIGITS_lines : Tok}
    {D27 : Addr} {oD27 : Value} {dD27 : Option Addr} {nD27 : Nat} {sD27 : Array (Option Value)} {td27_0 : Tok}
    {D2 : Addr} {oD2 : Value} {dD2 : Option Addr} {nD2 : Nat} {sD2 : Array (Option Value)} {td2_0 : Tok}
    (a1 : PySem.W.nsIn K mainGlobals "is_integer" = some (some (.ref f1)))
    (l1 : K.lookup f1 = some ⟨oc1, od1, .func (PySem.W.fnOf "is_integer" "is_integer" (defArgs s_is_integer) (defBody s_is_integer) (defScope s_is_integer) .none kV1 dc1 pm1 an1 cd1 ct1), sl1⟩)
    (c1 : PySem.W.codeIn K cd1 "is_integer" = true)
    (k1 : PySem.W.keepIn K (.ref f1) = true)
    (a2 : PySem.W.nsIn K mainGlobals "deep" = some (some (.ref f2)))
    (l2 : K.lookup f2 = some ⟨oc2, od2, .func (PySem.W.fnOf "deep" "deep" (defArgs s_deep) (defBody s_deep) (defScope s_deep) (.ref D2) kV2 dc2 pm2 an2 cd2 ct2), sl2⟩)
    (c2 : PySem.W.codeIn K cd2 "deep" = true)
    (k2 : PySem.W.keepIn K (.ref f2) = true)
    (e2 : K.lookup D2 = some ⟨oD2, dD2, .seq #[.int (0) td2_0] nD2, sD2⟩)
    (a3 : PySem.W.nsIn K mainGlobals "wrong_sign" = some (some (.ref f3)))
    (l3 : K.lookup f3 = some ⟨oc3, od3, .func (PySem.W.fnOf "wrong_sign" "wrong_sign" (defArgs s_wrong_sign) (defBody s_wrong_sign) (defScope s_wrong_sign) .none kV3 dc3 pm3 an3 cd3 ct3), sl3⟩)
    (c3 : PySem.W.codeIn K cd3 "wrong_sign" = true)
    (k3 : PySem.W.keepIn K (.ref f3) = true)
    (a4 : PySem.W.nsIn K mainGlobals "is_row" = some (some (.ref f4)))
    (l4 : K.lookup f4 = some ⟨oc4, od4, .func (PySem.W.fnOf "is_row" "is_row" (defArgs s_is_row) (defBody s_is_row) (defScope s_is_row) .none kV4 dc4 pm4 an4 cd4 ct4), sl4⟩)
    (c4 : PySem.W.codeIn K cd4 "is_row" = true)
    (k4 : PySem.W.keepIn K (.ref f4) = true)
    (a5 : PySem.W.nsIn K mainGlobals "is_round" = some (some (.ref f5)))
    (l5 : K.lookup f5 = some ⟨oc5, od5, .func (PySem.W.fnOf "is_round" "is_round" (defArgs s_is_round) (defBody s_is_round) (defScope s_is_round) .none kV5 dc5 pm5 an5 cd5 ct5), sl5⟩)
    (c5 : PySem.W.codeIn K cd5 "is_round" = true)
    (k5 : PySem.W.keepIn K (.ref f5) = true)
    (a6 : PySem.W.nsIn K mainGlobals "is_glass" = some (some (.ref f6)))
    (l6 : K.lookup f6 = some ⟨oc6, od6, .func (PySem.W.fnOf "is_glass" "is_glass" (defArgs s_is_glass) (defBody s_is_glass) (defScope s_is_glass) .none kV6 dc6 pm6 an6 cd6 ct6), sl6⟩)
    (c6 : PySem.W.codeIn K cd6 "is_glass" = true)
    (k6 : PySem.W.keepIn K (.ref f6) = true)
    (a7 : PySem.W.nsIn K mainGlobals "check_round" = some (some (.ref f7)))
    (l7 : K.lookup f7 = some ⟨oc7, od7, .func (PySem.W.fnOf "check_round" "check_round" (defArgs s_check_round) (defBody s_check_round) (defScope s_check_round) .none kV7 dc7 pm7 an7 cd7 ct7), sl7⟩)
    (c7 : PySem.W.codeIn K cd7 "check_round" = true)
    (k7 : PySem.W.keepIn K (.ref f7) = true)
    (a8 : PySem.W.nsIn K mainGlobals "shortlex" = some (some (.ref f8)))
    (l8 : K.lookup f8 = some ⟨oc8, od8, .func (PySem.W.fnOf "shortlex" "shortlex" (defArgs s_shortlex) (defBody s_shortlex) (defScope s_shortlex) .none kV8 dc8 pm8 an8 cd8 ct8), sl8⟩)
    (c8 : PySem.W.codeIn K cd8 "shortlex" = true)
    (k8 : PySem.W.keepIn K (.ref f8) = true)
    (a9 : PySem.W.nsIn K mainGlobals "least_text" = some (some (.ref f9)))
    (l9 : K.lookup f9 = some ⟨oc9, od9, .func (PySem.W.fnOf "least_text" "least_text" (defArgs s_least_text) (defBody s_least_text) (defScope s_least_text) .none kV9 dc9 pm9 an9 cd9 ct9), sl9⟩)
    (c9 : PySem.W.codeIn K cd9 "least_text" = true)
    (k9 : PySem.W.keepIn K (.ref f9) = true)
    (a10 : PySem.W.nsIn K mainGlobals "closed_text" = some (some (.ref f10)))
    (l10 : K.lookup f10 = some ⟨oc10, od10, .func (PySem.W.fnOf "closed_text" "closed_text" (defArgs s_closed_text) (defBody s_closed_text) (defScope s_closed_text) .none kV10 dc10 pm10 an10 cd10 ct10), sl10⟩)
    (c10 : PySem.W.codeIn K cd10 "closed_text" = true)
    (k10 : PySem.W.keepIn K (.ref f10) = true)
    (a11 : PySem.W.nsIn K mainGlobals "item_text" = some (some (.ref f11)))
    (l11 : K.lookup f11 = some ⟨oc11, od11, .func (PySem.W.fnOf "item_text" "item_text" (defArgs s_item_text) (defBody s_item_text) (defScope s_item_text) .none kV11 dc11 pm11 an11 cd11 ct11), sl11⟩)
    (c11 : PySem.W.codeIn K cd11 "item_text" = true)
    (k11 : PySem.W.keepIn K (.ref f11) = true)
    (a12 : PySem.W.nsIn K mainGlobals "items_text" = some (some (.ref f12)))
    (l12 : K.lookup f12 = some ⟨oc12, od12, .func (PySem.W.fnOf "items_text" "items_text" (defArgs s_items_text) (defBody s_items_text) (defScope s_items_text) .none kV12 dc12 pm12 an12 cd12 ct12), sl12⟩)
    (c12 : PySem.W.codeIn K cd12 "items_text" = true)
    (k12 : PySem.W.keepIn K (.ref f12) = true)
    (a13 : PySem.W.nsIn K mainGlobals "fold_round" = some (some (.ref f13)))
    (l13 : K.lookup f13 = some ⟨oc13, od13, .func (PySem.W.fnOf "fold_round" "fold_round" (defArgs s_fold_round) (defBody s_fold_round) (defScope s_fold_round) .none kV13 dc13 pm13 an13 cd13 ct13), sl13⟩)
    (c13 : PySem.W.codeIn K cd13 "fold_round" = true)
    (k13 : PySem.W.keepIn K (.ref f13) = true)
    (a14 : PySem.W.nsIn K mainGlobals "common_beats" = some (some (.ref f14)))
    (l14 : K.lookup f14 = some ⟨oc14, od14, .func (PySem.W.fnOf "common_beats" "common_beats" (defArgs s_common_beats) (defBody s_common_beats) (defScope s_common_beats) .none kV14 dc14 pm14 an14 cd14 ct14), sl14⟩)
    (c14 : PySem.W.codeIn K cd14 "common_beats" = true)
    (k14 : PySem.W.keepIn K (.ref f14) = true)
    (a15 : PySem.W.nsIn K mainGlobals "repeated" = some (some (.ref f15)))
    (l15 : K.lookup f15 = some ⟨oc15, od15, .func (PySem.W.fnOf "repeated" "repeated" (defArgs s_repeated) (defBody s_repeated) (defScope s_repeated) .none kV15 dc15 pm15 an15 cd15 ct15), sl15⟩)
    (c15 : PySem.W.codeIn K cd15 "repeated" = true)
    (k15 : PySem.W.keepIn K (.ref f15) = true)
    (a16 : PySem.W.nsIn K mainGlobals "put_behind" = some (some (.ref f16)))
    (l16 : K.lookup f16 = some ⟨oc16, od16, .func (PySem.W.fnOf "put_behind" "put_behind" (defArgs s_put_behind) (defBody s_put_behind) (defScope s_put_behind) .none kV16 dc16 pm16 an16 cd16 ct16), sl16⟩)
    (c16 : PySem.W.codeIn K cd16 "put_behind" = true)
    (k16 : PySem.W.keepIn K (.ref f16) = true)
    (a17 : PySem.W.nsIn K mainGlobals "first_lit" = some (some (.ref f17)))
    (l17 : K.lookup f17 = some ⟨oc17, od17, .func (PySem.W.fnOf "first_lit" "first_lit" (defArgs s_first_lit) (defBody s_first_lit) (defScope s_first_lit) .none kV17 dc17 pm17 an17 cd17 ct17), sl17⟩)
    (c17 : PySem.W.codeIn K cd17 "first_lit" = true)
    (k17 : PySem.W.keepIn K (.ref f17) = true)
    (a18 : PySem.W.nsIn K mainGlobals "shown_together" = some (some (.ref f18)))
    (l18 : K.lookup f18 = some ⟨oc18, od18, .func (PySem.W.fnOf "shown_together" "shown_together" (defArgs s_shown_together) (defBody s_shown_together) (defScope s_shown_together) .none kV18 dc18 pm18 an18 cd18 ct18), sl18⟩)
    (c18 : PySem.W.codeIn K cd18 "shown_together" = true)
    (k18 : PySem.W.keepIn K (.ref f18) = true)
    (a19 : PySem.W.nsIn K mainGlobals "behind_digits" = some (some (.ref f19)))
    (l19 : K.lookup f19 = some ⟨oc19, od19, .func (PySem.W.fnOf "behind_digits" "behind_digits" (defArgs s_behind_digits) (defBody s_behind_digits) (defScope s_behind_digits) .none kV19 dc19 pm19 an19 cd19 ct19), sl19⟩)
    (c19 : PySem.W.codeIn K cd19 "behind_digits" = true)
    (k19 : PySem.W.keepIn K (.ref f19) = true)
    (a20 : PySem.W.nsIn K mainGlobals "is_within" = some (some (.ref f20)))
    (l20 : K.lookup f20 = some ⟨oc20, od20, .func (PySem.W.fnOf "is_within" "is_within" (defArgs s_is_within) (defBody s_is_within) (defScope s_is_within) .none kV20 dc20 pm20 an20 cd20 ct20), sl20⟩)
    (c20 : PySem.W.codeIn K cd20 "is_within" = true)
    (k20 : PySem.W.keepIn K (.ref f20) = true)
    (a21 : PySem.W.nsIn K mainGlobals "read_item" = some (some (.ref f21)))
    (l21 : K.lookup f21 = some ⟨oc21, od21, .func (PySem.W.fnOf "read_item" "read_item" (defArgs s_read_item) (defBody s_read_item) (defScope s_read_item) .none kV21 dc21 pm21 an21 cd21 ct21), sl21⟩)
    (c21 : PySem.W.codeIn K cd21 "read_item" = true)
    (k21 : PySem.W.keepIn K (.ref f21) = true)
    (a22 : PySem.W.nsIn K mainGlobals "read_filled" = some (some (.ref f22)))
    (l22 : K.lookup f22 = some ⟨oc22, od22, .func (PySem.W.fnOf "read_filled" "read_filled" (defArgs s_read_filled) (defBody s_read_filled) (defScope s_read_filled) .none kV22 dc22 pm22 an22 cd22 ct22), sl22⟩)
    (c22 : PySem.W.codeIn K cd22 "read_filled" = true)
    (k22 : PySem.W.keepIn K (.ref f22) = true)
    (a23 : PySem.W.nsIn K mainGlobals "read_part" = some (some (.ref f23)))
    (l23 : K.lookup f23 = some ⟨oc23, od23, .func (PySem.W.fnOf "read_part" "read_part" (defArgs s_read_part) (defBody s_read_part) (defScope s_read_part) .none kV23 dc23 pm23 an23 cd23 ct23), sl23⟩)
    (c23 : PySem.W.codeIn K cd23 "read_part" = true)
    (k23 : PySem.W.keepIn K (.ref f23) = true)
    (a24 : PySem.W.nsIn K mainGlobals "read_parts" = some (some (.ref f24)))
    (l24 : K.lookup f24 = some ⟨oc24, od24, .func (PySem.W.fnOf "read_parts" "read_parts" (defArgs s_read_parts) (defBody s_read_parts) (defScope s_read_parts) .none kV24 dc24 pm24 an24 cd24 ct24), sl24⟩)
    (c24 : PySem.W.codeIn K cd24 "read_parts" = true)
    (k24 : PySem.W.keepIn K (.ref f24) = true)
    (a25 : PySem.W.nsIn K mainGlobals "read_round" = some (some (.ref f25)))
    (l25 : K.lookup f25 = some ⟨oc25, od25, .func (PySem.W.fnOf "read_round" "read_round" (defArgs s_read_round) (defBody s_read_round) (defScope s_read_round) .none kV25 dc25 pm25 an25 cd25 ct25), sl25⟩)
    (c25 : PySem.W.codeIn K cd25 "read_round" = true)
    (k25 : PySem.W.keepIn K (.ref f25) = true)
    (a26 : PySem.W.nsIn K mainGlobals "is_number" = some (some (.ref f26)))
    (l26 : K.lookup f26 = some ⟨oc26, od26, .func (PySem.W.fnOf "is_number" "is_number" (defArgs s_is_number) (defBody s_is_number) (defScope s_is_number) .none kV26 dc26 pm26 an26 cd26 ct26), sl26⟩)
    (c26 : PySem.W.codeIn K cd26 "is_number" = true)
    (k26 : PySem.W.keepIn K (.ref f26) = true)
    (a27 : PySem.W.findIn K (.ref C_Lines) "__init__" = some (some (.ref f27)))
    (i27 : PySem.W.isFn K (.ref f27) = true)
    (l27 : K.lookup f27 = some ⟨oc27, od27, .func (PySem.W.fnOf "__init__" "Lines.__init__" (defArgs s_Lines___init__) (defBody s_Lines___init__) (defScope s_Lines___init__) (.ref D27) kV27 dc27 pm27 an27 cd27 ct27), sl27⟩)
    (c27 : PySem.W.codeIn K cd27 "Lines.__init__" = true)
    (k27 : PySem.W.keepIn K (.ref f27) = true)
    (e27 : K.lookup D27 = some ⟨oD27, dD27, .seq #[.int (0) td27_0] nD27, sD27⟩)
    (a28 : PySem.W.findIn K (.ref C_Lines) "is_over" = some (some (.ref f28)))
    (i28 : PySem.W.isFn K (.ref f28) = true)
    (l28 : K.lookup f28 = some ⟨oc28, od28, .func (PySem.W.fnOf "is_over" "Lines.is_over" (defArgs s_Lines_is_over) (defBody s_Lines_is_over) (defScope s_Lines_is_over) .none kV28 dc28 pm28 an28 cd28 ct28), sl28⟩)
    (c28 : PySem.W.codeIn K cd28 "Lines.is_over" = true)
    (k28 : PySem.W.keepIn K (.ref f28) = true)
    (a29 : PySem.W.findIn K (.ref C_Lines) "words" = some (some (.ref f29)))
    (i29 : PySem.W.isFn K (.ref f29) = true)
    (l29 : K.lookup f29 = some ⟨oc29, od29, .func (PySem.W.fnOf "words" "Lines.words" (defArgs s_Lines_words) (defBody s_Lines_words) (defScope s_Lines_words) .none kV29 dc29 pm29 an29 cd29 ct29), sl29⟩)
    (c29 : PySem.W.codeIn K cd29 "Lines.words" = true)
    (k29 : PySem.W.keepIn K (.ref f29) = true)
    (a30 : PySem.W.findIn K (.ref C_Lines) "first_word" = some (some (.ref f30)))
    (i30 : PySem.W.isFn K (.ref f30) = true)
    (l30 : K.lookup f30 = some ⟨oc30, od30, .func (PySem.W.fnOf "first_word" "Lines.first_word" (defArgs s_Lines_first_word) (defBody s_Lines_first_word) (defScope s_Lines_first_word) .none kV30 dc30 pm30 an30 cd30 ct30), sl30⟩)
    (c30 : PySem.W.codeIn K cd30 "Lines.first_word" = true)
    (k30 : PySem.W.keepIn K (.ref f30) = true)
    (a31 : PySem.W.findIn K (.ref C_Lines) "fail_at" = some (some (.ref f31)))
    (i31 : PySem.W.isFn K (.ref f31) = true)
    (l31 : K.lookup f31 = some ⟨oc31, od31, .func (PySem.W.fnOf "fail_at" "Lines.fail_at" (defArgs s_Lines_fail_at) (defBody s_Lines_fail_at) (defScope s_Lines_fail_at) .none kV31 dc31 pm31 an31 cd31 ct31), sl31⟩)
    (c31 : PySem.W.codeIn K cd31 "Lines.fail_at" = true)
    (k31 : PySem.W.keepIn K (.ref f31) = true)
    (a32 : PySem.W.findIn K (.ref C_Lines) "word_at" = some (some (.ref f32)))
    (i32 : PySem.W.isFn K (.ref f32) = true)
    (l32 : K.lookup f32 = some ⟨oc32, od32, .func (PySem.W.fnOf "word_at" "Lines.word_at" (defArgs s_Lines_word_at) (defBody s_Lines_word_at) (defScope s_Lines_word_at) .none kV32 dc32 pm32 an32 cd32 ct32), sl32⟩)
    (c32 : PySem.W.codeIn K cd32 "Lines.word_at" = true)
    (k32 : PySem.W.keepIn K (.ref f32) = true)
    (a33 : PySem.W.findIn K (.ref C_Lines) "number_at" = some (some (.ref f33)))
    (i33 : PySem.W.isFn K (.ref f33) = true)
    (l33 : K.lookup f33 = some ⟨oc33, od33, .func (PySem.W.fnOf "number_at" "Lines.number_at" (defArgs s_Lines_number_at) (defBody s_Lines_number_at) (defScope s_Lines_number_at) .none kV33 dc33 pm33 an33 cd33 ct33), sl33⟩)
    (c33 : PySem.W.codeIn K cd33 "Lines.number_at" = true)
    (k33 : PySem.W.keepIn K (.ref f33) = true)
    (a34 : PySem.W.findIn K (.ref C_Lines) "glass_at" = some (some (.ref f34)))
    (i34 : PySem.W.isFn K (.ref f34) = true)
    (l34 : K.lookup f34 = some ⟨oc34, od34, .func (PySem.W.fnOf "glass_at" "Lines.glass_at" (defArgs s_Lines_glass_at) (defBody s_Lines_glass_at) (defScope s_Lines_glass_at) .none kV34 dc34 pm34 an34 cd34 ct34), sl34⟩)
    (c34 : PySem.W.codeIn K cd34 "Lines.glass_at" = true)
    (k34 : PySem.W.keepIn K (.ref f34) = true)
    (a35 : PySem.W.findIn K (.ref C_Lines) "round_at" = some (some (.ref f35)))
    (i35 : PySem.W.isFn K (.ref f35) = true)
    (l35 : K.lookup f35 = some ⟨oc35, od35, .func (PySem.W.fnOf "round_at" "Lines.round_at" (defArgs s_Lines_round_at) (defBody s_Lines_round_at) (defScope s_Lines_round_at) .none kV35 dc35 pm35 an35 cd35 ct35), sl35⟩)
    (c35 : PySem.W.codeIn K cd35 "Lines.round_at" = true)
    (k35 : PySem.W.keepIn K (.ref f35) = true)
    (a36 : PySem.W.findIn K (.ref C_Lines) "close_at" = some (some (.ref f36)))
    (i36 : PySem.W.isFn K (.ref f36) = true)
    (l36 : K.lookup f36 = some ⟨oc36, od36, .func (PySem.W.fnOf "close_at" "Lines.close_at" (defArgs s_Lines_close_at) (defBody s_Lines_close_at) (defScope s_Lines_close_at) .none kV36 dc36 pm36 an36 cd36 ct36), sl36⟩)
    (c36 : PySem.W.codeIn K cd36 "Lines.close_at" = true)
    (k36 : PySem.W.keepIn K (.ref f36) = true)
    (a37 : PySem.W.nsIn K mainGlobals "has_way_form" = some (some (.ref f37)))
    (l37 : K.lookup f37 = some ⟨oc37, od37, .func (PySem.W.fnOf "has_way_form" "has_way_form" (defArgs s_has_way_form) (defBody s_has_way_form) (defScope s_has_way_form) .none kV37 dc37 pm37 an37 cd37 ct37), sl37⟩)
    (c37 : PySem.W.codeIn K cd37 "has_way_form" = true)
    (k37 : PySem.W.keepIn K (.ref f37) = true)
    (a38 : PySem.W.nsIn K mainGlobals "is_way" = some (some (.ref f38)))
    (l38 : K.lookup f38 = some ⟨oc38, od38, .func (PySem.W.fnOf "is_way" "is_way" (defArgs s_is_way) (defBody s_is_way) (defScope s_is_way) .none kV38 dc38 pm38 an38 cd38 ct38), sl38⟩)
    (c38 : PySem.W.codeIn K cd38 "is_way" = true)
    (k38 : PySem.W.keepIn K (.ref f38) = true)
    (a39 : PySem.W.nsIn K mainGlobals "check_ways" = some (some (.ref f39)))
    (l39 : K.lookup f39 = some ⟨oc39, od39, .func (PySem.W.fnOf "check_ways" "check_ways" (defArgs s_check_ways) (defBody s_check_ways) (defScope s_check_ways) .none kV39 dc39 pm39 an39 cd39 ct39), sl39⟩)
    (c39 : PySem.W.codeIn K cd39 "check_ways" = true)
    (k39 : PySem.W.keepIn K (.ref f39) = true)
    (a40 : PySem.W.nsIn K mainGlobals "way_line" = some (some (.ref f40)))
    (l40 : K.lookup f40 = some ⟨oc40, od40, .func (PySem.W.fnOf "way_line" "way_line" (defArgs s_way_line) (defBody s_way_line) (defScope s_way_line) .none kV40 dc40 pm40 an40 cd40 ct40), sl40⟩)
    (c40 : PySem.W.codeIn K cd40 "way_line" = true)
    (k40 : PySem.W.keepIn K (.ref f40) = true)
    (a41 : PySem.W.nsIn K mainGlobals "write_ways" = some (some (.ref f41)))
    (l41 : K.lookup f41 = some ⟨oc41, od41, .func (PySem.W.fnOf "write_ways" "write_ways" (defArgs s_write_ways) (defBody s_write_ways) (defScope s_write_ways) .none kV41 dc41 pm41 an41 cd41 ct41), sl41⟩)
    (c41 : PySem.W.codeIn K cd41 "write_ways" = true)
    (k41 : PySem.W.keepIn K (.ref f41) = true)
    (a42 : PySem.W.nsIn K mainGlobals "way_at" = some (some (.ref f42)))
    (l42 : K.lookup f42 = some ⟨oc42, od42, .func (PySem.W.fnOf "way_at" "way_at" (defArgs s_way_at) (defBody s_way_at) (defScope s_way_at) .none kV42 dc42 pm42 an42 cd42 ct42), sl42⟩)
    (c42 : PySem.W.codeIn K cd42 "way_at" = true)
    (k42 : PySem.W.keepIn K (.ref f42) = true)
    (a43 : PySem.W.nsIn K mainGlobals "read_ways" = some (some (.ref f43)))
    (l43 : K.lookup f43 = some ⟨oc43, od43, .func (PySem.W.fnOf "read_ways" "read_ways" (defArgs s_read_ways) (defBody s_read_ways) (defScope s_read_ways) .none kV43 dc43 pm43 an43 cd43 ct43), sl43⟩)
    (c43 : PySem.W.codeIn K cd43 "read_ways" = true)
    (k43 : PySem.W.keepIn K (.ref f43) = true)
    (a44 : PySem.W.nsIn K mainGlobals "_law_draw" = some (some (.ref f44)))
    (l44 : K.lookup f44 = some ⟨oc44, od44, .func (PySem.W.fnOf "_law_draw" "_law_draw" (defArgs s_L_draw) (defBody s_L_draw) (defScope s_L_draw) .none kV44 dc44 pm44 an44 cd44 ct44), sl44⟩)
    (c44 : PySem.W.codeIn K cd44 "_law_draw" = true)
    (k44 : PySem.W.keepIn K (.ref f44) = true)
    (a45 : PySem.W.nsIn K mainGlobals "_law_mix" = some (some (.ref f45)))
    (l45 : K.lookup f45 = some ⟨oc45, od45, .func (PySem.W.fnOf "_law_mix" "_law_mix" (defArgs s_L_mix) (defBody s_L_mix) (defScope s_L_mix) .none kV45 dc45 pm45 an45 cd45 ct45), sl45⟩)
    (c45 : PySem.W.codeIn K cd45 "_law_mix" = true)
    (k45 : PySem.W.keepIn K (.ref f45) = true)
    (a46 : PySem.W.nsIn K mainGlobals "_law_pick" = some (some (.ref f46)))
    (l46 : K.lookup f46 = some ⟨oc46, od46, .func (PySem.W.fnOf "_law_pick" "_law_pick" (defArgs s_L_pick) (defBody s_L_pick) (defScope s_L_pick) .none kV46 dc46 pm46 an46 cd46 ct46), sl46⟩)
    (c46 : PySem.W.codeIn K cd46 "_law_pick" = true)
    (k46 : PySem.W.keepIn K (.ref f46) = true)
    (a47 : PySem.W.nsIn K mainGlobals "_law_listed" = some (some (.ref f47)))
    (l47 : K.lookup f47 = some ⟨oc47, od47, .func (PySem.W.fnOf "_law_listed" "_law_listed" (defArgs s_L_listed) (defBody s_L_listed) (defScope s_L_listed) .none kV47 dc47 pm47 an47 cd47 ct47), sl47⟩)
    (c47 : PySem.W.codeIn K cd47 "_law_listed" = true)
    (k47 : PySem.W.keepIn K (.ref f47) = true)
    (a48 : PySem.W.nsIn K mainGlobals "_law_sign" = some (some (.ref f48)))
    (l48 : K.lookup f48 = some ⟨oc48, od48, .func (PySem.W.fnOf "_law_sign" "_law_sign" (defArgs s_L_sign) (defBody s_L_sign) (defScope s_L_sign) .none kV48 dc48 pm48 an48 cd48 ct48), sl48⟩)
    (c48 : PySem.W.codeIn K cd48 "_law_sign" = true)
    (k48 : PySem.W.keepIn K (.ref f48) = true)
    (a49 : PySem.W.nsIn K mainGlobals "_law_round" = some (some (.ref f49)))
    (l49 : K.lookup f49 = some ⟨oc49, od49, .func (PySem.W.fnOf "_law_round" "_law_round" (defArgs s_L_round) (defBody s_L_round) (defScope s_L_round) .none kV49 dc49 pm49 an49 cd49 ct49), sl49⟩)
    (c49 : PySem.W.codeIn K cd49 "_law_round" = true)
    (k49 : PySem.W.keepIn K (.ref f49) = true)
    (a50 : PySem.W.nsIn K mainGlobals "_law_glass" = some (some (.ref f50)))
    (l50 : K.lookup f50 = some ⟨oc50, od50, .func (PySem.W.fnOf "_law_glass" "_law_glass" (defArgs s_L_glass) (defBody s_L_glass) (defScope s_L_glass) .none kV50 dc50 pm50 an50 cd50 ct50), sl50⟩)
    (c50 : PySem.W.codeIn K cd50 "_law_glass" = true)
    (k50 : PySem.W.keepIn K (.ref f50) = true)
    (a51 : PySem.W.nsIn K mainGlobals "_law_folds" = some (some (.ref f51)))
    (l51 : K.lookup f51 = some ⟨oc51, od51, .func (PySem.W.fnOf "_law_folds" "_law_folds" (defArgs s_L_folds) (defBody s_L_folds) (defScope s_L_folds) .none kV51 dc51 pm51 an51 cd51 ct51), sl51⟩)
    (c51 : PySem.W.codeIn K cd51 "_law_folds" = true)
    (k51 : PySem.W.keepIn K (.ref f51) = true)
    (a52 : PySem.W.nsIn K mainGlobals "_law_pool" = some (some (.ref f52)))
    (l52 : K.lookup f52 = some ⟨oc52, od52, .func (PySem.W.fnOf "_law_pool" "_law_pool" (defArgs s_L_pool) (defBody s_L_pool) (defScope s_L_pool) .none kV52 dc52 pm52 an52 cd52 ct52), sl52⟩)
    (c52 : PySem.W.codeIn K cd52 "_law_pool" = true)
    (k52 : PySem.W.keepIn K (.ref f52) = true)
    (a53 : PySem.W.nsIn K mainGlobals "_law_drawn_way" = some (some (.ref f53)))
    (l53 : K.lookup f53 = some ⟨oc53, od53, .func (PySem.W.fnOf "_law_drawn_way" "_law_drawn_way" (defArgs s_L_drawn_way) (defBody s_L_drawn_way) (defScope s_L_drawn_way) .none kV53 dc53 pm53 an53 cd53 ct53), sl53⟩)
    (c53 : PySem.W.codeIn K cd53 "_law_drawn_way" = true)
    (k53 : PySem.W.keepIn K (.ref f53) = true)
    (a54 : PySem.W.nsIn K mainGlobals "_law_written" = some (some (.ref f54)))
    (l54 : K.lookup f54 = some ⟨oc54, od54, .func (PySem.W.fnOf "_law_written" "_law_written" (defArgs s_L_written) (defBody s_L_written) (defScope s_L_written) .none kV54 dc54 pm54 an54 cd54 ct54), sl54⟩)
    (c54 : PySem.W.codeIn K cd54 "_law_written" = true)
    (k54 : PySem.W.keepIn K (.ref f54) = true)
    (a55 : PySem.W.nsIn K mainGlobals "_law_odd_way" = some (some (.ref f55)))
    (l55 : K.lookup f55 = some ⟨oc55, od55, .func (PySem.W.fnOf "_law_odd_way" "_law_odd_way" (defArgs s_L_odd_way) (defBody s_L_odd_way) (defScope s_L_odd_way) .none kV55 dc55 pm55 an55 cd55 ct55), sl55⟩)
    (c55 : PySem.W.codeIn K cd55 "_law_odd_way" = true)
    (k55 : PySem.W.keepIn K (.ref f55) = true)
    (a56 : PySem.W.nsIn K mainGlobals "_law_spoilt" = some (some (.ref f56)))
    (l56 : K.lookup f56 = some ⟨oc56, od56, .func (PySem.W.fnOf "_law_spoilt" "_law_spoilt" (defArgs s_L_spoilt) (defBody s_L_spoilt) (defScope s_L_spoilt) .none kV56 dc56 pm56 an56 cd56 ct56), sl56⟩)
    (c56 : PySem.W.codeIn K cd56 "_law_spoilt" = true)
    (k56 : PySem.W.keepIn K (.ref f56) = true)
    (a57 : PySem.W.nsIn K mainGlobals "_law_line_way" = some (some (.ref f57)))
    (l57 : K.lookup f57 = some ⟨oc57, od57, .func (PySem.W.fnOf "_law_line_way" "_law_line_way" (defArgs s_L_line_way) (defBody s_L_line_way) (defScope s_L_line_way) .none kV57 dc57 pm57 an57 cd57 ct57), sl57⟩)
    (c57 : PySem.W.codeIn K cd57 "_law_line_way" = true)
    (k57 : PySem.W.keepIn K (.ref f57) = true)
    (a58 : PySem.W.nsIn K mainGlobals "_law_is_good" = some (some (.ref f58)))
    (l58 : K.lookup f58 = some ⟨oc58, od58, .func (PySem.W.fnOf "_law_is_good" "_law_is_good" (defArgs s_L_is_good) (defBody s_L_is_good) (defScope s_L_is_good) .none kV58 dc58 pm58 an58 cd58 ct58), sl58⟩)
    (c58 : PySem.W.codeIn K cd58 "_law_is_good" = true)
    (k58 : PySem.W.keepIn K (.ref f58) = true)
    (a59 : PySem.W.nsIn K mainGlobals "_law_due" = some (some (.ref f59)))
    (l59 : K.lookup f59 = some ⟨oc59, od59, .func (PySem.W.fnOf "_law_due" "_law_due" (defArgs s_L_due) (defBody s_L_due) (defScope s_L_due) .none kV59 dc59 pm59 an59 cd59 ct59), sl59⟩)
    (c59 : PySem.W.codeIn K cd59 "_law_due" = true)
    (k59 : PySem.W.keepIn K (.ref f59) = true)
    (a60 : PySem.W.nsIn K mainGlobals "_law_error" = some (some (.ref f60)))
    (l60 : K.lookup f60 = some ⟨oc60, od60, .func (PySem.W.fnOf "_law_error" "_law_error" (defArgs s_L_error) (defBody s_L_error) (defScope s_L_error) .none kV60 dc60 pm60 an60 cd60 ct60), sl60⟩)
    (c60 : PySem.W.codeIn K cd60 "_law_error" = true)
    (k60 : PySem.W.keepIn K (.ref f60) = true)
    (a61 : PySem.W.nsIn K mainGlobals "_law_read" = some (some (.ref f61)))
    (l61 : K.lookup f61 = some ⟨oc61, od61, .func (PySem.W.fnOf "_law_read" "_law_read" (defArgs s_L_read) (defBody s_L_read) (defScope s_L_read) .none kV61 dc61 pm61 an61 cd61 ct61), sl61⟩)
    (c61 : PySem.W.codeIn K cd61 "_law_read" = true)
    (k61 : PySem.W.keepIn K (.ref f61) = true)
    (a62 : PySem.W.nsIn K mainGlobals "_law_lines" = some (some (.ref f62)))
    (l62 : K.lookup f62 = some ⟨oc62, od62, .func (PySem.W.fnOf "_law_lines" "_law_lines" (defArgs s_L_lines) (defBody s_L_lines) (defScope s_L_lines) .none kV62 dc62 pm62 an62 cd62 ct62), sl62⟩)
    (c62 : PySem.W.codeIn K cd62 "_law_lines" = true)
    (k62 : PySem.W.keepIn K (.ref f62) = true)
    (a63 : PySem.W.nsIn K mainGlobals "_law_refused" = some (some (.ref f63)))
    (l63 : K.lookup f63 = some ⟨oc63, od63, .func (PySem.W.fnOf "_law_refused" "_law_refused" (defArgs s_L_refused) (defBody s_L_refused) (defScope s_L_refused) .none kV63 dc63 pm63 an63 cd63 ct63), sl63⟩)
    (c63 : PySem.W.codeIn K cd63 "_law_refused" = true)
    (k63 : PySem.W.keepIn K (.ref f63) = true)
    (a64 : PySem.W.nsIn K mainGlobals "_law_any_standin" = some (some (.ref f64)))
    (l64 : K.lookup f64 = some ⟨oc64, od64, .func (PySem.W.fnOf "_law_any_standin" "_law_any_standin" (defArgs s_L_any_standin) (defBody s_L_any_standin) (defScope s_L_any_standin) .none kV64 dc64 pm64 an64 cd64 ct64), sl64⟩)
    (c64 : PySem.W.codeIn K cd64 "_law_any_standin" = true)
    (k64 : PySem.W.keepIn K (.ref f64) = true)
    (a65 : PySem.W.nsIn K mainGlobals "law" = some (some (.ref f65)))
    (l65 : K.lookup f65 = some ⟨oc65, od65, .func (PySem.W.fnOf "law" "law" (defArgs s_law) (defBody s_law) (defScope s_law) .none kV65 dc65 pm65 an65 cd65 ct65), sl65⟩)
    (c65 : PySem.W.codeIn K cd65 "law" = true)
    (k65 : PySem.W.keepIn K (.ref f65) = true)
    (wpg_Lines : PySem.W.plainGet K C_Lines Str.empty = true)
    (whd_Lines : PySem.W.hasDictIn K C_Lines = true)
    (wpo_Lines : PySem.W.plainOver K C_Lines = true)
    (wsa_Lines : PySem.W.findIn K (.ref C_Lines) "__setattr__" = some (some (.builtin "object.__setattr__")))
    (wmk_Lines : PySem.W.makesIn K C_Lines = true)
    (wkc_Lines : PySem.W.keepIn K (.ref C_Lines) = true)
    (wna_Lines_texts : PySem.W.findIn K (.ref C_Lines) "texts" = some none)
    (wna_Lines_now : PySem.W.findIn K (.ref C_Lines) "now" = some none)
    (z_ValueError : PySem.W.nsIn K mainGlobals "ValueError" = some none)
    (z_abs : PySem.W.nsIn K mainGlobals "abs" = some none)
    (z_bool : PySem.W.nsIn K mainGlobals "bool" = some none)
    (z_enumerate : PySem.W.nsIn K mainGlobals "enumerate" = some none)
    (z_int : PySem.W.nsIn K mainGlobals "int" = some none)
    (z_isinstance : PySem.W.nsIn K mainGlobals "isinstance" = some none)
    (z_len : PySem.W.nsIn K mainGlobals "len" = some none)
    (z_list : PySem.W.nsIn K mainGlobals "list" = some none)
    (z_max : PySem.W.nsIn K mainGlobals "max" = some none)
    (z_min : PySem.W.nsIn K mainGlobals "min" = some none)
    (z_range : PySem.W.nsIn K mainGlobals "range" = some none)
    (z_repr : PySem.W.nsIn K mainGlobals "repr" = some none)
    (z_str : PySem.W.nsIn K mainGlobals "str" = some none)
    (z_sum : PySem.W.nsIn K mainGlobals "sum" = some none)
    (z_tuple : PySem.W.nsIn K mainGlobals "tuple" = some none)
    (v_SIGNS : PySem.W.nsIn K mainGlobals "SIGNS" = some (some (.str ".grw" t_SIGNS)))
    (v_MOST_LEVELS : PySem.W.nsIn K mainGlobals "MOST_LEVELS" = some (some (.int (70) t_MOST_LEVELS)))
    (v_MOST_ROUND : PySem.W.nsIn K mainGlobals "MOST_ROUND" = some (some (.int (24) t_MOST_ROUND)))
    (v_DIGITS_rhythmtext : PySem.W.nsIn K mainGlobals "DIGITS_rhythmtext" = some (some (.str "0123456789" t_DIGITS_rhythmtext)))
    (v_MOST_OPEN : PySem.W.nsIn K mainGlobals "MOST_OPEN" = some (some (.int (6) t_MOST_OPEN)))
    (v_DIGITS_lines : PySem.W.nsIn K mainGlobals "DIGITS_lines" = some (some (.str "0123456789" t_DIGITS_lines)))
    (g_GlimError : PySem.W.nsIn K mainGlobals "GlimError" = some (some (.ref C_GlimError)))
    (g_BadRound : PySem.W.nsIn K mainGlobals "BadRound" = some (some (.ref C_BadRound)))
    (g_BadText : PySem.W.nsIn K mainGlobals "BadText" = some (some (.ref C_BadText)))
    (g_BadLine : PySem.W.nsIn K mainGlobals "BadLine" = some (some (.ref C_BadLine)))
    (g_BadWay : PySem.W.nsIn K mainGlobals "BadWay" = some (some (.ref C_BadWay)))
    (g_TooLong : PySem.W.nsIn K mainGlobals "TooLong" = some (some (.ref C_TooLong)))
    (g_Lines : PySem.W.nsIn K mainGlobals "Lines" = some (some (.ref C_Lines)))
    (g_NUMBERED : PySem.W.nsIn K mainGlobals "NUMBERED" = some (some (.ref C_NUMBERED)))
    (l_NUMBERED : K.lookup C_NUMBERED = some ⟨.type "dict", none, .dict #[⟨h_NUMBERED_0, .str "lame" k_NUMBERED_0, .ref v_NUMBERED_0⟩, ⟨h_NUMBERED_1, .str "restart" k_NUMBERED_1, .ref v_NUMBERED_1⟩, ⟨h_NUMBERED_2, .str "slip" k_NUMBERED_2, .ref v_NUMBERED_2⟩] nd_NUMBERED, #[]⟩)
    (lo_NUMBERED : (C_NUMBERED == sysModules) = false)
    (xr_NUMBERED_0 : h_NUMBERED_0 = PyData.keyHash w.params "lame")
    (lv_NUMBERED_0 : K.lookup v_NUMBERED_0 = some ⟨.type "tuple", dv_NUMBERED_0, .seq #[.int (2) tv_NUMBERED_0_0, .int (4) tv_NUMBERED_0_1] nv_NUMBERED_0, sv_NUMBERED_0⟩)
    (xr_NUMBERED_1 : h_NUMBERED_1 = PyData.keyHash w.params "restart")
    (lv_NUMBERED_1 : K.lookup v_NUMBERED_1 = some ⟨.type "tuple", dv_NUMBERED_1, .seq #[.int (1) tv_NUMBERED_1_0, .int (3) tv_NUMBERED_1_1] nv_NUMBERED_1, sv_NUMBERED_1⟩)
    (xr_NUMBERED_2 : h_NUMBERED_2 = PyData.keyHash w.params "slip")
    (lv_NUMBERED_2 : K.lookup v_NUMBERED_2 = some ⟨.type "tuple", dv_NUMBERED_2, .seq #[.int (2) tv_NUMBERED_2_0, .int (9) tv_NUMBERED_2_1] nv_NUMBERED_2, sv_NUMBERED_2⟩)
    (xl_BadRound : K.lookup C_BadRound = some (excClassObj nm_BadRound q_BadRound C_BadRound N_BadRound bs_BadRound bm_BadRound true sn_BadRound sub_BadRound ab_BadRound col_BadRound dd_BadRound m0_BadRound m1_BadRound m2_BadRound m3_BadRound m5_BadRound "ValueError.__new__"))
    (xr_BadRound : PySem.HandSPX.refsVE bm_BadRound = true)
    (xsa_BadRound : PySem.W.findIn K (.ref C_BadRound) "__setattr__" = some (some (.builtin "object.__setattr__")))
    (xga_BadRound : PySem.W.findIn K (.ref C_BadRound) "__getattribute__" = some (some (.builtin "BaseException.__getattribute__")))
    (xgg_BadRound : PySem.W.findIn K (.ref C_BadRound) "__getattr__" = some none)
    (xnf_BadRound_number : PySem.W.findIn K (.ref C_BadRound) "number" = some none)
    (xi_BadRound : PySem.W.findIn K (.ref C_BadRound) "__init__" = some (some (.ref f66)))
    (xt_BadRound : PySem.W.typeIn K (.ref f66) = some (.type "function"))
    (xf_BadRound : K.lookup f66 = some ⟨oc66, od66, .func (PySem.W.fnOf "__init__" "BadRound.__init__" (defArgs s_BadRound) (defBody s_BadRound) (defScope s_BadRound) .none kV66 dc66 pm66 an66 cd66 ct66), sl66⟩)
    (xc_BadRound : PySem.W.codeIn K cd66 "BadRound.__init__" = true)
    (xkf_BadRound : PySem.W.keepIn K (.ref f66) = true)
    (xk_BadRound : PySem.W.keepIn K (.ref C_BadRound) = true)
    (xe_BadRound : PySem.W.subIn K (.ref C_BadRound) (.type "BaseException") = some true)
    (xty_BadRound : PySem.W.typeIn K (.ref C_BadRound) = some (.type "type"))
    (xhd_BadRound : PySem.W.hasDictIn K C_BadRound = true)
    (xis_BadRound : PySem.W.isClsIn K C_BadRound = true)
    (xca_BadRound : PySem.W.findIn K (.ref C_BadRound) "__class__" = some (some (.builtin "object.__class__")))
    (xm_BadRound : PySem.W.mroIn K C_BadRound (.type "object") = some true)
    (xl_BadText : K.lookup C_BadText = some (excClassObj nm_BadText q_BadText C_BadText N_BadText bs_BadText bm_BadText true sn_BadText sub_BadText ab_BadText col_BadText dd_BadText m0_BadText m1_BadText m2_BadText m3_BadText m5_BadText "ValueError.__new__"))
    (xr_BadText : PySem.HandSPX.refsVE bm_BadText = true)
    (xsa_BadText : PySem.W.findIn K (.ref C_BadText) "__setattr__" = some (some (.builtin "object.__setattr__")))
    (xga_BadText : PySem.W.findIn K (.ref C_BadText) "__getattribute__" = some (some (.builtin "BaseException.__getattribute__")))
    (xgg_BadText : PySem.W.findIn K (.ref C_BadText) "__getattr__" = some none)
    (xnf_BadText_at : PySem.W.findIn K (.ref C_BadText) "at" = some none)
    (xi_BadText : PySem.W.findIn K (.ref C_BadText) "__init__" = some (some (.ref f67)))
    (xt_BadText : PySem.W.typeIn K (.ref f67) = some (.type "function"))
    (xf_BadText : K.lookup f67 = some ⟨oc67, od67, .func (PySem.W.fnOf "__init__" "BadText.__init__" (defArgs s_BadText) (defBody s_BadText) (defScope s_BadText) .none kV67 dc67 pm67 an67 cd67 ct67), sl67⟩)
    (xc_BadText : PySem.W.codeIn K cd67 "BadText.__init__" = true)
    (xkf_BadText : PySem.W.keepIn K (.ref f67) = true)
    (xk_BadText : PySem.W.keepIn K (.ref C_BadText) = true)
    (xe_BadText : PySem.W.subIn K (.ref C_BadText) (.type "BaseException") = some true)
    (xty_BadText : PySem.W.typeIn K (.ref C_BadText) = some (.type "type"))
    (xhd_BadText : PySem.W.hasDictIn K C_BadText = true)
    (xis_BadText : PySem.W.isClsIn K C_BadText = true)
    (xca_BadText : PySem.W.findIn K (.ref C_BadText) "__class__" = some (some (.builtin "object.__class__")))
    (xm_BadText : PySem.W.mroIn K C_BadText (.type "object") = some true)
    (xl_BadLine : K.lookup C_BadLine = some (excClassObj nm_BadLine q_BadLine C_BadLine N_BadLine bs_BadLine bm_BadLine true sn_BadLine sub_BadLine ab_BadLine col_BadLine dd_BadLine m0_BadLine m1_BadLine m2_BadLine m3_BadLine m5_BadLine "ValueError.__new__"))
    (xr_BadLine : PySem.HandSPX.refsVE bm_BadLine = true)
    (xsa_BadLine : PySem.W.findIn K (.ref C_BadLine) "__setattr__" = some (some (.builtin "object.__setattr__")))
    (xga_BadLine : PySem.W.findIn K (.ref C_BadLine) "__getattribute__" = some (some (.builtin "BaseException.__getattribute__")))
    (xgg_BadLine : PySem.W.findIn K (.ref C_BadLine) "__getattr__" = some none)
    (xnf_BadLine_line : PySem.W.findIn K (.ref C_BadLine) "line" = some none)
    (xnf_BadLine_word : PySem.W.findIn K (.ref C_BadLine) "word" = some none)
    (xi_BadLine : PySem.W.findIn K (.ref C_BadLine) "__init__" = some (some (.ref f68)))
    (xt_BadLine : PySem.W.typeIn K (.ref f68) = some (.type "function"))
    (xf_BadLine : K.lookup f68 = some ⟨oc68, od68, .func (PySem.W.fnOf "__init__" "BadLine.__init__" (defArgs s_BadLine) (defBody s_BadLine) (defScope s_BadLine) .none kV68 dc68 pm68 an68 cd68 ct68), sl68⟩)
    (xc_BadLine : PySem.W.codeIn K cd68 "BadLine.__init__" = true)
    (xkf_BadLine : PySem.W.keepIn K (.ref f68) = true)
    (xk_BadLine : PySem.W.keepIn K (.ref C_BadLine) = true)
    (xe_BadLine : PySem.W.subIn K (.ref C_BadLine) (.type "BaseException") = some true)
    (xty_BadLine : PySem.W.typeIn K (.ref C_BadLine) = some (.type "type"))
    (xhd_BadLine : PySem.W.hasDictIn K C_BadLine = true)
    (xis_BadLine : PySem.W.isClsIn K C_BadLine = true)
    (xca_BadLine : PySem.W.findIn K (.ref C_BadLine) "__class__" = some (some (.builtin "object.__class__")))
    (xm_BadLine : PySem.W.mroIn K C_BadLine (.type "object") = some true)
    (xl_BadWay : K.lookup C_BadWay = some (excClassObj nm_BadWay q_BadWay C_BadWay N_BadWay bs_BadWay bm_BadWay true sn_BadWay sub_BadWay ab_BadWay col_BadWay dd_BadWay m0_BadWay m1_BadWay m2_BadWay m3_BadWay m5_BadWay "ValueError.__new__"))
    (xr_BadWay : PySem.HandSPX.refsVE bm_BadWay = true)
    (xsa_BadWay : PySem.W.findIn K (.ref C_BadWay) "__setattr__" = some (some (.builtin "object.__setattr__")))
    (xga_BadWay : PySem.W.findIn K (.ref C_BadWay) "__getattribute__" = some (some (.builtin "BaseException.__getattribute__")))
    (xgg_BadWay : PySem.W.findIn K (.ref C_BadWay) "__getattr__" = some none)
    (xnf_BadWay_number : PySem.W.findIn K (.ref C_BadWay) "number" = some none)
    (xi_BadWay : PySem.W.findIn K (.ref C_BadWay) "__init__" = some (some (.ref f69)))
    (xt_BadWay : PySem.W.typeIn K (.ref f69) = some (.type "function"))
    (xf_BadWay : K.lookup f69 = some ⟨oc69, od69, .func (PySem.W.fnOf "__init__" "BadWay.__init__" (defArgs s_BadWay) (defBody s_BadWay) (defScope s_BadWay) .none kV69 dc69 pm69 an69 cd69 ct69), sl69⟩)
    (xc_BadWay : PySem.W.codeIn K cd69 "BadWay.__init__" = true)
    (xkf_BadWay : PySem.W.keepIn K (.ref f69) = true)
    (xk_BadWay : PySem.W.keepIn K (.ref C_BadWay) = true)
    (xe_BadWay : PySem.W.subIn K (.ref C_BadWay) (.type "BaseException") = some true)
    (xty_BadWay : PySem.W.typeIn K (.ref C_BadWay) = some (.type "type"))
    (xhd_BadWay : PySem.W.hasDictIn K C_BadWay = true)
    (xis_BadWay : PySem.W.isClsIn K C_BadWay = true)
    (xca_BadWay : PySem.W.findIn K (.ref C_BadWay) "__class__" = some (some (.builtin "object.__class__")))
    (xm_BadWay : PySem.W.mroIn K C_BadWay (.type "object") = some true)
    (xl_TooLong : K.lookup C_TooLong = some (excClassObj nm_TooLong q_TooLong C_TooLong N_TooLong bs_TooLong bm_TooLong true sn_TooLong sub_TooLong ab_TooLong col_TooLong dd_TooLong m0_TooLong m1_TooLong m2_TooLong m3_TooLong m5_TooLong "ValueError.__new__"))
    (xr_TooLong : PySem.HandSPX.refsVE bm_TooLong = true)
    (xsa_TooLong : PySem.W.findIn K (.ref C_TooLong) "__setattr__" = some (some (.builtin "object.__setattr__")))
    (xga_TooLong : PySem.W.findIn K (.ref C_TooLong) "__getattribute__" = some (some (.builtin "BaseException.__getattribute__")))
    (xgg_TooLong : PySem.W.findIn K (.ref C_TooLong) "__getattr__" = some none)
    (xnf_TooLong_number : PySem.W.findIn K (.ref C_TooLong) "number" = some none)
    (xi_TooLong : PySem.W.findIn K (.ref C_TooLong) "__init__" = some (some (.ref f70)))
    (xt_TooLong : PySem.W.typeIn K (.ref f70) = some (.type "function"))
    (xf_TooLong : K.lookup f70 = some ⟨oc70, od70, .func (PySem.W.fnOf "__init__" "TooLong.__init__" (defArgs s_TooLong) (defBody s_TooLong) (defScope s_TooLong) .none kV70 dc70 pm70 an70 cd70 ct70), sl70⟩)
    (xc_TooLong : PySem.W.codeIn K cd70 "TooLong.__init__" = true)
    (xkf_TooLong : PySem.W.keepIn K (.ref f70) = true)
    (xk_TooLong : PySem.W.keepIn K (.ref C_TooLong) = true)
    (xe_TooLong : PySem.W.subIn K (.ref C_TooLong) (.type "BaseException") = some true)
    (xty_TooLong : PySem.W.typeIn K (.ref C_TooLong) = some (.type "type"))
    (xhd_TooLong : PySem.W.hasDictIn K C_TooLong = true)
    (xis_TooLong : PySem.W.isClsIn K C_TooLong = true)
    (xca_TooLong : PySem.W.findIn K (.ref C_TooLong) "__class__" = some (some (.builtin "object.__class__")))
    (xm_TooLong : PySem.W.mroIn K C_TooLong (.type "object") = some true)
    (xsp : PySem.W.specialIn K (.builtin "object.__class__") "__get__" = some (some (.builtin "getset_descriptor.__get__")))
    (xtk : PySem.W.takesIn K (.builtin "object.__class__") = some true)
    (qi_BadLine : PySem.W.isClsIn K C_BadLine = true)
    (qt_BadLine : PySem.W.typeIn K (.ref C_BadLine) = some (.type "type"))
    (qs_BadLine : PySem.W.subIn K (.ref C_BadLine) (.ref C_BadLine) = some true)
    (qb_BadLine : PySem.W.subIn K (.ref C_BadLine) (.type "BaseException") = some true)
    (qi_BadText : PySem.W.isClsIn K C_BadText = true)
    (qt_BadText : PySem.W.typeIn K (.ref C_BadText) = some (.type "type"))
    (qs_BadText : PySem.W.subIn K (.ref C_BadText) (.ref C_BadText) = some true)
    (qb_BadText : PySem.W.subIn K (.ref C_BadText) (.type "BaseException") = some true)
    (qi_BadWay : PySem.W.isClsIn K C_BadWay = true)
    (qt_BadWay : PySem.W.typeIn K (.ref C_BadWay) = some (.type "type"))
    (qs_BadWay : PySem.W.subIn K (.ref C_BadWay) (.ref C_BadWay) = some true)
    (qb_BadWay : PySem.W.subIn K (.ref C_BadWay) (.type "BaseException") = some true)
    (qi_GlimError : PySem.W.isClsIn K C_GlimError = true)
    (qt_GlimError : PySem.W.typeIn K (.ref C_GlimError) = some (.type "type"))
    (qs_GlimError : PySem.W.subIn K (.ref C_GlimError) (.ref C_GlimError) = some true)
    (qb_GlimError : PySem.W.subIn K (.ref C_GlimError) (.type "BaseException") = some true)
    (qi_TooLong : PySem.W.isClsIn K C_TooLong = true)
    (qt_TooLong : PySem.W.typeIn K (.ref C_TooLong) = some (.type "type"))
    (qs_TooLong : PySem.W.subIn K (.ref C_TooLong) (.ref C_TooLong) = some true)
    (qb_TooLong : PySem.W.subIn K (.ref C_TooLong) (.type "BaseException") = some true)
    (y_BadLine_BadLine : PySem.W.subIn K (.ref C_BadLine) (.ref C_BadLine) = some true)
    (y_BadLine_BadWay : PySem.W.subIn K (.ref C_BadLine) (.ref C_BadWay) = some false)
    (y_BadLine_ValueError : PySem.W.subIn K (.ref C_BadLine) (.type "ValueError") = some true)
    (y_BadWay_BadLine : PySem.W.subIn K (.ref C_BadWay) (.ref C_BadLine) = some false)
    (y_BadWay_BadWay : PySem.W.subIn K (.ref C_BadWay) (.ref C_BadWay) = some true)
    (y_BadWay_ValueError : PySem.W.subIn K (.ref C_BadWay) (.type "ValueError") = some true)
    (x_BadLine_GlimError : PySem.W.subIn K (.ref C_BadLine) (.ref C_GlimError) = some true)
    (x_BadWay_GlimError : PySem.W.subIn K (.ref C_BadWay) (.ref C_GlimError) = some true)
    (x_BadText_BadText : PySem.W.subIn K (.ref C_BadText) (.ref C_BadText) = some true)
    (x_BadText_TooLong : PySem.W.subIn K (.ref C_BadText) (.ref C_TooLong) = some false)
    (x_TooLong_BadText : PySem.W.subIn K (.ref C_TooLong) (.ref C_BadText) = some false)
    (x_TooLong_TooLong : PySem.W.subIn K (.ref C_TooLong) (.ref C_TooLong) = some true)
    : ∃ fd : FuncData, (∀ (s : Shared) (v : Value), BindsTo s fd ⟨[v], []⟩ [("_law_script", v)]) ∧ ∀ base : Heap, K.In base → base.Ns mainGlobals mg → GOk l.prog w K mg base CX0 31 fa fd ["_law_script"] (sp1 (p_law K)) := by
  have e := hfa.symm.trans (PySem.W.mg_of X G a65)
  cases e
  have F1 := fun_mk (st := s_is_integer) l1 c1 k1
  have F2 : FunD K "deep" "deep" (defArgs s_deep) (defBody s_deep) (defScope s_deep) [.int (0)] [] f2 _ := ⟨⟨_, _, _, _, _, _, _, _, _, _, rfl, l2, c2, (.inr ⟨by simp, D2, _, _, _, rfl, e2, rfl, (.cons ⟨_, rfl⟩ .nil)⟩), .inl rfl⟩, k2⟩
  have E2 := FunD.binds1 (ps := ["thing", "level"]) F2 1 0 (by simp) rfl fun _ _ _ _ _ _ _ us its h1 h2 => match us, its, h1, h2 with | [_], [_], _, _ => ⟨_, rfl, rfl⟩
  have B2 := FunD.binds1 (ps := ["thing", "level"]) F2 2 1 (by simp) rfl fun _ _ _ _ _ _ _ us its h1 h2 => match us, its, h1, h2 with | [_, _], [_], _, _ => ⟨_, rfl, rfl⟩
  have B2 : Binds K _ ["thing", "level"] [] := (by obtain ⟨ds, h1, h2⟩ := B2; cases h1; exact h2)
  have F3 := fun_mk (st := s_wrong_sign) l3 c3 k3
  have F4 := fun_mk (st := s_is_row) l4 c4 k4
  have F5 := fun_mk (st := s_is_round) l5 c5 k5
  have F6 := fun_mk (st := s_is_glass) l6 c6 k6
  have F7 := fun_mk (st := s_check_round) l7 c7 k7
  have F8 := fun_mk (st := s_shortlex) l8 c8 k8
  have F9 := fun_mk (st := s_least_text) l9 c9 k9
  have F10 := fun_mk (st := s_closed_text) l10 c10 k10
  have F11 := fun_mk (st := s_item_text) l11 c11 k11
  have F12 := fun_mk (st := s_items_text) l12 c12 k12
  have F13 := fun_mk (st := s_fold_round) l13 c13 k13
  have F14 := fun_mk (st := s_common_beats) l14 c14 k14
  have F15 := fun_mk (st := s_repeated) l15 c15 k15
  have F16 := fun_mk (st := s_put_behind) l16 c16 k16
  have F17 := fun_mk (st := s_first_lit) l17 c17 k17
  have F18 := fun_mk (st := s_shown_together) l18 c18 k18
  have F19 := fun_mk (st := s_behind_digits) l19 c19 k19
  have F20 := fun_mk (st := s_is_within) l20 c20 k20
  have F21 := fun_mk (st := s_read_item) l21 c21 k21
  have F22 := fun_mk (st := s_read_filled) l22 c22 k22
  have F23 := fun_mk (st := s_read_part) l23 c23 k23
  have F24 := fun_mk (st := s_read_parts) l24 c24 k24
  have F25 := fun_mk (st := s_read_round) l25 c25 k25
  have F26 := fun_mk (st := s_is_number) l26 c26 k26
  have F27 : FunD K "__init__" "Lines.__init__" (defArgs s_Lines___init__) (defBody s_Lines___init__) (defScope s_Lines___init__) [.int (0)] [] f27 _ := ⟨⟨_, _, _, _, _, _, _, _, _, _, rfl, l27, c27, (.inr ⟨by simp, D27, _, _, _, rfl, e27, rfl, (.cons ⟨_, rfl⟩ .nil)⟩), .inl rfl⟩, k27⟩
  have E27 := FunD.binds1 (ps := ["self", "texts", "at"]) F27 2 0 (by simp) rfl fun _ _ _ _ _ _ _ us its h1 h2 => match us, its, h1, h2 with | [_, _], [_], _, _ => ⟨_, rfl, rfl⟩
  have B27 := FunD.binds1 (ps := ["self", "texts", "at"]) F27 3 1 (by simp) rfl fun _ _ _ _ _ _ _ us its h1 h2 => match us, its, h1, h2 with | [_, _, _], [_], _, _ => ⟨_, rfl, rfl⟩
  have B27 : Binds K _ ["self", "texts", "at"] [] := (by obtain ⟨ds, h1, h2⟩ := B27; cases h1; exact h2)
  have F28 : FunD K "is_over" "Lines.is_over" (defArgs s_Lines_is_over) (defBody s_Lines_is_over) (defScope s_Lines_is_over) [] [] f28 _ := ⟨⟨_, _, _, _, _, _, _, _, _, _, rfl, l28, c28, (.inl ⟨rfl, rfl⟩), .inl rfl⟩, k28⟩
  have B28 : Binds K _ ["self"] [] := FunD.bindsN (ps := ["self"]) F28 fun _ _ _ _ _ _ us hl => match us, hl with | [_], _ => rfl
  have E28 : ∃ ds, Vals [] ds ∧ Binds K _ ["self"] ds := ⟨[], .nil, B28⟩
  have F29 : FunD K "words" "Lines.words" (defArgs s_Lines_words) (defBody s_Lines_words) (defScope s_Lines_words) [] [] f29 _ := ⟨⟨_, _, _, _, _, _, _, _, _, _, rfl, l29, c29, (.inl ⟨rfl, rfl⟩), .inl rfl⟩, k29⟩
  have B29 : Binds K _ ["self"] [] := FunD.bindsN (ps := ["self"]) F29 fun _ _ _ _ _ _ us hl => match us, hl with | [_], _ => rfl
  have E29 : ∃ ds, Vals [] ds ∧ Binds K _ ["self"] ds := ⟨[], .nil, B29⟩
  have F30 : FunD K "first_word" "Lines.first_word" (defArgs s_Lines_first_word) (defBody s_Lines_first_word) (defScope s_Lines_first_word) [] [] f30 _ := ⟨⟨_, _, _, _, _, _, _, _, _, _, rfl, l30, c30, (.inl ⟨rfl, rfl⟩), .inl rfl⟩, k30⟩
  have B30 : Binds K _ ["self"] [] := FunD.bindsN (ps := ["self"]) F30 fun _ _ _ _ _ _ us hl => match us, hl with | [_], _ => rfl
  have E30 : ∃ ds, Vals [] ds ∧ Binds K _ ["self"] ds := ⟨[], .nil, B30⟩
  have F31 : FunD K "fail_at" "Lines.fail_at" (defArgs s_Lines_fail_at) (defBody s_Lines_fail_at) (defScope s_Lines_fail_at) [] [] f31 _ := ⟨⟨_, _, _, _, _, _, _, _, _, _, rfl, l31, c31, (.inl ⟨rfl, rfl⟩), .inl rfl⟩, k31⟩
  have B31 : Binds K _ ["self", "number"] [] := FunD.bindsN (ps := ["self", "number"]) F31 fun _ _ _ _ _ _ us hl => match us, hl with | [_, _], _ => rfl
  have E31 : ∃ ds, Vals [] ds ∧ Binds K _ ["self", "number"] ds := ⟨[], .nil, B31⟩
  have F32 : FunD K "word_at" "Lines.word_at" (defArgs s_Lines_word_at) (defBody s_Lines_word_at) (defScope s_Lines_word_at) [] [] f32 _ := ⟨⟨_, _, _, _, _, _, _, _, _, _, rfl, l32, c32, (.inl ⟨rfl, rfl⟩), .inl rfl⟩, k32⟩
  have B32 : Binds K _ ["self", "number"] [] := FunD.bindsN (ps := ["self", "number"]) F32 fun _ _ _ _ _ _ us hl => match us, hl with | [_, _], _ => rfl
  have E32 : ∃ ds, Vals [] ds ∧ Binds K _ ["self", "number"] ds := ⟨[], .nil, B32⟩
  have F33 : FunD K "number_at" "Lines.number_at" (defArgs s_Lines_number_at) (defBody s_Lines_number_at) (defScope s_Lines_number_at) [] [] f33 _ := ⟨⟨_, _, _, _, _, _, _, _, _, _, rfl, l33, c33, (.inl ⟨rfl, rfl⟩), .inl rfl⟩, k33⟩
  have B33 : Binds K _ ["self", "number", "low", "high"] [] := FunD.bindsN (ps := ["self", "number", "low", "high"]) F33 fun _ _ _ _ _ _ us hl => match us, hl with | [_, _, _, _], _ => rfl
  have E33 : ∃ ds, Vals [] ds ∧ Binds K _ ["self", "number", "low", "high"] ds := ⟨[], .nil, B33⟩
  have F34 : FunD K "glass_at" "Lines.glass_at" (defArgs s_Lines_glass_at) (defBody s_Lines_glass_at) (defScope s_Lines_glass_at) [] [] f34 _ := ⟨⟨_, _, _, _, _, _, _, _, _, _, rfl, l34, c34, (.inl ⟨rfl, rfl⟩), .inl rfl⟩, k34⟩
  have B34 : Binds K _ ["self", "number"] [] := FunD.bindsN (ps := ["self", "number"]) F34 fun _ _ _ _ _ _ us hl => match us, hl with | [_, _], _ => rfl
  have E34 : ∃ ds, Vals [] ds ∧ Binds K _ ["self", "number"] ds := ⟨[], .nil, B34⟩
  have F35 : FunD K "round_at" "Lines.round_at" (defArgs s_Lines_round_at) (defBody s_Lines_round_at) (defScope s_Lines_round_at) [] [] f35 _ := ⟨⟨_, _, _, _, _, _, _, _, _, _, rfl, l35, c35, (.inl ⟨rfl, rfl⟩), .inl rfl⟩, k35⟩
  have B35 : Binds K _ ["self", "number"] [] := FunD.bindsN (ps := ["self", "number"]) F35 fun _ _ _ _ _ _ us hl => match us, hl with | [_, _], _ => rfl
  have E35 : ∃ ds, Vals [] ds ∧ Binds K _ ["self", "number"] ds := ⟨[], .nil, B35⟩
  have F36 : FunD K "close_at" "Lines.close_at" (defArgs s_Lines_close_at) (defBody s_Lines_close_at) (defScope s_Lines_close_at) [] [] f36 _ := ⟨⟨_, _, _, _, _, _, _, _, _, _, rfl, l36, c36, (.inl ⟨rfl, rfl⟩), .inl rfl⟩, k36⟩
  have B36 : Binds K _ ["self", "number"] [] := FunD.bindsN (ps := ["self", "number"]) F36 fun _ _ _ _ _ _ us hl => match us, hl with | [_, _], _ => rfl
  have E36 : ∃ ds, Vals [] ds ∧ Binds K _ ["self", "number"] ds := ⟨[], .nil, B36⟩
  have F37 := fun_mk (st := s_has_way_form) l37 c37 k37
  have F38 := fun_mk (st := s_is_way) l38 c38 k38
  have F39 := fun_mk (st := s_check_ways) l39 c39 k39
  have F40 := fun_mk (st := s_way_line) l40 c40 k40
  have F41 := fun_mk (st := s_write_ways) l41 c41 k41
  have F42 := fun_mk (st := s_way_at) l42 c42 k42
  have F43 := fun_mk (st := s_read_ways) l43 c43 k43
  have F44 := fun_mk (st := s_L_draw) l44 c44 k44
  have F45 := fun_mk (st := s_L_mix) l45 c45 k45
  have F46 := fun_mk (st := s_L_pick) l46 c46 k46
  have F47 := fun_mk (st := s_L_listed) l47 c47 k47
  have F48 := fun_mk (st := s_L_sign) l48 c48 k48
  have F49 := fun_mk (st := s_L_round) l49 c49 k49
  have F50 := fun_mk (st := s_L_glass) l50 c50 k50
  have F51 := fun_mk (st := s_L_folds) l51 c51 k51
  have F52 := fun_mk (st := s_L_pool) l52 c52 k52
  have F53 := fun_mk (st := s_L_drawn_way) l53 c53 k53
  have F54 := fun_mk (st := s_L_written) l54 c54 k54
  have F55 := fun_mk (st := s_L_odd_way) l55 c55 k55
  have F56 := fun_mk (st := s_L_spoilt) l56 c56 k56
  have F57 := fun_mk (st := s_L_line_way) l57 c57 k57
  have F58 := fun_mk (st := s_L_is_good) l58 c58 k58
  have F59 := fun_mk (st := s_L_due) l59 c59 k59
  have F60 := fun_mk (st := s_L_error) l60 c60 k60
  have F61 := fun_mk (st := s_L_read) l61 c61 k61
  have F62 := fun_mk (st := s_L_lines) l62 c62 k62
  have F63 := fun_mk (st := s_L_refused) l63 c63 k63
  have F64 := fun_mk (st := s_L_any_standin) l64 c64 k64
  have F65 := fun_mk (st := s_law) l65 c65 k65
  have F66 := fun_mk (st := s_BadRound) xf_BadRound xc_BadRound xkf_BadRound
  have F67 := fun_mk (st := s_BadText) xf_BadText xc_BadText xkf_BadText
  have F68 := fun_mk (st := s_BadLine) xf_BadLine xc_BadLine xkf_BadLine
  have F69 := fun_mk (st := s_BadWay) xf_BadWay xc_BadWay xkf_BadWay
  have F70 := fun_mk (st := s_TooLong) xf_TooLong xc_TooLong xkf_TooLong
  have T : Txt K mg w C_GlimError C_BadRound C_BadText C_BadLine C_BadWay C_TooLong C_Lines C_NUMBERED := {
    d_is_integer := ⟨_, _, F1, PySem.W.mg_of X G a1, (F1.binds (ps := ["thing", "low", "high"]) fun _ _ _ _ _ _ us hl => match us, hl with | [_, _, _], _ => rfl)⟩
    d_deep := ⟨_, _, F2, PySem.W.mg_of X G a2, B2, E2⟩
    d_wrong_sign := ⟨_, _, F3, PySem.W.mg_of X G a3, (F3.binds (ps := ["row"]) fun _ _ _ _ _ _ us hl => match us, hl with | [_], _ => rfl)⟩
    d_is_row := ⟨_, _, F4, PySem.W.mg_of X G a4, (F4.binds (ps := ["thing", "most"]) fun _ _ _ _ _ _ us hl => match us, hl with | [_, _], _ => rfl)⟩
    d_is_round := ⟨_, _, F5, PySem.W.mg_of X G a5, (F5.binds (ps := ["thing"]) fun _ _ _ _ _ _ us hl => match us, hl with | [_], _ => rfl)⟩
    d_is_glass := ⟨_, _, F6, PySem.W.mg_of X G a6, (F6.binds (ps := ["thing"]) fun _ _ _ _ _ _ us hl => match us, hl with | [_], _ => rfl)⟩
    d_check_round := ⟨_, _, F7, PySem.W.mg_of X G a7, (F7.binds (ps := ["thing"]) fun _ _ _ _ _ _ us hl => match us, hl with | [_], _ => rfl)⟩
    d_shortlex := ⟨_, _, F8, PySem.W.mg_of X G a8, (F8.binds (ps := ["row"]) fun _ _ _ _ _ _ us hl => match us, hl with | [_], _ => rfl)⟩
    d_least_text := ⟨_, _, F9, PySem.W.mg_of X G a9, (F9.binds (ps := ["texts"]) fun _ _ _ _ _ _ us hl => match us, hl with | [_], _ => rfl)⟩
    d_closed_text := ⟨_, _, F10, PySem.W.mg_of X G a10, (F10.binds (ps := ["part", "texts"]) fun _ _ _ _ _ _ us hl => match us, hl with | [_, _], _ => rfl)⟩
    d_item_text := ⟨_, _, F11, PySem.W.mg_of X G a11, (F11.binds (ps := ["part", "texts"]) fun _ _ _ _ _ _ us hl => match us, hl with | [_, _], _ => rfl)⟩
    d_items_text := ⟨_, _, F12, PySem.W.mg_of X G a12, (F12.binds (ps := ["part", "items", "texts"]) fun _ _ _ _ _ _ us hl => match us, hl with | [_, _, _], _ => rfl)⟩
    d_fold_round := ⟨_, _, F13, PySem.W.mg_of X G a13, (F13.binds (ps := ["row"]) fun _ _ _ _ _ _ us hl => match us, hl with | [_], _ => rfl)⟩
    d_common_beats := ⟨_, _, F14, PySem.W.mg_of X G a14, (F14.binds (ps := ["first", "second"]) fun _ _ _ _ _ _ us hl => match us, hl with | [_, _], _ => rfl)⟩
    d_repeated := ⟨_, _, F15, PySem.W.mg_of X G a15, (F15.binds (ps := ["stretch", "times"]) fun _ _ _ _ _ _ us hl => match us, hl with | [_, _], _ => rfl)⟩
    d_put_behind := ⟨_, _, F16, PySem.W.mg_of X G a16, (F16.binds (ps := ["stretch", "other"]) fun _ _ _ _ _ _ us hl => match us, hl with | [_, _], _ => rfl)⟩
    d_first_lit := ⟨_, _, F17, PySem.W.mg_of X G a17, (F17.binds (ps := ["signs"]) fun _ _ _ _ _ _ us hl => match us, hl with | [_], _ => rfl)⟩
    d_shown_together := ⟨_, _, F18, PySem.W.mg_of X G a18, (F18.binds (ps := ["parts"]) fun _ _ _ _ _ _ us hl => match us, hl with | [_], _ => rfl)⟩
    d_behind_digits := ⟨_, _, F19, PySem.W.mg_of X G a19, (F19.binds (ps := ["text", "at"]) fun _ _ _ _ _ _ us hl => match us, hl with | [_, _], _ => rfl)⟩
    d_is_within := ⟨_, _, F20, PySem.W.mg_of X G a20, (F20.binds (ps := ["run", "low", "high"]) fun _ _ _ _ _ _ us hl => match us, hl with | [_, _, _], _ => rfl)⟩
    d_read_item := ⟨_, _, F21, PySem.W.mg_of X G a21, (F21.binds (ps := ["text", "at", "opened"]) fun _ _ _ _ _ _ us hl => match us, hl with | [_, _, _], _ => rfl)⟩
    d_read_filled := ⟨_, _, F22, PySem.W.mg_of X G a22, (F22.binds (ps := ["text", "at", "part"]) fun _ _ _ _ _ _ us hl => match us, hl with | [_, _, _], _ => rfl)⟩
    d_read_part := ⟨_, _, F23, PySem.W.mg_of X G a23, (F23.binds (ps := ["text", "at", "opened"]) fun _ _ _ _ _ _ us hl => match us, hl with | [_, _, _], _ => rfl)⟩
    d_read_parts := ⟨_, _, F24, PySem.W.mg_of X G a24, (F24.binds (ps := ["text", "at", "opened"]) fun _ _ _ _ _ _ us hl => match us, hl with | [_, _, _], _ => rfl)⟩
    d_read_round := ⟨_, _, F25, PySem.W.mg_of X G a25, (F25.binds (ps := ["text"]) fun _ _ _ _ _ _ us hl => match us, hl with | [_], _ => rfl)⟩
    d_is_number := ⟨_, _, F26, PySem.W.mg_of X G a26, (F26.binds (ps := ["text"]) fun _ _ _ _ _ _ us hl => match us, hl with | [_], _ => rfl)⟩
    m_Lines___init__ := ⟨f27, _, ⟨wmk_Lines, a27, i27, wkc_Lines⟩, PySem.W.mg_of X G g_Lines, F27, B27, E27⟩
    m_Lines_is_over := ⟨f28, _, ⟨a28, i28, k28⟩, F28, B28, E28⟩
    m_Lines_words := ⟨f29, _, ⟨a29, i29, k29⟩, F29, B29, E29⟩
    m_Lines_first_word := ⟨f30, _, ⟨a30, i30, k30⟩, F30, B30, E30⟩
    m_Lines_fail_at := ⟨f31, _, ⟨a31, i31, k31⟩, F31, B31, E31⟩
    m_Lines_word_at := ⟨f32, _, ⟨a32, i32, k32⟩, F32, B32, E32⟩
    m_Lines_number_at := ⟨f33, _, ⟨a33, i33, k33⟩, F33, B33, E33⟩
    m_Lines_glass_at := ⟨f34, _, ⟨a34, i34, k34⟩, F34, B34, E34⟩
    m_Lines_round_at := ⟨f35, _, ⟨a35, i35, k35⟩, F35, B35, E35⟩
    m_Lines_close_at := ⟨f36, _, ⟨a36, i36, k36⟩, F36, B36, E36⟩
    d_has_way_form := ⟨_, _, F37, PySem.W.mg_of X G a37, (F37.binds (ps := ["way"]) fun _ _ _ _ _ _ us hl => match us, hl with | [_], _ => rfl)⟩
    d_is_way := ⟨_, _, F38, PySem.W.mg_of X G a38, (F38.binds (ps := ["thing"]) fun _ _ _ _ _ _ us hl => match us, hl with | [_], _ => rfl)⟩
    d_check_ways := ⟨_, _, F39, PySem.W.mg_of X G a39, (F39.binds (ps := ["ways"]) fun _ _ _ _ _ _ us hl => match us, hl with | [_], _ => rfl)⟩
    d_way_line := ⟨_, _, F40, PySem.W.mg_of X G a40, (F40.binds (ps := ["way"]) fun _ _ _ _ _ _ us hl => match us, hl with | [_], _ => rfl)⟩
    d_write_ways := ⟨_, _, F41, PySem.W.mg_of X G a41, (F41.binds (ps := ["ways"]) fun _ _ _ _ _ _ us hl => match us, hl with | [_], _ => rfl)⟩
    d_way_at := ⟨_, _, F42, PySem.W.mg_of X G a42, (F42.binds (ps := ["reader"]) fun _ _ _ _ _ _ us hl => match us, hl with | [_], _ => rfl)⟩
    d_read_ways := ⟨_, _, F43, PySem.W.mg_of X G a43, (F43.binds (ps := ["lines"]) fun _ _ _ _ _ _ us hl => match us, hl with | [_], _ => rfl)⟩
    d_L_draw := ⟨_, _, F44, PySem.W.mg_of X G a44, (F44.binds (ps := ["_law_script"]) fun _ _ _ _ _ _ us hl => match us, hl with | [_], _ => rfl)⟩
    d_L_mix := ⟨_, _, F45, PySem.W.mg_of X G a45, (F45.binds (ps := ["_law_cell", "_law_turn"]) fun _ _ _ _ _ _ us hl => match us, hl with | [_, _], _ => rfl)⟩
    d_L_pick := ⟨_, _, F46, PySem.W.mg_of X G a46, (F46.binds (ps := ["_law_draw_here", "_law_many"]) fun _ _ _ _ _ _ us hl => match us, hl with | [_, _], _ => rfl)⟩
    d_L_listed := ⟨_, _, F47, PySem.W.mg_of X G a47, (F47.binds (ps := ["_law_thing"]) fun _ _ _ _ _ _ us hl => match us, hl with | [_], _ => rfl)⟩
    d_L_sign := ⟨_, _, F48, PySem.W.mg_of X G a48, (F48.binds (ps := ["_law_draw_here"]) fun _ _ _ _ _ _ us hl => match us, hl with | [_], _ => rfl)⟩
    d_L_round := ⟨_, _, F49, PySem.W.mg_of X G a49, (F49.binds (ps := ["_law_draw_here", "_law_most"]) fun _ _ _ _ _ _ us hl => match us, hl with | [_, _], _ => rfl)⟩
    d_L_glass := ⟨_, _, F50, PySem.W.mg_of X G a50, (F50.binds (ps := ["_law_draw_here"]) fun _ _ _ _ _ _ us hl => match us, hl with | [_], _ => rfl)⟩
    d_L_folds := ⟨_, _, F51, PySem.W.mg_of X G a51, (F51.binds (ps := []) fun _ _ _ _ _ _ us hl => match us, hl with | [], _ => rfl)⟩
    d_L_pool := ⟨_, _, F52, PySem.W.mg_of X G a52, (F52.binds (ps := []) fun _ _ _ _ _ _ us hl => match us, hl with | [], _ => rfl)⟩
    d_L_drawn_way := ⟨_, _, F53, PySem.W.mg_of X G a53, (F53.binds (ps := ["_law_draw_here"]) fun _ _ _ _ _ _ us hl => match us, hl with | [_], _ => rfl)⟩
    d_L_written := ⟨_, _, F54, PySem.W.mg_of X G a54, (F54.binds (ps := ["_law_way"]) fun _ _ _ _ _ _ us hl => match us, hl with | [_], _ => rfl)⟩
    d_L_odd_way := ⟨_, _, F55, PySem.W.mg_of X G a55, (F55.binds (ps := ["_law_draw_here"]) fun _ _ _ _ _ _ us hl => match us, hl with | [_], _ => rfl)⟩
    d_L_spoilt := ⟨_, _, F56, PySem.W.mg_of X G a56, (F56.binds (ps := ["_law_draw_here", "_law_lines_here"]) fun _ _ _ _ _ _ us hl => match us, hl with | [_, _], _ => rfl)⟩
    d_L_line_way := ⟨_, _, F57, PySem.W.mg_of X G a57, (F57.binds (ps := ["_law_words"]) fun _ _ _ _ _ _ us hl => match us, hl with | [_], _ => rfl)⟩
    d_L_is_good := ⟨_, _, F58, PySem.W.mg_of X G a58, (F58.binds (ps := ["_law_way"]) fun _ _ _ _ _ _ us hl => match us, hl with | [_], _ => rfl)⟩
    d_L_due := ⟨_, _, F59, PySem.W.mg_of X G a59, (F59.binds (ps := ["_law_lines_here"]) fun _ _ _ _ _ _ us hl => match us, hl with | [_], _ => rfl)⟩
    d_L_error := ⟨_, _, F60, PySem.W.mg_of X G a60, (F60.binds (ps := ["_law_wrong"]) fun _ _ _ _ _ _ us hl => match us, hl with | [_], _ => rfl)⟩
    d_L_read := ⟨_, _, F61, PySem.W.mg_of X G a61, (F61.binds (ps := ["_law_lines_here"]) fun _ _ _ _ _ _ us hl => match us, hl with | [_], _ => rfl)⟩
    d_L_lines := ⟨_, _, F62, PySem.W.mg_of X G a62, (F62.binds (ps := ["_law_ways"]) fun _ _ _ _ _ _ us hl => match us, hl with | [_], _ => rfl)⟩
    d_L_refused := ⟨_, _, F63, PySem.W.mg_of X G a63, (F63.binds (ps := ["_law_draw_here", "_law_ways"]) fun _ _ _ _ _ _ us hl => match us, hl with | [_, _], _ => rfl)⟩
    d_L_any_standin := ⟨_, _, F64, PySem.W.mg_of X G a64, (F64.binds (ps := ["_law_row"]) fun _ _ _ _ _ _ us hl => match us, hl with | [_], _ => rfl)⟩
    d_law := ⟨_, _, F65, PySem.W.mg_of X G a65, (F65.binds (ps := ["_law_script"]) fun _ _ _ _ _ _ us hl => match us, hl with | [_], _ => rfl)⟩
    b_ValueError := PySem.W.mg_none_of X G z_ValueError
    b_abs := PySem.W.mg_none_of X G z_abs
    b_bool := PySem.W.mg_none_of X G z_bool
    b_enumerate := PySem.W.mg_none_of X G z_enumerate
    b_int := PySem.W.mg_none_of X G z_int
    b_isinstance := PySem.W.mg_none_of X G z_isinstance
    b_len := PySem.W.mg_none_of X G z_len
    b_list := PySem.W.mg_none_of X G z_list
    b_max := PySem.W.mg_none_of X G z_max
    b_min := PySem.W.mg_none_of X G z_min
    b_range := PySem.W.mg_none_of X G z_range
    b_repr := PySem.W.mg_none_of X G z_repr
    b_str := PySem.W.mg_none_of X G z_str
    b_sum := PySem.W.mg_none_of X G z_sum
    b_tuple := PySem.W.mg_none_of X G z_tuple
    g_SIGNS := ⟨t_SIGNS, (PySem.W.mg_of X G v_SIGNS).trans (congrArg some (congrArg (fun z => Value.str z t_SIGNS) (by decide +kernel : (".grw" : Str) = ⟨([46, 103, 114, 119] : List Nat).toArray⟩)))⟩
    g_MOST_LEVELS := ⟨t_MOST_LEVELS, PySem.W.mg_of X G v_MOST_LEVELS⟩
    g_MOST_ROUND := ⟨t_MOST_ROUND, PySem.W.mg_of X G v_MOST_ROUND⟩
    g_DIGITS_rhythmtext := ⟨t_DIGITS_rhythmtext, (PySem.W.mg_of X G v_DIGITS_rhythmtext).trans (congrArg some (congrArg (fun z => Value.str z t_DIGITS_rhythmtext) (by decide +kernel : ("0123456789" : Str) = ⟨([48, 49, 50, 51, 52, 53, 54, 55, 56, 57] : List Nat).toArray⟩)))⟩
    g_MOST_OPEN := ⟨t_MOST_OPEN, PySem.W.mg_of X G v_MOST_OPEN⟩
    g_DIGITS_lines := ⟨t_DIGITS_lines, (PySem.W.mg_of X G v_DIGITS_lines).trans (congrArg some (congrArg (fun z => Value.str z t_DIGITS_lines) (by decide +kernel : ("0123456789" : Str) = ⟨([48, 49, 50, 51, 52, 53, 54, 55, 56, 57] : List Nat).toArray⟩)))⟩
    c_GlimError := PySem.W.mg_of X G g_GlimError
    c_BadRound := PySem.W.mg_of X G g_BadRound
    c_BadText := PySem.W.mg_of X G g_BadText
    c_BadLine := PySem.W.mg_of X G g_BadLine
    c_BadWay := PySem.W.mg_of X G g_BadWay
    c_TooLong := PySem.W.mg_of X G g_TooLong
    c_Lines := PySem.W.mg_of X G g_Lines
    c_NUMBERED := PySem.W.mg_of X G g_NUMBERED
    q_NUMBERED := ⟨v_NUMBERED_0, v_NUMBERED_1, v_NUMBERED_2, Fg.wdk_mk l_NUMBERED lo_NUMBERED ⟨⟨_, _, rfl, xr_NUMBERED_0⟩, ⟨_, _, rfl, xr_NUMBERED_1⟩, ⟨_, _, rfl, xr_NUMBERED_2⟩, trivial⟩ (.cons (by decide +kernel) rfl (.cons (by decide +kernel) rfl (.cons (by decide +kernel) rfl .nil))), fun H => .inr ⟨_, _, _, lv_NUMBERED_0, rfl, rfl, by show 2 ≤ sizeLine; decide, (.cons ⟨_, rfl⟩ (.cons ⟨_, rfl⟩ .nil))⟩, fun H => .inr ⟨_, _, _, lv_NUMBERED_1, rfl, rfl, by show 2 ≤ sizeLine; decide, (.cons ⟨_, rfl⟩ (.cons ⟨_, rfl⟩ .nil))⟩, fun H => .inr ⟨_, _, _, lv_NUMBERED_2, rfl, rfl, by show 2 ≤ sizeLine; decide, (.cons ⟨_, rfl⟩ (.cons ⟨_, rfl⟩ .nil))⟩⟩
    cl_Lines := ⟨wpg_Lines, whd_Lines, wpo_Lines, wsa_Lines⟩
    na_Lines_texts := wna_Lines_texts
    na_Lines_now := wna_Lines_now
    o_BadRound := ⟨⟨nm_BadRound, q_BadRound, N_BadRound, bs_BadRound, bm_BadRound, sn_BadRound, sub_BadRound, ab_BadRound, col_BadRound, dd_BadRound, m0_BadRound, m1_BadRound, m2_BadRound, m3_BadRound, m5_BadRound, xl_BadRound, xr_BadRound⟩, xsa_BadRound, xe_BadRound, xty_BadRound, xk_BadRound⟩
    nf_BadRound_number := xnf_BadRound_number
    i_BadRound := ⟨f66, _, xi_BadRound, xt_BadRound, F66, (F66.binds (ps := ["self", "number"]) fun _ _ _ _ _ _ us hl => match us, hl with | [_, _], _ => rfl)⟩
    e_BadRound := ⟨xis_BadRound, xga_BadRound, xgg_BadRound, xe_BadRound, xhd_BadRound, xca_BadRound, xsp, xtk, xm_BadRound⟩
    o_BadText := ⟨⟨nm_BadText, q_BadText, N_BadText, bs_BadText, bm_BadText, sn_BadText, sub_BadText, ab_BadText, col_BadText, dd_BadText, m0_BadText, m1_BadText, m2_BadText, m3_BadText, m5_BadText, xl_BadText, xr_BadText⟩, xsa_BadText, xe_BadText, xty_BadText, xk_BadText⟩
    nf_BadText_at := xnf_BadText_at
    i_BadText := ⟨f67, _, xi_BadText, xt_BadText, F67, (F67.binds (ps := ["self", "at"]) fun _ _ _ _ _ _ us hl => match us, hl with | [_, _], _ => rfl)⟩
    e_BadText := ⟨xis_BadText, xga_BadText, xgg_BadText, xe_BadText, xhd_BadText, xca_BadText, xsp, xtk, xm_BadText⟩
    o_BadLine := ⟨⟨nm_BadLine, q_BadLine, N_BadLine, bs_BadLine, bm_BadLine, sn_BadLine, sub_BadLine, ab_BadLine, col_BadLine, dd_BadLine, m0_BadLine, m1_BadLine, m2_BadLine, m3_BadLine, m5_BadLine, xl_BadLine, xr_BadLine⟩, xsa_BadLine, xe_BadLine, xty_BadLine, xk_BadLine⟩
    nf_BadLine_line := xnf_BadLine_line
    nf_BadLine_word := xnf_BadLine_word
    i_BadLine := ⟨f68, _, xi_BadLine, xt_BadLine, F68, (F68.binds (ps := ["self", "line", "word"]) fun _ _ _ _ _ _ us hl => match us, hl with | [_, _, _], _ => rfl)⟩
    e_BadLine := ⟨xis_BadLine, xga_BadLine, xgg_BadLine, xe_BadLine, xhd_BadLine, xca_BadLine, xsp, xtk, xm_BadLine⟩
    o_BadWay := ⟨⟨nm_BadWay, q_BadWay, N_BadWay, bs_BadWay, bm_BadWay, sn_BadWay, sub_BadWay, ab_BadWay, col_BadWay, dd_BadWay, m0_BadWay, m1_BadWay, m2_BadWay, m3_BadWay, m5_BadWay, xl_BadWay, xr_BadWay⟩, xsa_BadWay, xe_BadWay, xty_BadWay, xk_BadWay⟩
    nf_BadWay_number := xnf_BadWay_number
    i_BadWay := ⟨f69, _, xi_BadWay, xt_BadWay, F69, (F69.binds (ps := ["self", "number"]) fun _ _ _ _ _ _ us hl => match us, hl with | [_, _], _ => rfl)⟩
    e_BadWay := ⟨xis_BadWay, xga_BadWay, xgg_BadWay, xe_BadWay, xhd_BadWay, xca_BadWay, xsp, xtk, xm_BadWay⟩
    o_TooLong := ⟨⟨nm_TooLong, q_TooLong, N_TooLong, bs_TooLong, bm_TooLong, sn_TooLong, sub_TooLong, ab_TooLong, col_TooLong, dd_TooLong, m0_TooLong, m1_TooLong, m2_TooLong, m3_TooLong, m5_TooLong, xl_TooLong, xr_TooLong⟩, xsa_TooLong, xe_TooLong, xty_TooLong, xk_TooLong⟩
    nf_TooLong_number := xnf_TooLong_number
    i_TooLong := ⟨f70, _, xi_TooLong, xt_TooLong, F70, (F70.binds (ps := ["self", "number"]) fun _ _ _ _ _ _ us hl => match us, hl with | [_, _], _ => rfl)⟩
    e_TooLong := ⟨xis_TooLong, xga_TooLong, xgg_TooLong, xe_TooLong, xhd_TooLong, xca_TooLong, xsp, xtk, xm_TooLong⟩
    k_BadLine_BadLine := Fg.kit_ref qi_BadLine qt_BadLine qs_BadLine y_BadLine_BadLine
    k_BadLine_BadWay := Fg.kit_ref qi_BadWay qt_BadWay qs_BadWay y_BadLine_BadWay
    k_BadLine_ValueError := Fg.kit_base (by decide +kernel) y_BadLine_ValueError
    k_BadWay_BadLine := Fg.kit_ref qi_BadLine qt_BadLine qs_BadLine y_BadWay_BadLine
    k_BadWay_BadWay := Fg.kit_ref qi_BadWay qt_BadWay qs_BadWay y_BadWay_BadWay
    k_BadWay_ValueError := Fg.kit_base (by decide +kernel) y_BadWay_ValueError
    m_BadLine_GlimError := Fg.exm_ref qi_GlimError qt_GlimError qb_GlimError x_BadLine_GlimError
    m_BadWay_GlimError := Fg.exm_ref qi_GlimError qt_GlimError qb_GlimError x_BadWay_GlimError
    m_BadText_BadText := Fg.exm_ref qi_BadText qt_BadText qb_BadText x_BadText_BadText
    m_BadText_TooLong := Fg.exm_ref qi_TooLong qt_TooLong qb_TooLong x_BadText_TooLong
    m_TooLong_BadText := Fg.exm_ref qi_BadText qt_BadText qb_BadText x_TooLong_BadText
    m_TooLong_TooLong := Fg.exm_ref qi_TooLong qt_TooLong qb_TooLong x_TooLong_TooLong }
  refine ⟨PySem.W.fnOf "law" "law" (defArgs s_law) (defBody s_law) (defScope s_law) .none kV65 dc65 pm65 an65 cd65 ct65, fun s v => .of_eq rfl, fun base _ _ => ?_⟩
  exact ok_law_at F65 T
end K27
open PySem PySem.W PyProof.Rows
set_option maxRecDepth 100000 in
set_option maxHeartbeats 0 in
theorem PySem.Challenge.cw_falseglim_k27_way_lines_holds : PySem.Challenge.rw_falseglim_k27_way_lines.Holds := by
  w_on; o_law; k_head; (case hw => w_witness2)
  k_fill
  refine Fg.walk_g (l := PySem.Challenge.rw_falseglim_k27_way_lines) (n := 63) (k := 31) (x := "_law_script") (CX := fun _ => L2.CX0) (sp := fun w => Fg.sp1 (K27.p_law _)) rfl (by decide) rfl ⟨rfl, by decide, by decide⟩ (fun w h Y => PySem.W.kIn_of Y) ?F (fun _ _ a ns hl _ hS => ⟨.ref a, rfl, a, ns, rfl, hS, hl, fun _ => rfl⟩) (fun _ _ _ _ _ h => h)
  case F =>
    intro w mg fa h KX G hmg
    refine' K27.all_mk KX G hmg ?a1 ?l1 ?c1 ?k1 ?a2 ?l2 ?c2 ?k2 ?e2 ?a3 ?l3 ?c3 ?k3 ?a4 ?l4 ?c4 ?k4 ?a5 ?l5 ?c5 ?k5 ?a6 ?l6 ?c6 ?k6 ?a7 ?l7 ?c7 ?k7 ?a8 ?l8 ?c8 ?k8 ?a9 ?l9 ?c9 ?k9 ?a10 ?l10 ?c10 ?k10 ?a11 ?l11 ?c11 ?k11 ?a12 ?l12 ?c12 ?k12 ?a13 ?l13 ?c13 ?k13 ?a14 ?l14 ?c14 ?k14 ?a15 ?l15 ?c15 ?k15 ?a16 ?l16 ?c16 ?k16 ?a17 ?l17 ?c17 ?k17 ?a18 ?l18 ?c18 ?k18 ?a19 ?l19 ?c19 ?k19 ?a20 ?l20 ?c20 ?k20 ?a21 ?l21 ?c21 ?k21 ?a22 ?l22 ?c22 ?k22 ?a23 ?l23 ?c23 ?k23 ?a24 ?l24 ?c24 ?k24 ?a25 ?l25 ?c25 ?k25 ?a26 ?l26 ?c26 ?k26 ?a27 ?i27 ?l27 ?c27 ?k27 ?e27 ?a28 ?i28 ?l28 ?c28 ?k28 ?a29 ?i29 ?l29 ?c29 ?k29 ?a30 ?i30 ?l30 ?c30 ?k30 ?a31 ?i31 ?l31 ?c31 ?k31 ?a32 ?i32 ?l32 ?c32 ?k32 ?a33 ?i33 ?l33 ?c33 ?k33 ?a34 ?i34 ?l34 ?c34 ?k34 ?a35 ?i35 ?l35 ?c35 ?k35 ?a36 ?i36 ?l36 ?c36 ?k36 ?a37 ?l37 ?c37 ?k37 ?a38 ?l38 ?c38 ?k38 ?a39 ?l39 ?c39 ?k39 ?a40 ?l40 ?c40 ?k40 ?a41 ?l41 ?c41 ?k41 ?a42 ?l42 ?c42 ?k42 ?a43 ?l43 ?c43 ?k43 ?a44 ?l44 ?c44 ?k44 ?a45 ?l45 ?c45 ?k45 ?a46 ?l46 ?c46 ?k46 ?a47 ?l47 ?c47 ?k47 ?a48 ?l48 ?c48 ?k48 ?a49 ?l49 ?c49 ?k49 ?a50 ?l50 ?c50 ?k50 ?a51 ?l51 ?c51 ?k51 ?a52 ?l52 ?c52 ?k52 ?a53 ?l53 ?c53 ?k53 ?a54 ?l54 ?c54 ?k54 ?a55 ?l55 ?c55 ?k55 ?a56 ?l56 ?c56 ?k56 ?a57 ?l57 ?c57 ?k57 ?a58 ?l58 ?c58 ?k58 ?a59 ?l59 ?c59 ?k59 ?a60 ?l60 ?c60 ?k60 ?a61 ?l61 ?c61 ?k61 ?a62 ?l62 ?c62 ?k62 ?a63 ?l63 ?c63 ?k63 ?a64 ?l64 ?c64 ?k64 ?a65 ?l65 ?c65 ?k65 ?wpg_Lines ?whd_Lines ?wpo_Lines ?wsa_Lines ?wmk_Lines ?wkc_Lines ?wna_Lines_texts ?wna_Lines_now ?z_ValueError ?z_abs ?z_bool ?z_enumerate ?z_int ?z_isinstance ?z_len ?z_list ?z_max ?z_min ?z_range ?z_repr ?z_str ?z_sum ?z_tuple ?v_SIGNS ?v_MOST_LEVELS ?v_MOST_ROUND ?v_DIGITS_rhythmtext ?v_MOST_OPEN ?v_DIGITS_lines ?g_GlimError ?g_BadRound ?g_BadText ?g_BadLine ?g_BadWay ?g_TooLong ?g_Lines ?g_NUMBERED ?l_NUMBERED ?lo_NUMBERED ?xr_NUMBERED_0 ?lv_NUMBERED_0 ?xr_NUMBERED_1 ?lv_NUMBERED_1 ?xr_NUMBERED_2 ?lv_NUMBERED_2 ?xl_BadRound ?xr_BadRound ?xsa_BadRound ?xga_BadRound ?xgg_BadRound ?xnf_BadRound_number ?xi_BadRound ?xt_BadRound ?xf_BadRound ?xc_BadRound ?xkf_BadRound ?xk_BadRound ?xe_BadRound ?xty_BadRound ?xhd_BadRound ?xis_BadRound ?xca_BadRound ?xm_BadRound ?xl_BadText ?xr_BadText ?xsa_BadText ?xga_BadText ?xgg_BadText ?xnf_BadText_at ?xi_BadText ?xt_BadText ?xf_BadText ?xc_BadText ?xkf_BadText ?xk_BadText ?xe_BadText ?xty_BadText ?xhd_BadText ?xis_BadText ?xca_BadText ?xm_BadText ?xl_BadLine ?xr_BadLine ?xsa_BadLine ?xga_BadLine ?xgg_BadLine ?xnf_BadLine_line ?xnf_BadLine_word ?xi_BadLine ?xt_BadLine ?xf_BadLine ?xc_BadLine ?xkf_BadLine ?xk_BadLine ?xe_BadLine ?xty_BadLine ?xhd_BadLine ?xis_BadLine ?xca_BadLine ?xm_BadLine ?xl_BadWay ?xr_BadWay ?xsa_BadWay ?xga_BadWay ?xgg_BadWay ?xnf_BadWay_number ?xi_BadWay ?xt_BadWay ?xf_BadWay ?xc_BadWay ?xkf_BadWay ?xk_BadWay ?xe_BadWay ?xty_BadWay ?xhd_BadWay ?xis_BadWay ?xca_BadWay ?xm_BadWay ?xl_TooLong ?xr_TooLong ?xsa_TooLong ?xga_TooLong ?xgg_TooLong ?xnf_TooLong_number ?xi_TooLong ?xt_TooLong ?xf_TooLong ?xc_TooLong ?xkf_TooLong ?xk_TooLong ?xe_TooLong ?xty_TooLong ?xhd_TooLong ?xis_TooLong ?xca_TooLong ?xm_TooLong ?xsp ?xtk ?qi_BadLine ?qt_BadLine ?qs_BadLine ?qb_BadLine ?qi_BadText ?qt_BadText ?qs_BadText ?qb_BadText ?qi_BadWay ?qt_BadWay ?qs_BadWay ?qb_BadWay ?qi_GlimError ?qt_GlimError ?qs_GlimError ?qb_GlimError ?qi_TooLong ?qt_TooLong ?qs_TooLong ?qb_TooLong ?y_BadLine_BadLine ?y_BadLine_BadWay ?y_BadLine_ValueError ?y_BadWay_BadLine ?y_BadWay_BadWay ?y_BadWay_ValueError ?x_BadLine_GlimError ?x_BadWay_GlimError ?x_BadText_BadText ?x_BadText_TooLong ?x_TooLong_BadText ?x_TooLong_TooLong
    (case g_GlimError => k_is)
    (case g_BadRound => k_is)
    (case g_BadText => k_is)
    (case g_BadLine => k_is)
    (case g_BadWay => k_is)
    (case g_TooLong => k_is)
    (case g_Lines => k_is)
    (case g_NUMBERED => k_is)
    (case a1 => k_is)
    (case l1 => k_is)
    (case c1 => k_is)
    (case k1 => k_is)
    (case a2 => k_is)
    (case l2 => k_is)
    (case c2 => k_is)
    (case k2 => k_is)
    (case e2 => k_is)
    (case a3 => k_is)
    (case l3 => k_is)
    (case c3 => k_is)
    (case k3 => k_is)
    (case a4 => k_is)
    (case l4 => k_is)
    (case c4 => k_is)
    (case k4 => k_is)
    (case a5 => k_is)
    (case l5 => k_is)
    (case c5 => k_is)
    (case k5 => k_is)
    (case a6 => k_is)
    (case l6 => k_is)
    (case c6 => k_is)
    (case k6 => k_is)
    (case a7 => k_is)
    (case l7 => k_is)
    (case c7 => k_is)
    (case k7 => k_is)
    (case a8 => k_is)
    (case l8 => k_is)
    (case c8 => k_is)
    (case k8 => k_is)
    (case a9 => k_is)
    (case l9 => k_is)
    (case c9 => k_is)
    (case k9 => k_is)
    (case a10 => k_is)
    (case l10 => k_is)
    (case c10 => k_is)
    (case k10 => k_is)
    (case a11 => k_is)
    (case l11 => k_is)
    (case c11 => k_is)
    (case k11 => k_is)
    (case a12 => k_is)
    (case l12 => k_is)
    (case c12 => k_is)
    (case k12 => k_is)
    (case a13 => k_is)
    (case l13 => k_is)
    (case c13 => k_is)
    (case k13 => k_is)
    (case a14 => k_is)
    (case l14 => k_is)
    (case c14 => k_is)
    (case k14 => k_is)
    (case a15 => k_is)
    (case l15 => k_is)
    (case c15 => k_is)
    (case k15 => k_is)
    (case a16 => k_is)
    (case l16 => k_is)
    (case c16 => k_is)
    (case k16 => k_is)
    (case a17 => k_is)
    (case l17 => k_is)
    (case c17 => k_is)
    (case k17 => k_is)
    (case a18 => k_is)
    (case l18 => k_is)
    (case c18 => k_is)
    (case k18 => k_is)
    (case a19 => k_is)
    (case l19 => k_is)
    (case c19 => k_is)
    (case k19 => k_is)
    (case a20 => k_is)
    (case l20 => k_is)
    (case c20 => k_is)
    (case k20 => k_is)
    (case a21 => k_is)
    (case l21 => k_is)
    (case c21 => k_is)
    (case k21 => k_is)
    (case a22 => k_is)
    (case l22 => k_is)
    (case c22 => k_is)
    (case k22 => k_is)
    (case a23 => k_is)
    (case l23 => k_is)
    (case c23 => k_is)
    (case k23 => k_is)
    (case a24 => k_is)
    (case l24 => k_is)
    (case c24 => k_is)
    (case k24 => k_is)
    (case a25 => k_is)
    (case l25 => k_is)
    (case c25 => k_is)
    (case k25 => k_is)
    (case a26 => k_is)
    (case l26 => k_is)
    (case c26 => k_is)
    (case k26 => k_is)
    (case a27 => k_is)
    (case i27 => k_is)
    (case l27 => k_is)
    (case c27 => k_is)
    (case k27 => k_is)
    (case e27 => k_is)
    (case a28 => k_is)
    (case i28 => k_is)
    (case l28 => k_is)
    (case c28 => k_is)
    (case k28 => k_is)
    (case a29 => k_is)
    (case i29 => k_is)
    (case l29 => k_is)
    (case c29 => k_is)
    (case k29 => k_is)
    (case a30 => k_is)
    (case i30 => k_is)
    (case l30 => k_is)
    (case c30 => k_is)
    (case k30 => k_is)
    (case a31 => k_is)
    (case i31 => k_is)
    (case l31 => k_is)
    (case c31 => k_is)
    (case k31 => k_is)
    (case a32 => k_is)
    (case i32 => k_is)
    (case l32 => k_is)
    (case c32 => k_is)
    (case k32 => k_is)
    (case a33 => k_is)
    (case i33 => k_is)
    (case l33 => k_is)
    (case c33 => k_is)
    (case k33 => k_is)
    (case a34 => k_is)
    (case i34 => k_is)
    (case l34 => k_is)
    (case c34 => k_is)
    (case k34 => k_is)
    (case a35 => k_is)
    (case i35 => k_is)
    (case l35 => k_is)
    (case c35 => k_is)
    (case k35 => k_is)
    (case a36 => k_is)
    (case i36 => k_is)
    (case l36 => k_is)
    (case c36 => k_is)
    (case k36 => k_is)
    (case a37 => k_is)
    (case l37 => k_is)
    (case c37 => k_is)
    (case k37 => k_is)
    (case a38 => k_is)
    (case l38 => k_is)
    (case c38 => k_is)
    (case k38 => k_is)
    (case a39 => k_is)
    (case l39 => k_is)
    (case c39 => k_is)
    (case k39 => k_is)
    (case a40 => k_is)
    (case l40 => k_is)
    (case c40 => k_is)
    (case k40 => k_is)
    (case a41 => k_is)
    (case l41 => k_is)
    (case c41 => k_is)
    (case k41 => k_is)
    (case a42 => k_is)
    (case l42 => k_is)
    (case c42 => k_is)
    (case k42 => k_is)
    (case a43 => k_is)
    (case l43 => k_is)
    (case c43 => k_is)
    (case k43 => k_is)
    (case a44 => k_is)
    (case l44 => k_is)
    (case c44 => k_is)
    (case k44 => k_is)
    (case a45 => k_is)
    (case l45 => k_is)
    (case c45 => k_is)
    (case k45 => k_is)
    (case a46 => k_is)
    (case l46 => k_is)
    (case c46 => k_is)
    (case k46 => k_is)
    (case a47 => k_is)
    (case l47 => k_is)
    (case c47 => k_is)
    (case k47 => k_is)
    (case a48 => k_is)
    (case l48 => k_is)
    (case c48 => k_is)
    (case k48 => k_is)
    (case a49 => k_is)
    (case l49 => k_is)
    (case c49 => k_is)
    (case k49 => k_is)
    (case a50 => k_is)
    (case l50 => k_is)
    (case c50 => k_is)
    (case k50 => k_is)
    (case a51 => k_is)
    (case l51 => k_is)
    (case c51 => k_is)
    (case k51 => k_is)
    (case a52 => k_is)
    (case l52 => k_is)
    (case c52 => k_is)
    (case k52 => k_is)
    (case a53 => k_is)
    (case l53 => k_is)
    (case c53 => k_is)
    (case k53 => k_is)
    (case a54 => k_is)
    (case l54 => k_is)
    (case c54 => k_is)
    (case k54 => k_is)
    (case a55 => k_is)
    (case l55 => k_is)
    (case c55 => k_is)
    (case k55 => k_is)
    (case a56 => k_is)
    (case l56 => k_is)
    (case c56 => k_is)
    (case k56 => k_is)
    (case a57 => k_is)
    (case l57 => k_is)
    (case c57 => k_is)
    (case k57 => k_is)
    (case a58 => k_is)
    (case l58 => k_is)
    (case c58 => k_is)
    (case k58 => k_is)
    (case a59 => k_is)
    (case l59 => k_is)
    (case c59 => k_is)
    (case k59 => k_is)
    (case a60 => k_is)
    (case l60 => k_is)
    (case c60 => k_is)
    (case k60 => k_is)
    (case a61 => k_is)
    (case l61 => k_is)
    (case c61 => k_is)
    (case k61 => k_is)
    (case a62 => k_is)
    (case l62 => k_is)
    (case c62 => k_is)
    (case k62 => k_is)
    (case a63 => k_is)
    (case l63 => k_is)
    (case c63 => k_is)
    (case k63 => k_is)
    (case a64 => k_is)
    (case l64 => k_is)
    (case c64 => k_is)
    (case k64 => k_is)
    (case a65 => k_is)
    (case l65 => k_is)
    (case c65 => k_is)
    (case k65 => k_is)
    (case wpg_Lines => k_is)
    (case whd_Lines => k_is)
    (case wpo_Lines => k_is)
    (case wsa_Lines => k_is)
    (case wmk_Lines => k_is)
    (case wkc_Lines => k_is)
    (case wna_Lines_texts => k_is)
    (case wna_Lines_now => k_is)
    (case z_ValueError => k_is)
    (case z_abs => k_is)
    (case z_bool => k_is)
    (case z_enumerate => k_is)
    (case z_int => k_is)
    (case z_isinstance => k_is)
    (case z_len => k_is)
    (case z_list => k_is)
    (case z_max => k_is)
    (case z_min => k_is)
    (case z_range => k_is)
    (case z_repr => k_is)
    (case z_str => k_is)
    (case z_sum => k_is)
    (case z_tuple => k_is)
    (case v_SIGNS => k_is)
    (case v_MOST_LEVELS => k_is)
    (case v_MOST_ROUND => k_is)
    (case v_DIGITS_rhythmtext => k_is)
    (case v_MOST_OPEN => k_is)
    (case v_DIGITS_lines => k_is)
    (case l_NUMBERED => k_is)
    (case lo_NUMBERED => first | rfl | decide +kernel)
    (case xr_NUMBERED_0 => first | rfl | k_is | decide +kernel)
    (case lv_NUMBERED_0 => k_is)
    (case xr_NUMBERED_1 => first | rfl | k_is | decide +kernel)
    (case lv_NUMBERED_1 => k_is)
    (case xr_NUMBERED_2 => first | rfl | k_is | decide +kernel)
    (case lv_NUMBERED_2 => k_is)
    (case xl_BadRound => k_is)
    (case xr_BadRound => first | rfl | k_is | decide +kernel)
    (case xsa_BadRound => k_is)
    (case xga_BadRound => k_is)
    (case xgg_BadRound => k_is)
    (case xnf_BadRound_number => k_is)
    (case xi_BadRound => k_is)
    (case xt_BadRound => k_is)
    (case xf_BadRound => k_is)
    (case xc_BadRound => k_is)
    (case xkf_BadRound => k_is)
    (case xk_BadRound => k_is)
    (case xe_BadRound => k_is)
    (case xty_BadRound => k_is)
    (case xhd_BadRound => k_is)
    (case xis_BadRound => k_is)
    (case xca_BadRound => k_is)
    (case xm_BadRound => k_is)
    (case xl_BadText => k_is)
    (case xr_BadText => first | rfl | k_is | decide +kernel)
    (case xsa_BadText => k_is)
    (case xga_BadText => k_is)
    (case xgg_BadText => k_is)
    (case xnf_BadText_at => k_is)
    (case xi_BadText => k_is)
    (case xt_BadText => k_is)
    (case xf_BadText => k_is)
    (case xc_BadText => k_is)
    (case xkf_BadText => k_is)
    (case xk_BadText => k_is)
    (case xe_BadText => k_is)
    (case xty_BadText => k_is)
    (case xhd_BadText => k_is)
    (case xis_BadText => k_is)
    (case xca_BadText => k_is)
    (case xm_BadText => k_is)
    (case xl_BadLine => k_is)
    (case xr_BadLine => first | rfl | k_is | decide +kernel)
    (case xsa_BadLine => k_is)
    (case xga_BadLine => k_is)
    (case xgg_BadLine => k_is)
    (case xnf_BadLine_line => k_is)
    (case xnf_BadLine_word => k_is)
    (case xi_BadLine => k_is)
    (case xt_BadLine => k_is)
    (case xf_BadLine => k_is)
    (case xc_BadLine => k_is)
    (case xkf_BadLine => k_is)
    (case xk_BadLine => k_is)
    (case xe_BadLine => k_is)
    (case xty_BadLine => k_is)
    (case xhd_BadLine => k_is)
    (case xis_BadLine => k_is)
    (case xca_BadLine => k_is)
    (case xm_BadLine => k_is)
    (case xl_BadWay => k_is)
    (case xr_BadWay => first | rfl | k_is | decide +kernel)
    (case xsa_BadWay => k_is)
    (case xga_BadWay => k_is)
    (case xgg_BadWay => k_is)
    (case xnf_BadWay_number => k_is)
    (case xi_BadWay => k_is)
    (case xt_BadWay => k_is)
    (case xf_BadWay => k_is)
    (case xc_BadWay => k_is)
    (case xkf_BadWay => k_is)
    (case xk_BadWay => k_is)
    (case xe_BadWay => k_is)
    (case xty_BadWay => k_is)
    (case xhd_BadWay => k_is)
    (case xis_BadWay => k_is)
    (case xca_BadWay => k_is)
    (case xm_BadWay => k_is)
    (case xl_TooLong => k_is)
    (case xr_TooLong => first | rfl | k_is | decide +kernel)
    (case xsa_TooLong => k_is)
    (case xga_TooLong => k_is)
    (case xgg_TooLong => k_is)
    (case xnf_TooLong_number => k_is)
    (case xi_TooLong => k_is)
    (case xt_TooLong => k_is)
    (case xf_TooLong => k_is)
    (case xc_TooLong => k_is)
    (case xkf_TooLong => k_is)
    (case xk_TooLong => k_is)
    (case xe_TooLong => k_is)
    (case xty_TooLong => k_is)
    (case xhd_TooLong => k_is)
    (case xis_TooLong => k_is)
    (case xca_TooLong => k_is)
    (case xm_TooLong => k_is)
    (case xsp => k_is)
    (case xtk => k_is)
    (case qi_BadLine => k_is)
    (case qt_BadLine => k_is)
    (case qs_BadLine => k_is)
    (case qb_BadLine => k_is)
    (case qi_BadText => k_is)
    (case qt_BadText => k_is)
    (case qs_BadText => k_is)
    (case qb_BadText => k_is)
    (case qi_BadWay => k_is)
    (case qt_BadWay => k_is)
    (case qs_BadWay => k_is)
    (case qb_BadWay => k_is)
    (case qi_GlimError => k_is)
    (case qt_GlimError => k_is)
    (case qs_GlimError => k_is)
    (case qb_GlimError => k_is)
    (case qi_TooLong => k_is)
    (case qt_TooLong => k_is)
    (case qs_TooLong => k_is)
    (case qb_TooLong => k_is)
    (case y_BadLine_BadLine => k_is)
    (case y_BadLine_BadWay => k_is)
    (case y_BadLine_ValueError => k_is)
    (case y_BadWay_BadLine => k_is)
    (case y_BadWay_BadWay => k_is)
    (case y_BadWay_ValueError => k_is)
    (case x_BadLine_GlimError => k_is)
    (case x_BadWay_GlimError => k_is)
    (case x_BadText_BadText => k_is)
    (case x_BadText_TooLong => k_is)
    (case x_TooLong_BadText => k_is)
    (case x_TooLong_TooLong => k_is)
