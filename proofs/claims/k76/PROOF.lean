import PyProof.Rows.All
import Wide.All
import OpenK.AllK
import Wide.FinOn
import HandS.ForMost
import HandS.Exc
import HandS.ExcOwn
import HandS.WordsExc
import HandS.TryOnly
import HandS.ExcInit
import HandS.ExcField
import HandS.ExcIs
import HandS.IsInst
import HandS.TryMany
import HandS.Wide
import HandS.Steps
import HandS.TupAny
import HandS.Walk
import HandS.Evl
import KE.GoesEnum
import KE.KExcIs
import HandS.Conv
import HandS.Defaults
import HandS.Deep
import HandS.Replace
import HandS.ReplaceLit
import HandS.RaiseMore
import PyProof.ReprBulk
import HandS.IterVal
import HandS.Property
import HandS.Star
import HandS.OwnIter
import HandS.HotCalls
import HandS.Flow
import HandS.More
import HandS.SortInts
import PyProof.RowDictHeap
import PyProof.EnumMake
import KE.GoesMore
import HandS.RaiseFrom
import HandS.ExcInitHot
import HandS.SuiteRaise
import HandS.Finally
import HandS.ExcCtx
import HandS.Codes
import HandS.StrMore
import PyProof.DictUpdate
import HandS.TupLe
import HandS.SortKw
import KE.KMinKey
import PyProof.Rows.StrSplitCount
import PyProof.FitsStr
import PyProof.ReprReads
import KE.KRevSl
import HandS.Iter
import PySem.Challenge.RW_falseglim_k76_signal_lines
set_option Elab.async false
set_option linter.all false
set_option maxRecDepth 100000
set_option maxHeartbeats 4000000
set_option pp.maxSteps 800
set_option pp.maxSteps 600
namespace Fg
open PySem PySem.Spec PyProof.Rows L2

/-- a text by its signs -/
def S (l : List Nat) : V := .str ⟨l.toArray⟩
theorem S_inj {l m : List Nat} : S l = S m ↔ l = m := by
  constructor
  · intro h
    have h1 := V.str.inj h
    have h2 := congrArg PySem.Str.cps h1
    exact List.toArray_inj h2
  · rintro rfl; rfl
theorem S_dec {l m : List Nat} : decide (S l = S m) = decide (l = m) := by
  rw [Bool.eq_iff_iff]; simp [S_inj]
theorem str_len (l : List Nat) : (⟨l.toArray⟩ : Str).length = l.length := by
  show l.toArray.size = l.length
  simp
theorem pe_S {X : Cx} {x : Str} {j : Nat} {pos : Pos} (l : List Nat) (h : x = ⟨l.toArray⟩ := by decide +kernel) : PE X (.Constant (.str x) j pos) (tC (S l)) := by
  subst h
  exact pe_str

def or2 (r r' : R2) : R2 := fun x y H Q => r x y H Q ∨ r' x y H Q
theorem or2_op {X : Cx} {f : Value → Value → Sem Value} {r r' : R2} (h : OpR X f r) (h' : OpR X f r') : OpR X f (or2 r r') := by
  intro pins s σ H x y v u Q I rx ry q
  rcases q with q | q
  · exact h pins s σ H x y v u Q I rx ry q
  · exact h' pins s σ H x y v u Q I rx ry q
theorem or2_ix {X : Cx} {r r' : R2} (h : IxR X r) (h' : IxR X r') : IxR X (or2 r r') := by
  intro value slice pins s σ H x y v u Q I rx ry q hs
  rcases q with q | q
  · exact h value slice pins s σ H x y v u Q I rx ry q hs
  · exact h' value slice pins s σ H x y v u Q I rx ry q hs
abbrev RC := List V → Hp → VK → Prop
abbrev RS := V → Option Int → Option Int → Hp → VK → Prop
def orS (r r' : RS) : RS := fun x lo hi H Q => r x lo hi H Q ∨ r' x lo hi H Q
theorem orS_sl {X : Cx} {r r' : RS} (h : SlR X r) (h' : SlR X r') : SlR X (orS r r') := by
  intro pins s σ H x v vl vu lo hi sl Q I rx hs pl pu q
  rcases q with q | q
  · exact h pins s σ H x v vl vu lo hi sl Q I rx hs pl pu q
  · exact h' pins s σ H x v vl vu lo hi sl Q I rx hs pl pu q

def rAddI : R2 := rI0 fun i j => .int (i + j)
def rAddT : R2 := fun x y H Q => ∃ i j, x = .str i ∧ y = .str j ∧ i.length + j.length ≤ sizeLine ∧ Q (.str (i ++ j)) H
def addP (K : PySem.W.Frag) : R2 := or2 rAddI (or2 rAddT (or2 rCat (rCatA K)))
theorem op_addP {X : Cx} : OpR X (binaryOp .Add) (addP X.K) := or2_op op_add (or2_op op_add_str (or2_op op_cat op_catA))
def subP : R2 := rI0 fun i j => .int (i - j)
theorem op_subP {X : Cx} : OpR X (binaryOp .Sub) subP := op_sub
/-- a text so many times -/
def rRepS : R2 := fun x y H Q => ∃ (l : List Nat) (n : Nat), x = S l ∧ y = .int (n : Int) ∧ l.length * n ≤ 100000 ∧ n ≤ 100000 ∧ Q (S (List.replicate n l).flatten) H
theorem foldl_app (l : List Nat) : ∀ (n : Nat) (acc : List Nat), (List.replicate n l.toArray).foldl (· ++ ·) acc.toArray = (acc ++ (List.replicate n l).flatten).toArray
  | 0, acc => by simp
  | n + 1, acc => by
    rw [List.replicate_succ, List.foldl_cons, List.append_toArray, foldl_app l n (acc ++ l), List.replicate_succ, List.flatten_cons, List.append_assoc]
theorem op_repS {X : Cx} : OpR X (binaryOp .Mult) rRepS := by
  intro pins s σ H x y v u Q I rx ry h
  obtain ⟨l, n, rfl, rfl, hz, hn, q⟩ := h
  obtain ⟨t, rfl⟩ := rx
  obtain ⟨t', rfl⟩ := ry
  have hl := str_len l
  have hs : sizeLine = 16777216 := sizeLine_eq
  refine PySem.P.mul_str ?_ (fun h1 h2 => ?_) (fun h1 h2 => ?_) ?_
  · rw [decide_eq_false (by omega), decide_eq_false (by omega)]; rfl
  · rw [hl]
    have hn0 : (0 : Int) < (n : Int) := by omega
    have : ((l.length : Int)) ≤ (2 ^ 63 - 1) / (n : Int) := by
      rw [Int.le_ediv_iff_mul_le hn0]
      have : ((l.length * n : Nat) : Int) ≤ 100000 := by omega
      rw [Int.natCast_mul] at this
      omega
    omega
  · rw [hl, Int.toNat_natCast]
    unfold PySem.Builtin.Str.tooLong
    rw [decide_eq_false]
    omega
  · by_cases h1 : (n : Int) < 1
    · rw [if_pos h1]
      have e : n = 0 := by omega
      subst e
      exact ⟨by decide, S [], H, I.tok _, ⟨_, rfl⟩, by simpa using q⟩
    · rw [if_neg h1]
      by_cases h2 : ((n : Int) == 1 || (⟨l.toArray⟩ : Str).length == 0) = true
      · rw [if_pos h2]
        have e : (List.replicate n l).flatten = l := by
          rw [hl, Bool.or_eq_true, beq_iff_eq, beq_iff_eq] at h2
          rcases h2 with h2 | h2
          · have e : n = 1 := by omega
            subst e; simp
          · have e : l = [] := List.length_eq_zero_iff.mp h2
            subst e; simp
        rw [e] at q
        exact ⟨S l, H, I, ⟨_, rfl⟩, q⟩
      · rw [if_neg h2]
        have e : (⟨(List.replicate ((n : Int)).toNat l.toArray).foldl (· ++ ·) #[]⟩ : Str) = ⟨((List.replicate n l).flatten).toArray⟩ := by
          rw [Int.toNat_natCast]
          have := foldl_app l n []
          simpa using this
        refine ⟨?_, S (List.replicate n l).flatten, H, I.tok _, ⟨_, by rw [e]⟩, q⟩
        rw [e, str_len]
        simp only [List.length_flatten, List.map_replicate, List.sum_replicate_nat]
        rw [Nat.mul_comm]
        omega
def rMulI : R2 := rI (fun i j => IntMulOk i j) fun i j => .int (i * j)
theorem op_mulI {X : Cx} : OpR X (binaryOp .Mult) rMulI := opI fun _ _ _ _ _ _ _ hc q => mul_int q hc
def mulP : R2 := or2 rMulI (or2 rRepS rRep)
theorem op_mulP {X : Cx} : OpR X (binaryOp .Mult) mulP := or2_op op_mulI (or2_op op_repS op_rep)
def modP : R2 := rI (fun _ j => 0 < j) fun i j => .int (i % j)
theorem op_modP {X : Cx} : OpR X (binaryOp .Mod) modP := op_mod
def fdivP : R2 := rI CDivW fun i j => .int (i / j)
theorem op_fdivP {X : Cx} : OpR X (binaryOp .FloorDiv) fdivP := op_fdivW
/-- i ** j, the result below some hundred million bits -/
def powP : R2 := rI (fun i j => 0 ≤ j ∧ (Builtin.Int.intBits i : Int) * j ≤ 2 ^ 27) fun i j => .int (i ^ j.toNat)
theorem op_powP {X : Cx} : OpR X (binaryOp .Pow) powP := opI fun _ _ _ _ _ _ _ hc q => pow_int hc.1 hc.2 q
def eqP (K : PySem.W.Frag) : R2 := or2 rEq (rEqD K)
theorem op_eqP {X : Cx} (hu : X.A.units + 64 < cLine) : OpR X (compareOp .Eq) (eqP X.K) := or2_op op_eq (op_eqD hu)
def neP (K : PySem.W.Frag) : R2 := or2 rNe (rNeD K)
theorem op_neP {X : Cx} (hu : X.A.units + 64 < cLine) : OpR X (compareOp .NotEq) (neP X.K) := or2_op op_ne (op_neD hu)
def ltP : R2 := or2 (rI0 fun i j => .bl (decide (i < j))) fun x y H Q => ∃ i j, x = .str i ∧ y = .str j ∧ Q (.bl (decide (i.cps.toList < j.cps.toList))) H
theorem op_ltP {X : Cx} : OpR X (compareOp .Lt) ltP := or2_op op_lt op_lt_str
def leP : R2 := rI0 fun i j => .bl (decide (i ≤ j))
theorem op_leP {X : Cx} : OpR X (compareOp .LtE) leP := op_le
def gtP : R2 := rI0 fun i j => .bl (decide (j < i))
theorem op_gtP {X : Cx} : OpR X (compareOp .Gt) gtP := op_gt
def geP : R2 := rI0 fun i j => .bl (decide (j ≤ i))
theorem op_geP {X : Cx} : OpR X (compareOp .GtE) geP := op_ge
def isP : R2 := fun x y H Q => y = .non ∧ Q (.bl (decide (x = .non))) H
theorem op_isP {X : Cx} : OpR X (compareOp .Is) isP := op_isN
def isNotP : R2 := fun x y H Q => y = .non ∧ Q (.bl (!decide (x = .non))) H
theorem op_isNotP {X : Cx} : OpR X (compareOp .IsNot) isNotP := op_notN
def rInSg : R2 := fun x y H Q => ∃ (c : Nat) (z : Str), x = .str ⟨#[c]⟩ ∧ y = .str z ∧ Q (.bl (decide (c ∈ z.cps.toList))) H
def rNotInSg : R2 := fun x y H Q => ∃ (c : Nat) (z : Str), x = .str ⟨#[c]⟩ ∧ y = .str z ∧ Q (.bl (!decide (c ∈ z.cps.toList))) H
def inP (K : PySem.W.Frag) : R2 := or2 rInSg (rIn K false)
theorem op_inP {X : Cx} : OpR X (compareOp .In) (inP X.K) := or2_op op_in_sign op_in_seq
def notInP (K : PySem.W.Frag) : R2 := or2 rNotInSg (rIn K true)
theorem op_notInP {X : Cx} : OpR X (compareOp .NotIn) (notInP X.K) := or2_op op_notIn_sign op_notIn_seq
def ixP (K : PySem.W.Frag) : R2 := or2 (rIxL K) (or2 (rIxT K) rIxS)
theorem ix_P {X : Cx} : IxR X (ixP X.K) := or2_ix ix_list (or2_ix ix_tup ix_str)
def slP (K : PySem.W.Frag) : RS := orS (rSlL K) (orS (rSlA K) rSlS)
theorem sl_P {X : Cx} : SlR X (slP X.K) := orS_sl sl_list (orS_sl sl_tupA sl_str)
def iAny (K : PySem.W.Frag) (te : TE) : TI := fun σ H R => te σ H fun x H1 => (∃ a xs, x = .ref a ∧ SqL K H1 a xs ∧ R (Itl K a) H1) ∨ (∃ a xs, x = .ref a ∧ SqT K H1 a xs ∧ R (Itt K a) H1) ∨ (∃ z, x = .str z ∧ R (Its z) H1)
section
variable {X : Cx} {tg e : Expr} {te : TE}
theorem pi_any (he : PE X e te) : PI X tg e (iAny X.K te) := by
  refine ⟨fun pins s σ H R I h => thn (he.run pins s σ H _ I h) fun v s1 ⟨x, H1, J, r1, q1⟩ => ?_⟩
  rcases q1 with ⟨a, xs, rfl, hq, q⟩ | ⟨a, xs, rfl, hq, q⟩ | ⟨z, rfl, q⟩
  · cases r1
    obtain ⟨its, rv, pl, hz⟩ := J.list hq
    exact wpAny_pyIter_list pl.isList (pi_one (tk := s1.toks) J _ (turn_list a _) ⟨_, Heap.get?_push_size _ rfl, rfl, rfl⟩ q)
  · cases r1
    obtain ⟨its, rv, pl, hz⟩ := J.tuple hq
    exact wpAny_pyIter_tuple (show s1.heap.IsTuple a its.toArray from pl) (pi_one (tk := s1.toks) J _ (turn_tuple a _) ⟨_, Heap.get?_push_size _ rfl, rfl, rfl⟩ q)
  · obtain ⟨t, rfl⟩ := r1
    cases hw : z.cps.all (· < 128)
    · exact wpAny_pyIter_wide hw (pi_one (tk := s1.toks) J _ (turn_str _ z t "str_iterator" (.inr rfl)) ⟨_, Heap.get?_push_size _ rfl, rfl, rfl⟩ q)
    · exact wpAny_pyIter_ascii hw (pi_one (tk := s1.toks) J _ (turn_str _ z t "str_ascii_iterator" (.inl rfl)) ⟨_, Heap.get?_push_size _ rfl, rfl, rfl⟩ q)
end
/-- the signs of z, each in a new pair with its place -/
def Ites (z : Str) : It :=
  ⟨fun i _ => i < z.cps.size, fun i H v H' => ∃ T c, v = .ref T ∧ H T = none ∧ H' = upd H T (.tup [.int (i : Nat), .str ⟨#[c]⟩]) ∧ z.cps[i]? = some c, fun i _ => i = z.cps.size⟩
theorem turn_enumS {P : Program} {w : World} {K : PySem.W.Frag} {elts : List Expr} {kk : Nat} {tpos : Pos} (z : Str) (t : Tok) (e it : Addr) :
    Turn P w K (.Tuple elts kk tpos) (Ites z) [e, it] e (fun i h => (∃ old, IsEnum h e it ((i : Nat) : Int) old) ∧ h.IsStrIter it (strIterType z) z t i ∧ e ≠ it) where
  mem := List.mem_cons_self ..
  obj := fun i h st b hb => by
    obtain ⟨⟨old, hE⟩, ⟨o, hO, hC, hD⟩, _⟩ := st
    rcases List.mem_cons.mp hb with rfl | hb
    · exact ⟨_, hE, fun v q => nomatch q⟩
    · rw [List.mem_singleton.mp hb]
      exact ⟨o, hO, fun v q => by rw [hD] at q; cases q⟩
  keep := fun i h h' st k => by
    obtain ⟨⟨old, hE⟩, ⟨o, hO, r⟩, hne⟩ := st
    exact ⟨⟨old, k e (by simp) _ hE⟩, ⟨o, k it (by simp) _ hO, r⟩, hne⟩
  item := by
    intro X hP hW hK hc i pins s σ H E I hf st hg
    subst hP hW hK
    obtain ⟨⟨old, hE⟩, hS, hne⟩ := st
    have le : e < s.heap.objs.size := Heap.lt_size hE
    have li : it < s.heap.objs.size := by obtain ⟨_, q, _⟩ := hS; exact Heap.lt_size q
    have D := Draws.text (prog := X.prog) (w := X.w) (A := X.A.in1) (I.ok.hd hc) it z t
    refine wpAny_pyNext_enum_itemC D hE hS hg hne (by simp [hne]) fun x h' tk hx hO hS' hT hsz hk => ?_
    obtain ⟨c, u, hcx, rfl⟩ := hx
    refine ⟨_, rfl, wpAny_letOwnedTupleGo_enum (s := { s with heap := h', toks := tk + 1 }) hO fun h2 hE2 sb => ?_⟩
    have T2 : h2.get? s.heap.objs.size = some { cls := .type "tuple", data := .seq #[.int i tk, .str ⟨#[c]⟩ u] } := (sb.2 _ (Nat.ne_of_gt le)).trans hT
    have new : ObjOk X.prog X.w (upd H s.heap.objs.size (.tup [.int (i : Nat), .str ⟨#[c]⟩])) h2 s.heap.objs.size (.tup [.int (i : Nat), .str ⟨#[c]⟩]) :=
      ⟨by show 2 ≤ sizeLine; decide, [.int i tk, .str ⟨#[c]⟩ u], .cons ⟨_, rfl⟩ (.cons ⟨_, rfl⟩ .nil), ⟨_, T2, rfl, _, rfl⟩⟩
    have J : Inv X pins σ (upd H s.heap.objs.size (.tup [.int (i : Nat), .str ⟨#[c]⟩])) { s with heap := h2, toks := tk + 1 } :=
      I.turnedNew (ch := [e, it]) (fun b ob hb q => (sb.2 b (fun y => hb (by simp [y]))).trans (hk b ob (fun y => hb (by simp [y])) (fun y => hb (by simp [y])) q)) hf (Nat.le_refl _) new
    refine ⟨.ref s.heap.objs.size, _, J, rfl, ⟨_, c, rfl, I.hok.fresh (Nat.le_refl _), rfl, hcx⟩, ⟨⟨.str ⟨#[c]⟩ u, ?_⟩, ?_, hne⟩, fun b hb => ?_⟩
    · have e1 : ((i + 1 : Nat) : Int) = (i : Int) + 1 := by omega
      rw [e1]
      exact hE2
    · obtain ⟨o, ho, r⟩ := hS'
      exact ⟨o, (sb.2 it (Ne.symm hne)).trans ho, r⟩
    · have lb : b < s.heap.objs.size := by
        rcases List.mem_cons.mp hb with rfl | hb
        · exact le
        · rw [List.mem_singleton.mp hb]; exact li
      rw [upd_ne (Nat.ne_of_lt lb)]
      exact (hf b hb).1
  done := by
    intro X hP hW hK hc i pins s σ H E I hf st hg
    subst hP hW hK
    obtain ⟨⟨old, hE⟩, hS, hne⟩ := st
    obtain ⟨f0, f1, f2, f3, f4, f5⟩ := hf it (by simp)
    have D := Draws.text (prog := X.prog) (w := X.w) (A := X.A.in1) (I.ok.hd hc) it z t
    have hg' : i = z.cps.size := hg
    subst hg'
    exact wpAny_pyNext_enum_endD D hE hS fun h' eb => ⟨rfl, I.turned (t' := s.toks) (fun b o hb q => eb b o hb q) f0 f1 f3 f4 f5⟩
  self := fun A i s Q E st h => by
    obtain ⟨⟨_, hE⟩, _⟩ := st
    exact wpAny_pyIter_enum hE h
def iEnumP (K : PySem.W.Frag) (ta : TA) : TI := fun σ H R => ta σ H fun vs H1 => (∃ a xs, vs = [.ref a] ∧ SqL K H1 a xs ∧ R (Ite K a) H1) ∨ (∃ z, vs = [.str z] ∧ R (Ites z) H1)
theorem pi_enumP {X : Cx} {e : Expr} {ta : TA} {p pos tpos : Pos} {elts : List Expr} {kk : Nat} (hg : Gl X "enumerate") (hm : X.mg "enumerate" = none) (ha : PA X [e] ta) (hs : starEach [e] X.env = [(false, eval e X.env)] := by rfl) :
    PI X (.Tuple elts kk tpos) (.Call (.Name "enumerate" p) [e] [] pos) (iEnumP X.K ta) := by
  refine ⟨fun pins s σ H R I h => Call_ (ld_blt I hg hm boot_enumerate (PyProof.Rows.callWith_type1 (thn (ha.run pos pins s σ H _ I h) fun us s1 ⟨vs, H1, J, r1, q1⟩ => ?_) hs rfl))⟩
  have far : ∀ b ∈ [s1.heap.objs.size + 1, s1.heap.objs.size], s1.heap.objs.size ≤ b := fun b hb => by
    rcases List.mem_cons.mp hb with rfl | hb
    · exact Nat.le_succ _
    · rw [List.mem_singleton.mp hb]; exact Nat.le_refl _
  rcases q1 with ⟨a, xs, rfl, hq, q⟩ | ⟨z, rfl, q⟩
  · cases r1 with
    | cons r rr =>
      cases rr
      cases r
      obtain ⟨its, rv, pl, hz⟩ := J.list hq
      refine call_enumerate_list pl.isList fun h' hE hit hsz hk => wpAny_pyIter_enum hE ?_
      have J2 : Inv X pins σ H1 { s1 with heap := h' } := J.kept (t' := s1.toks) hk
      exact ⟨_, _, _, _, H1, rfl, J2, turn_enum a (s1.heap.objs.size + 1) s1.heap.objs.size, ⟨⟨.none, hE⟩, hit, Nat.succ_ne_self _⟩, fun b hb => J.fpOk (far b hb) (J.hok.fresh (far b hb)), q⟩
  · cases r1 with
    | cons r rr =>
      cases rr
      obtain ⟨t, rfl⟩ := r
      refine call_enumerate_str fun h' hE hit hsz hk => wpAny_pyIter_enum hE ?_
      have J2 : Inv X pins σ H1 { s1 with heap := h' } := J.kept (t' := s1.toks) hk
      exact ⟨_, _, _, _, H1, rfl, J2, turn_enumS z t (s1.heap.objs.size + 1) s1.heap.objs.size, ⟨⟨.none, hE⟩, hit, Nat.succ_ne_self _⟩, fun b hb => J.fpOk (far b hb) (J.hok.fresh (far b hb)), q⟩
end Fg
namespace Fg
open PySem PySem.Spec PyProof.Rows L2
section
variable {K : PySem.W.Frag} {σ : L2.St} {H : Hp} {Q : VK} {D : Ends} {ta tb tc te : TE} {t u : TT} {i j : Nat} {v x y : V} {tr tq : TS} {QB : Bool → Hp → Prop} {QL : List V → Hp → Prop} {Qs : L2.St → Hp → Prop} {tl : TA}
theorem i_var (h : σ[i]? = some (some v)) (q : Q v H) : tVar i σ H Q := ⟨v, h, q⟩
theorem i_c (q : Q v H) : tC v σ H Q := q
theorem i_seq (q : tr { D with nx := tq D } σ H) : tSeq tr tq D σ H := q
theorem i_next (q : D.nx σ H) : tNext D σ H := q
theorem i_asg {g : TG} (q : te σ H fun x H1 => g x σ H1 D.nx) : tAsg te g D σ H := q
theorem i_gname' {σ' : L2.St} (e : σ.set i (some v) = σ') (q : Qs σ' H) : gName i v σ H Qs := by
  subst e; exact q
theorem i_ret (q : te σ H D.rt) : tRet te D σ H := q
theorem i_retN (q : D.rt .non H) : tRetN D σ H := q
theorem i_drop (q : te σ H fun _ H1 => D.nx σ H1) : tDrop te D σ H := q
theorem i_ifS (q : t σ H fun b H1 => if b = true then tr D σ H1 else tq D σ H1) : tIfS t tr tq D σ H := q
theorem i_test (q : te σ H fun x H' => ∃ k, x = .bl k ∧ QB k H') : tTest te σ H QB := q
theorem i_B (q : te σ H fun x H' => ∃ k, x = .bl k ∧ QB k H') : tB te σ H QB := q
theorem i_exbl {P : Bool → Prop} {b : Bool} (q : P b) : ∃ k, V.bl b = .bl k ∧ P k := ⟨b, rfl, q⟩
theorem i_and (q : t σ H fun c H1 => if c = true then u σ H1 QB else QB false H1) : tAnd t u σ H QB := q
theorem i_or (q : t σ H fun c H1 => if c = true then QB true H1 else u σ H1 QB) : tOr t u σ H QB := q
theorem i_not (q : t σ H fun c H1 => QB (!c) H1) : tNot t σ H QB := q
theorem i_andV (q : ta σ H fun x H1 => ∃ c, x = .bl c ∧ if c = true then tb σ H1 Q else Q (.bl false) H1) : tAndV ta tb σ H Q := q
theorem i_orV (q : ta σ H fun x H1 => ∃ c, x = .bl c ∧ if c = true then Q (.bl true) H1 else tb σ H1 Q) : tOrV ta tb σ H Q := q
theorem i_notV (q : ta σ H fun x H1 => ∃ c, x = .bl c ∧ Q (.bl (!c)) H1) : tNotV ta σ H Q := q
theorem i_ifE (q : t σ H fun c H1 => if c = true then ta σ H1 Q else tb σ H1 Q) : tIf t ta tb σ H Q := q
theorem i_op {r : R2} (q : ta σ H fun x H1 => tb σ H1 fun y H2 => r x y H2 Q) : tOp r ta tb σ H Q := q
theorem i_un {r : V → Hp → VK → Prop} (q : ta σ H fun x H1 => r x H1 Q) : tUn r ta σ H Q := q
theorem i_neg {k : Int} (q : Q (.int (-k)) H) : rU (fun i => .int (-i)) (.int k) H Q := ⟨k, rfl, q⟩
theorem i_chain {r r' : R2} (q : ta σ H fun x H1 => tb σ H1 fun y H2 => r x y H2 fun z H3 => ∃ k, z = .bl k ∧ (if k = true then tc σ H3 fun w' H4 => r' y w' H4 Q else Q (.bl false) H3)) : tChain r r' ta tb tc σ H Q := q
theorem i_nil (q : QL [] H) : tNil σ H QL := q
theorem i_cons (q : te σ H fun x H1 => tl σ H1 fun xs H2 => QL (x :: xs) H2) : tCons te tl σ H QL := q
theorem i_call {sp : Sp} {E : XK} (q : tl σ H fun vs H1 => sp (vs ++ []) H1 Q E) : tCall sp [] E tl σ H Q := q
theorem i_callS {sp : Sp} {E : L2.St → XK} (q : tl σ H fun vs H1 => sp vs H1 Q (E σ)) : tCallS sp E tl σ H Q := q
theorem i_cb {r : RC} (q : tl σ H fun vs H1 => r vs H1 Q) : tCB r tl σ H Q := q
theorem i_tup (q : tl σ H fun xs H1 => xs.length ≤ sizeLine ∧ ∀ p, H1 p = none → Q (.ref p) (upd H1 p (.tup xs))) : tTup tl σ H Q := q
theorem i_lst (q : tl σ H fun xs H1 => xs.length ≤ sizeLine ∧ ∀ p, H1 p = none → Q (.ref p) (upd H1 p (.lst xs))) : tLst tl σ H Q := q
theorem i_new {n : Nat} {P : Addr → Prop} (h : n ≤ 100000) (q : ∀ p, H p = none → P p) : n ≤ sizeLine ∧ ∀ p, H p = none → P p := ⟨Nat.le_trans h (by decide), q⟩
theorem i_sl {r : RS} {t1 t2 : TO} (q : te σ H fun x H1 => t1 σ H1 fun l H2 => t2 σ H2 fun u H3 => r x l u H3 Q) : tSl r te t1 t2 σ H Q := q
theorem i_nopart {QO : Option Int → Hp → Prop} (q : QO none H) : tNoPart σ H QO := q
theorem i_part {QO : Option Int → Hp → Prop} (q : te σ H fun x H1 => ∃ i, x = .int i ∧ QO (some i) H1) : tPart te σ H QO := q
theorem i_exint {P : Int → Prop} {k : Int} (q : P k) : ∃ i, V.int k = .int i ∧ P i := ⟨k, rfl, q⟩
theorem i_dec {c : Prop} [Decidable c] {A B : Prop} (h1 : c → A) (h2 : ¬ c → B) : if decide c = true then A else B := by
  by_cases h : c
  · rw [decide_eq_true h, if_pos rfl]; exact h1 h
  · rw [decide_eq_false h, if_neg (by decide)]; exact h2 h
theorem i_decN {c : Prop} [Decidable c] {A B : Prop} (h1 : ¬ c → A) (h2 : c → B) : if (!decide c) = true then A else B := by
  by_cases h : c
  · rw [decide_eq_true h]; exact h2 h
  · rw [decide_eq_false h]; exact h1 h
theorem i_bool {b : Bool} {A B : Prop} (h1 : b = true → A) (h2 : b = false → B) : if b = true then A else B := by
  cases b with
  | true => exact h1 rfl
  | false => exact h2 rfl
theorem i_tt {A B : Prop} (h : A) : if true = true then A else B := h
theorem i_ff {A B : Prop} (h : B) : if false = true then A else B := h
theorem i_nott {A B : Prop} (h : B) : if (!true) = true then A else B := h
theorem i_notf {A B : Prop} (h : A) : if (!false) = true then A else B := h
variable {a b : Int} {l m : List Nat}
theorem i_add_int (q : Q (.int (a + b)) H) : addP K (.int a) (.int b) H Q := .inl ⟨a, b, rfl, rfl, q⟩
theorem i_add_str (h : l.length + m.length ≤ 100000) (q : Q (S (l ++ m)) H) : addP K (S l) (S m) H Q := by
  refine .inr (.inl ⟨⟨l.toArray⟩, ⟨m.toArray⟩, rfl, rfl, ?_, ?_⟩)
  · rw [str_len, str_len]; exact Nat.le_trans h (by decide)
  · have e : (⟨l.toArray⟩ : Str) ++ ⟨m.toArray⟩ = ⟨(l ++ m).toArray⟩ := by
      show (⟨l.toArray ++ m.toArray⟩ : Str) = _
      rw [List.append_toArray]
    rw [e]; exact q
theorem i_sub (q : Q (.int (a - b)) H) : subP (.int a) (.int b) H Q := ⟨a, b, rfl, rfl, q⟩
theorem i_mul_int (h : IntMulOk a b) (q : Q (.int (a * b)) H) : mulP (.int a) (.int b) H Q := .inl ⟨a, b, rfl, rfl, h, q⟩
theorem i_mul_str {n : Nat} (h : l.length * n ≤ 100000 ∧ n ≤ 100000) (q : Q (S (List.replicate n l).flatten) H) : mulP (S l) (.int (n : Int)) H Q := .inr (.inl ⟨l, n, rfl, rfl, h.1, h.2, q⟩)
theorem i_mul_strI {k : Int} (h0 : 0 ≤ k) (h : l.length * k.toNat ≤ 100000 ∧ k.toNat ≤ 100000) (q : Q (S (List.replicate k.toNat l).flatten) H) : mulP (S l) (.int k) H Q := by
  obtain ⟨n, rfl⟩ : ∃ n : Nat, k = (n : Int) := ⟨k.toNat, by omega⟩
  rw [Int.toNat_natCast] at h q
  exact i_mul_str h q
theorem cdiv_small {a b : Int} (h : 0 < b) (h2 : b < 2 ^ 62) : CDivW a b := wide_div (b := 62) h (by omega) (by decide) (by decide)
theorem mul_small {a b : Int} (h : -(2 ^ 64) < a) (h2 : a < 2 ^ 64) : IntMulOk a b := CMul.ok (.inl ⟨h, h2⟩)
theorem mul_smallR {a b : Int} (h : -(2 ^ 64) < b) (h2 : b < 2 ^ 64) : IntMulOk a b := CMul.ok (.inr ⟨h, h2⟩)
theorem i_mod (h : 0 < b) (q : Q (.int (a % b)) H) : modP (.int a) (.int b) H Q := ⟨a, b, rfl, rfl, h, q⟩
theorem i_fdiv (h : CDivW a b) (q : Q (.int (a / b)) H) : fdivP (.int a) (.int b) H Q := ⟨a, b, rfl, rfl, h, q⟩
theorem i_pow (h : 0 ≤ b ∧ (Builtin.Int.intBits a : Int) * b ≤ 2 ^ 27) (q : Q (.int (a ^ b.toNat)) H) : powP (.int a) (.int b) H Q := ⟨a, b, rfl, rfl, h, q⟩
theorem i_eq_int (q : Q (.bl (decide (a = b))) H) : eqP K (.int a) (.int b) H Q := .inl ⟨rfl, by rw [dec_int, Bool.beq_eq_decide_eq]; exact q⟩
theorem i_eq_str (q : Q (.bl (decide (l = m))) H) : eqP K (S l) (S m) H Q := .inl ⟨rfl, by rw [S_dec]; exact q⟩
theorem i_ne_int (q : Q (.bl (!decide (a = b))) H) : neP K (.int a) (.int b) H Q := .inl ⟨rfl, by rw [dec_int, Bool.beq_eq_decide_eq]; exact q⟩
theorem i_ne_str (q : Q (.bl (!decide (l = m))) H) : neP K (S l) (S m) H Q := .inl ⟨rfl, by rw [S_dec]; exact q⟩
theorem i_eq_bl {b c : Bool} (q : Q (.bl (decide (b = c))) H) : eqP K (.bl b) (.bl c) H Q := .inl ⟨rfl, by rw [dec_bl, Bool.beq_eq_decide_eq]; exact q⟩
theorem i_ne_bl {b c : Bool} (q : Q (.bl (!decide (b = c))) H) : neP K (.bl b) (.bl c) H Q := .inl ⟨rfl, by rw [dec_bl, Bool.beq_eq_decide_eq]; exact q⟩
theorem i_lt (q : Q (.bl (decide (a < b))) H) : ltP (.int a) (.int b) H Q := .inl ⟨a, b, rfl, rfl, q⟩
theorem i_le (q : Q (.bl (decide (a ≤ b))) H) : leP (.int a) (.int b) H Q := ⟨a, b, rfl, rfl, q⟩
theorem i_gt (q : Q (.bl (decide (b < a))) H) : gtP (.int a) (.int b) H Q := ⟨a, b, rfl, rfl, q⟩
theorem i_ge (q : Q (.bl (decide (b ≤ a))) H) : geP (.int a) (.int b) H Q := ⟨a, b, rfl, rfl, q⟩
theorem i_is_non (q : Q (.bl true) H) : isP .non .non H Q := ⟨rfl, q⟩
theorem i_is_int (q : Q (.bl false) H) : isP (.int a) .non H Q := ⟨rfl, q⟩
theorem i_is_str (q : Q (.bl false) H) : isP (S l) .non H Q := ⟨rfl, q⟩
theorem i_is_ref {p : Addr} (q : Q (.bl false) H) : isP (.ref p) .non H Q := ⟨rfl, q⟩
theorem i_isn_non (q : Q (.bl false) H) : isNotP .non .non H Q := ⟨rfl, q⟩
theorem i_isn_int (q : Q (.bl true) H) : isNotP (.int a) .non H Q := ⟨rfl, q⟩
theorem i_isn_str (q : Q (.bl true) H) : isNotP (S l) .non H Q := ⟨rfl, q⟩
theorem i_isn_ref {p : Addr} (q : Q (.bl true) H) : isNotP (.ref p) .non H Q := ⟨rfl, q⟩
theorem i_in_sg {c : Nat} (q : Q (.bl (decide (c ∈ m))) H) : inP K (S [c]) (S m) H Q := .inl ⟨c, ⟨m.toArray⟩, rfl, rfl, by simpa using q⟩
theorem i_notIn_sg {c : Nat} (q : Q (.bl (!decide (c ∈ m))) H) : notInP K (S [c]) (S m) H Q := .inl ⟨c, ⟨m.toArray⟩, rfl, rfl, by simpa using q⟩
theorem atI_int {xs : List V} {z : Int} {v : V} (h0 : 0 ≤ z) (h : xs[z.toNat]? = some v) : atI xs z = some v := at_of (j := z.toNat) (by omega) h
theorem i_ix_lst {p : Addr} {xs : List V} {z : Int} {v : V} (hs : SqL K H p xs) (ha : atI xs z = some v) (q : Q v H) : ixP K (.ref p) (.int z) H Q := .inl ⟨p, xs, z, v, rfl, rfl, hs, ha, q⟩
theorem i_ix_tup {p : Addr} {xs : List V} {z : Int} {v : V} (hs : SqT K H p xs) (ha : atI xs z = some v) (q : Q v H) : ixP K (.ref p) (.int z) H Q := .inr (.inl ⟨p, xs, z, v, rfl, rfl, hs, ha, q⟩)
theorem i_ix_str {z : Int} {c : Nat} (hs : l.length ≤ 100000) (h0 : 0 ≤ z) (ha : l[z.toNat]? = some c) (q : Q (S [c]) H) : ixP K (S l) (.int z) H Q := by
  refine .inr (.inr ⟨⟨l.toArray⟩, z, c, rfl, rfl, ?_, ?_, q⟩)
  · rw [str_len]; exact Nat.le_trans hs (by decide)
  · have e : z = ((z.toNat : Nat) : Int) := by omega
    rw [e]
    exact atI_nat (by simpa using ha)
def cutN (l : List Nat) (lo hi : Option Int) : List Nat := (l.drop (HT.sIx l.length 0 lo)).take (HT.sIx l.length l.length hi - HT.sIx l.length 0 lo)
theorem i_sl_str {lo hi : Option Int} (hs : l.length ≤ 100000) (q : Q (S (cutN l lo hi)) H) : slP K (S l) lo hi H Q := by
  refine .inr (.inr ⟨⟨l.toArray⟩, rfl, ?_, ?_⟩)
  · rw [str_len]; exact Nat.le_trans hs (by decide)
  · have e : cutS ⟨l.toArray⟩ lo hi = ⟨(cutN l lo hi).toArray⟩ := by
      unfold cutS cutN
      rw [str_len]
    rw [e]; exact q
theorem cutN_to {l : List Nat} {k : Int} (h : 0 ≤ k) : cutN l none (some k) = l.take k.toNat := by
  unfold cutN
  have e : k = ((k.toNat : Nat) : Int) := by omega
  rw [e, HT.sIx_nat, HT.sIx_none, Nat.sub_zero, List.drop_zero, Int.toNat_natCast]
  by_cases hk : k.toNat ≤ l.length
  · rw [Nat.min_eq_left hk]
  · rw [Nat.min_eq_right (by omega), List.take_length, List.take_of_length_le (by omega)]
theorem cutN_from {l : List Nat} {k : Int} (h : 0 ≤ k) : cutN l (some k) none = l.drop k.toNat := by
  unfold cutN
  have e : k = ((k.toNat : Nat) : Int) := by omega
  rw [e, HT.sIx_nat, HT.sIx_none, Int.toNat_natCast]
  by_cases hk : k.toNat ≤ l.length
  · rw [Nat.min_eq_left hk]
    exact List.take_of_length_le (by rw [List.length_drop]; omega)
  · rw [Nat.min_eq_right (by omega), Nat.sub_self, List.take_zero, List.drop_of_length_le (by omega)]
theorem i_sl_to {k : Int} (hs : l.length ≤ 100000) (h0 : 0 ≤ k) (q : Q (S (l.take k.toNat)) H) : slP K (S l) none (some k) H Q := i_sl_str hs (by rw [cutN_to h0]; exact q)
theorem i_sl_from {k : Int} (hs : l.length ≤ 100000) (h0 : 0 ≤ k) (q : Q (S (l.drop k.toNat)) H) : slP K (S l) (some k) none H Q := i_sl_str hs (by rw [cutN_from h0]; exact q)
def rLenP (K : PySem.W.Frag) : RC := fun xs H Q => ∃ x n, xs = [x] ∧ LenV K x H n ∧ Q (.int n) H
theorem call_lenP {X : Cx} : CallR X (.builtin "len") (rLenP X.K) := call_len
theorem i_len_str (hs : l.length ≤ 100000) (q : Q (.int (l.length : Int)) H) : rLenP K [S l] H Q := ⟨S l, l.length, rfl, ⟨by rw [str_len]; exact Nat.le_trans hs (by decide), (str_len l).symm⟩, q⟩
theorem i_len_lst {p : Addr} {xs : List V} (hs : SqL K H p xs) (q : Q (.int (xs.length : Int)) H) : rLenP K [.ref p] H Q := ⟨.ref p, xs.length, rfl, .inl ⟨xs, hs, rfl⟩, q⟩
theorem i_len_tup {p : Addr} {xs : List V} (hs : SqT K H p xs) (q : Q (.int (xs.length : Int)) H) : rLenP K [.ref p] H Q := ⟨.ref p, xs.length, rfl, .inr ⟨xs, hs, rfl⟩, q⟩
def rIntP : RC := fun xs H Q => (∃ i, xs = [.int i] ∧ Q (.int i) H) ∨ ∃ k, xs = [.bl k] ∧ Q (.int (if k then 1 else 0)) H
theorem call_intP {X : Cx} : CallR X (.type "int") rIntP := call_int1
theorem i_int_int (q : Q (.int a) H) : rIntP [.int a] H Q := .inl ⟨a, rfl, q⟩
def rAbsP : RC := fun xs H Q => ∃ i, xs = [.int i] ∧ Q (.int (if i < 0 then -i else i)) H
theorem call_absP {X : Cx} : CallR X (.builtin "abs") rAbsP := call_abs
theorem i_abs (q : Q (.int (if a < 0 then -a else a)) H) : rAbsP [.int a] H Q := ⟨a, rfl, q⟩
theorem i_sum {p : Addr} {ns : List Int} (hs : SqL K H p (ns.map V.int)) (q : Q (.int ns.sum) H) : rSum K [.ref p] H Q := ⟨p, ns, rfl, hs, q⟩
def rTupP (K : PySem.W.Frag) : RC := fun xs H Q => ∃ p ys, xs = [.ref p] ∧ ((SqL K H p ys ∧ ∀ l, H l = none → Q (.ref l) (upd H l (.tup ys))) ∨ (SqT K H p ys ∧ Q (.ref p) H))
theorem call_tupP {X : Cx} : CallR X (.type "tuple") (rTupP X.K) := call_tuple_of
theorem i_tuple_lst {p : Addr} {ys : List V} (hs : SqL K H p ys) (q : ∀ l, H l = none → Q (.ref l) (upd H l (.tup ys))) : rTupP K [.ref p] H Q := ⟨p, ys, rfl, .inl ⟨hs, q⟩⟩
theorem i_isi_non_int (q : Q (.bl false) H) : rIsi K [.non, .ty "int"] H Q := ⟨_, _, _, _, false, rfl, .ty _, .base .non, kit_ty (by decide +kernel), q⟩
theorem i_isi_non_bool (q : Q (.bl false) H) : rIsi K [.non, .ty "bool"] H Q := ⟨_, _, _, _, false, rfl, .ty _, .base .non, kit_ty (by decide +kernel), q⟩
theorem i_isi_non_str (q : Q (.bl false) H) : rIsi K [.non, .ty "str"] H Q := ⟨_, _, _, _, false, rfl, .ty _, .base .non, kit_ty (by decide +kernel), q⟩
theorem i_isi_non_tuple (q : Q (.bl false) H) : rIsi K [.non, .ty "tuple"] H Q := ⟨_, _, _, _, false, rfl, .ty _, .base .non, kit_ty (by decide +kernel), q⟩
theorem i_isi_non_list (q : Q (.bl false) H) : rIsi K [.non, .ty "list"] H Q := ⟨_, _, _, _, false, rfl, .ty _, .base .non, kit_ty (by decide +kernel), q⟩
theorem i_isi_bl_int {b : Bool} (q : Q (.bl true) H) : rIsi K [(.bl b), .ty "int"] H Q := ⟨_, _, _, _, true, rfl, .ty _, .base (.bl b), kit_ty (by decide +kernel), q⟩
theorem i_isi_bl_bool {b : Bool} (q : Q (.bl true) H) : rIsi K [(.bl b), .ty "bool"] H Q := ⟨_, _, _, _, true, rfl, .ty _, .base (.bl b), kit_ty (by decide +kernel), q⟩
theorem i_isi_bl_str {b : Bool} (q : Q (.bl false) H) : rIsi K [(.bl b), .ty "str"] H Q := ⟨_, _, _, _, false, rfl, .ty _, .base (.bl b), kit_ty (by decide +kernel), q⟩
theorem i_isi_bl_tuple {b : Bool} (q : Q (.bl false) H) : rIsi K [(.bl b), .ty "tuple"] H Q := ⟨_, _, _, _, false, rfl, .ty _, .base (.bl b), kit_ty (by decide +kernel), q⟩
theorem i_isi_bl_list {b : Bool} (q : Q (.bl false) H) : rIsi K [(.bl b), .ty "list"] H Q := ⟨_, _, _, _, false, rfl, .ty _, .base (.bl b), kit_ty (by decide +kernel), q⟩
theorem i_isi_int_int {i : Int} (q : Q (.bl true) H) : rIsi K [(.int i), .ty "int"] H Q := ⟨_, _, _, _, true, rfl, .ty _, .base (.int i), kit_ty (by decide +kernel), q⟩
theorem i_isi_int_bool {i : Int} (q : Q (.bl false) H) : rIsi K [(.int i), .ty "bool"] H Q := ⟨_, _, _, _, false, rfl, .ty _, .base (.int i), kit_ty (by decide +kernel), q⟩
theorem i_isi_int_str {i : Int} (q : Q (.bl false) H) : rIsi K [(.int i), .ty "str"] H Q := ⟨_, _, _, _, false, rfl, .ty _, .base (.int i), kit_ty (by decide +kernel), q⟩
theorem i_isi_int_tuple {i : Int} (q : Q (.bl false) H) : rIsi K [(.int i), .ty "tuple"] H Q := ⟨_, _, _, _, false, rfl, .ty _, .base (.int i), kit_ty (by decide +kernel), q⟩
theorem i_isi_int_list {i : Int} (q : Q (.bl false) H) : rIsi K [(.int i), .ty "list"] H Q := ⟨_, _, _, _, false, rfl, .ty _, .base (.int i), kit_ty (by decide +kernel), q⟩
theorem i_isi_str_int {l : List Nat} (q : Q (.bl false) H) : rIsi K [(S l), .ty "int"] H Q := ⟨_, _, _, _, false, rfl, .ty _, .base (.str _), kit_ty (by decide +kernel), q⟩
theorem i_isi_str_bool {l : List Nat} (q : Q (.bl false) H) : rIsi K [(S l), .ty "bool"] H Q := ⟨_, _, _, _, false, rfl, .ty _, .base (.str _), kit_ty (by decide +kernel), q⟩
theorem i_isi_str_str {l : List Nat} (q : Q (.bl true) H) : rIsi K [(S l), .ty "str"] H Q := ⟨_, _, _, _, true, rfl, .ty _, .base (.str _), kit_ty (by decide +kernel), q⟩
theorem i_isi_str_tuple {l : List Nat} (q : Q (.bl false) H) : rIsi K [(S l), .ty "tuple"] H Q := ⟨_, _, _, _, false, rfl, .ty _, .base (.str _), kit_ty (by decide +kernel), q⟩
theorem i_isi_str_list {l : List Nat} (q : Q (.bl false) H) : rIsi K [(S l), .ty "list"] H Q := ⟨_, _, _, _, false, rfl, .ty _, .base (.str _), kit_ty (by decide +kernel), q⟩
theorem i_isi_tup_str {a : Addr} {xs : List V} (h : H a = some (.tup xs)) (q : Q (.bl false) H) : rIsi K [(.ref a), .ty "str"] H Q := ⟨_, _, _, _, false, rfl, .ty _, .base (.tup h), kit_ty (by decide +kernel), q⟩
theorem i_isi_lst_str {a : Addr} {xs : List V} (h : H a = some (.lst xs)) (q : Q (.bl false) H) : rIsi K [(.ref a), .ty "str"] H Q := ⟨_, _, _, _, false, rfl, .ty _, .base (.lst h), kit_ty (by decide +kernel), q⟩
def rJoinP (K : PySem.W.Frag) : V → List V → Hp → VK → Prop := fun x xs H Q => ∃ a p, ∃ ys : List Str, x = .str a ∧ xs = [.ref p] ∧ (SqL K H p (ys.map V.str) ∨ SqT K H p (ys.map V.str)) ∧ (ys.map (·.length)).sum + ys.length * a.length ≤ 16777216 ∧ Q (.str (Txt.join a ys)) H
theorem pe_joinP {X : Cx} {to te : TE} {o e : Expr} {apos pos : Pos} (ho : PE X o to) (he : PE X e te) (hs : starEach [e] X.env = [(false, eval e X.env)] := by rfl) (hbase : attributeBase o "join" X.env (eval o X.env) = eval o X.env := by rfl) (hline : (apos.endLine == pos.line) = true := by rfl) :
    PE X (.Call (.Attribute o "join" apos) [e] [] pos) (tM1 (rJoinP X.K) to te) := pe_join ho he hs hbase hline
theorem i_m1c {r : V → List V → Hp → VK → Prop} (q : te σ H fun y H2 => r (S l) [y] H2 Q) : tM1 r (tC (S l)) te σ H Q := ⟨⟨_, rfl⟩, q⟩
end
end Fg
namespace Fg
open PySem PySem.Spec PyProof.Rows L2
/-- a def of the text: where it stands, how it is called -/
def DefIn (K : PySem.W.Frag) (mg : Str → Option Value) (x : Str) (st : Stmt) (ps : List Str) : Prop :=
  ∃ (f : Addr) (fd : FuncData), Fun K x x st f fd ∧ mg x = some (.ref f) ∧ Binds K fd ps []
/-- .. and it keeps its promise -/
def OK (P : Program) (w : World) (K : PySem.W.Frag) (mg : Str → Option Value) (base : Heap) (CX : CXT) (k : Nat) (x : Str) (ps : List Str) (sp : Sp) : Prop :=
  ∃ (f : Addr) (fd : FuncData), FnOk P w K mg base CX k f fd ps sp ∧ mg x = some (.ref f) ∧ PySem.W.keepIn K (.ref f) = true ∧ Binds K fd ps []
abbrev P1 := V → Hp → VK → XK → Prop
abbrev P2 := V → V → Hp → VK → XK → Prop
abbrev P3 := V → V → V → Hp → VK → XK → Prop
abbrev P4 := V → V → V → V → Hp → VK → XK → Prop
def sp1 (p : P1) : Sp := fun vs H Q E => ∃ x, vs = [x] ∧ p x H Q E
def sp2 (p : P2) : Sp := fun vs H Q E => ∃ x y, vs = [x, y] ∧ p x y H Q E
def sp3 (p : P3) : Sp := fun vs H Q E => ∃ x y z, vs = [x, y, z] ∧ p x y z H Q E
def sp4 (p : P4) : Sp := fun vs H Q E => ∃ x y z u, vs = [x, y, z, u] ∧ p x y z u H Q E
section
variable {H : Hp} {Q : VK} {E : XK} {x y z u : V} {p1 : P1} {p2 : P2} {p3 : P3} {p4 : P4}
theorem i_sp1 (q : p1 x H Q E) : sp1 p1 ([x] ++ []) H Q E := ⟨x, rfl, q⟩
theorem i_sp2 (q : p2 x y H Q E) : sp2 p2 ([x, y] ++ []) H Q E := ⟨x, y, rfl, q⟩
theorem i_sp3 (q : p3 x y z H Q E) : sp3 p3 ([x, y, z] ++ []) H Q E := ⟨x, y, z, rfl, q⟩
theorem i_sp4 (q : p4 x y z u H Q E) : sp4 p4 ([x, y, z, u] ++ []) H Q E := ⟨x, y, z, u, rfl, q⟩
theorem i_sp1' (q : p1 x H Q E) : sp1 p1 [x] H Q E := ⟨x, rfl, q⟩
theorem i_sp2' (q : p2 x y H Q E) : sp2 p2 [x, y] H Q E := ⟨x, y, rfl, q⟩
theorem i_sp3' (q : p3 x y z H Q E) : sp3 p3 [x, y, z] H Q E := ⟨x, y, z, rfl, q⟩
end
section
variable {P : Program} {w : World} {K : PySem.W.Frag} {mg : Str → Option Value} {base : Heap} {x : Str} {st : Stmt} {N ps : List Str} {k : Nat} {sp : Sp}
theorem FnOK.mk {f : Addr} {fd : FuncData} (F : Fun K x x st f fd) (S : FnScope N ps (defScope st)) (len : ∀ vs H Q E, sp vs H Q E → vs.length = ps.length)
    (body : ∀ (cdv : Value) (A : Around) (outer : List Env) (s : Shared) (H : Hp) (vs : List V) (Q : VK) (E : XK), Room k (A.deeper (envOfC x (defScope st) s.heap.objs.size f cdv)) → sp vs H Q E →
      ∃ t, PSs (cxOf CX0 P w K mg base N x (defScope st) f cdv A outer s H E).nox (defBody st) t ∧ t { nx := fun _ H' => Q .non H', rt := Q } (start N vs) H) : FnOk P w K mg base CX0 (k + 1) f fd ps sp :=
  F.ok S len fun cdv A outer s H vs Q E hr h => body cdv A outer s H vs Q E hr h
theorem OK.mk (D : DefIn K mg x st ps) (S : FnScope N ps (defScope st)) (len : ∀ vs H Q E, sp vs H Q E → vs.length = ps.length)
    (body : ∀ (f : Addr) (cdv : Value) (A : Around) (outer : List Env) (s : Shared) (H : Hp) (vs : List V) (Q : VK) (E : XK), Room k (A.deeper (envOfC x (defScope st) s.heap.objs.size f cdv)) → sp vs H Q E →
      ∃ t, PSs (cxOf CX0 P w K mg base N x (defScope st) f cdv A outer s H E).nox (defBody st) t ∧ t { nx := fun _ H' => Q .non H', rt := Q } (start N vs) H) : OK P w K mg base CX0 (k + 1) x ps sp := by
  obtain ⟨f, fd, F, hm, hb⟩ := D
  exact ⟨f, fd, F.ok S len fun cdv A outer s H vs Q E hr h => body f cdv A outer s H vs Q E hr h, hm, F.kp, hb⟩
theorem OK.mkX (D : DefIn K mg x st ps) (S : FnScope N ps (defScope st)) (len : ∀ vs H Q E, sp vs H Q E → vs.length = ps.length)
    (body : ∀ (f : Addr) (cdv : Value) (A : Around) (outer : List Env) (s : Shared) (H : Hp) (vs : List V) (Q : VK) (E : XK), Room k (A.deeper (envOfC x (defScope st) s.heap.objs.size f cdv)) → sp vs H Q E →
      ∃ t, PSs (cxOf (L2.CX P w) P w K mg base N x (defScope st) f cdv A outer s H E) (defBody st) t ∧ t { nx := fun _ H' => Q .non H', rt := Q } (start N vs) H) : OK P w K mg base (L2.CX P w) (k + 1) x ps sp := by
  obtain ⟨f, fd, F, hm, hb⟩ := D
  exact ⟨f, fd, F.okX S len fun cdv A outer s H vs Q E hr h => body f cdv A outer s H vs Q E hr h, hm, F.kp, hb⟩
theorem len1 {p : P1} {a : Str} : ∀ vs H Q E, sp1 p vs H Q E → vs.length = [a].length := by
  rintro vs H Q E ⟨_, rfl, _⟩; rfl
theorem len2 {p : P2} {a b : Str} : ∀ vs H Q E, sp2 p vs H Q E → vs.length = [a, b].length := by
  rintro vs H Q E ⟨_, _, rfl, _⟩; rfl
theorem len3 {p : P3} {a b c : Str} : ∀ vs H Q E, sp3 p vs H Q E → vs.length = [a, b, c].length := by
  rintro vs H Q E ⟨_, _, _, rfl, _⟩; rfl
theorem len4 {p : P4} {a b c d : Str} : ∀ vs H Q E, sp4 p vs H Q E → vs.length = [a, b, c, d].length := by
  rintro vs H Q E ⟨_, _, _, _, rfl, _⟩; rfl
theorem OK.weak {CX : CXT} {sp' : Sp} (G : OK P w K mg base CX k x ps sp) (h : ∀ vs H Q E, sp' vs H Q E → sp vs H Q E) : OK P w K mg base CX k x ps sp' := by
  obtain ⟨f, fd, F, r⟩ := G
  exact ⟨f, fd, F.imp h, r⟩
end
section
variable {X : Cx} {CX : CXT} {k : Nat} {x : Str} {ps : List Str} {sp : Sp} {E : XK} {e : Expr} {es : List Expr} {ta : TA} {p pos : Pos}
theorem pe_f (G : OK X.prog X.w X.K X.mg X.base CX k x ps sp) (hr : Room k X.A) (hx : Passes CX X E) (ha : PA X (e :: es) ta) (hg : Gl X x := by rfl) (hd : (x == ("__debug__" : Str)) = false := by decide)
    (he : starEach (e :: es) X.env = (false, eval e X.env) :: starEach es X.env := by rfl) (hpl : (backTo pos (starEach es X.env)).any (·.1) = false := by rfl) :
    PE X (.Call (.Name x p) (e :: es) [] pos) (tCall sp [] E ta) := by
  obtain ⟨f, fd, F, hm, hk, hb⟩ := G
  exact pe_call F hr hg hm hk hb .nil hx ha hd he hpl
theorem pe_fS {ES : L2.St → XK} (G : OK X.prog X.w X.K X.mg X.base CX k x ps sp) (hr : Room k X.A) (hx : ∀ σ, PassesAt CX X σ (ES σ)) (ha : PA X (e :: es) ta) (hg : Gl X x := by rfl) (hd : (x == ("__debug__" : Str)) = false := by decide)
    (he : starEach (e :: es) X.env = (false, eval e X.env) :: starEach es X.env := by rfl) (hpl : (backTo pos (starEach es X.env)).any (·.1) = false := by rfl) :
    PE X (.Call (.Name x p) (e :: es) [] pos) (tCallS sp ES ta) := by
  obtain ⟨f, fd, F, hm, hk, hb⟩ := G
  exact pe_callS F hr hg hm hk hb hx ha hd he hpl
theorem pe_gS (l : List Nat) (h : ∃ t, X.mg x = some (.str ⟨l.toArray⟩ t)) (hg : Gl X x := by rfl) (hd : (x == ("__debug__" : Str)) = false := by decide) : PE X (.Name x pos) (tC (S l)) := by
  obtain ⟨t, hm⟩ := h
  exact pe_glob hg hm ⟨t, rfl⟩ hd
theorem pe_gI (i : Int) (h : ∃ t, X.mg x = some (.int i t)) (hg : Gl X x := by rfl) (hd : (x == ("__debug__" : Str)) = false := by decide) : PE X (.Name x pos) (tC (.int i)) := by
  obtain ⟨t, hm⟩ := h
  exact pe_glob hg hm ⟨t, rfl⟩ hd
theorem pe_gR (C : Addr) (h : X.mg x = some (.ref C)) (hg : Gl X x := by rfl) (hd : (x == ("__debug__" : Str)) = false := by decide) : PE X (.Name x pos) (tC (.ref C)) := pe_glob hg h rfl hd
end
/-- what its __init__ promises -/
def spIni (C : Addr) (f : Str) : Sp := sp2 fun x v H Q _ => ∃ a, x = .ref a ∧ H a = some (exo a C none) ∧ ∀ dx, H dx = none → dx ≠ a → Q .non (upd (upd H dx (exd dx [(f, v)])) a (exo a C (some dx)))
def OKx (P : Program) (w : World) (K : PySem.W.Frag) (mg : Str → Option Value) (base : Heap) (x f : Str) (C : Addr) : Prop :=
  mg x = some (.ref C) ∧ OexC K C ∧ PySem.W.findIn K (.ref C) f = some none ∧ ∃ (fI : Addr) (fd : FuncData), PySem.W.findIn K (.ref C) "__init__" = some (some (.ref fI)) ∧ PySem.W.typeIn K (.ref fI) = some (.type "function") ∧
    FnOk P w K mg base CX0 1 fI fd ["self", f] (spIni C f) ∧ Binds K fd ["self", f] []
theorem ini_ok {P : Program} {w : World} {K : PySem.W.Frag} {mg : Str → Option Value} {base : Heap} {C fI : Addr} {f q : Str} {st : Stmt} {fd : FuncData} (F : Fun K "__init__" q st fI fd) (S : FnScope ["self", f] ["self", f] (defScope st))
    (ox : OexC K C) (noF : PySem.W.findIn K (.ref C) f = some none)
    (hb : ∀ (cdv : Value) (A : Around) (outer : List Env) (s : Shared) (H : Hp) (E : XK), PSs (cxOf CX0 P w K mg base ["self", f] q (defScope st) fI cdv A outer s H E).nox (defBody st) (tOst K f (tVar 0) (tVar 1))) :
    FnOk P w K mg base CX0 1 fI fd ["self", f] (spIni C f) := by
  refine F.ok S (fun vs H Q E h => len2 vs H Q E h) fun cdv A outer s H vs Q E hr h => ⟨_, hb cdv A outer s H E, ?_⟩
  obtain ⟨x, v, rfl, a, rfl, ha, q⟩ := h
  exact ⟨v, rfl, .ref a, rfl, a, C, rfl, ox, noF, .inl ⟨ha, fun dx n ne => q dx n ne⟩⟩
/-- C(e): an error whose dict, new, holds the field -/
def tMkE (C : Addr) (f : Str) (ta : TA) : L2.St → Hp → XK → Prop := fun σ H Q => ta σ H fun vs H1 => ∃ v, vs = [v] ∧ ∀ d, H1 d = none → Q (.ref C) (some d) (upd H1 d (.xd [(f, v)]))
theorem pa_mono {X : Cx} {es : List Expr} {ta : TA} (ha : PA X es ta) : PA X es fun σ H R => ∃ Q1 : List V → Hp → Prop, ta σ H Q1 ∧ ∀ vs H1, Q1 vs H1 → R vs H1 := by
  refine ⟨fun pos pins s σ H Q I h => ?_⟩
  obtain ⟨Q1, h, hi⟩ := h
  exact thn (ha.run pos pins s σ H Q1 I h) fun us s1 ⟨vs, H1, J, r, q⟩ => ⟨vs, H1, J, r, hi vs H1 q⟩
theorem pmk_E {X : Cx} {x f : Str} {C : Addr} {e : Expr} {ta : TA} {p pos : Pos} {k : Nat} (G : OKx X.prog X.w X.K X.mg X.base x f C) (hr : Room (k + 2) X.A) (ha : PA X [e] ta) (hg : Gl X x := by rfl) (hdb : (x == ("__debug__" : Str)) = false := by decide)
    (he : starEach [e] X.env = (false, eval e X.env) :: starEach [] X.env := by rfl) (hpl : (backTo pos (starEach [] X.env)).any (·.1) = false := by rfl) :
    PMk X (.Call (.Name x p) [e] [] pos) (tMkE C f ta) := by
  obtain ⟨hm, ox, noF, fI, fd, iC, tI, F, hb⟩ := G
  intro pins s σ H Q I h
  refine pmk_oex (k := 1) (dvs := []) ox iC tI F (hr.mono (by omega)) hb .nil pass0 hg hm (pa_mono ha) hdb he hpl pins s σ H Q I ⟨_, h, fun vs H1 hq => ?_⟩
  obtain ⟨v, rfl, q⟩ := hq
  refine ⟨by show 1 ≤ 1000; omega, fun a na => ⟨.ref a, v, rfl, a, rfl, upd_same, fun dx nd ne => ⟨rfl, dx, [(f, v)], upd_same, ?_, ?_, ?_⟩⟩⟩
  · rw [upd_ne ne, upd_same]
  · rw [upd_ne ne] at nd; exact nd
  · have n2 : H1 dx = none := by rw [upd_ne ne] at nd; exact nd
    have e1 : upd (del (upd (upd (upd H1 a (exo a C none)) dx (exd dx [(f, v)])) a (exo a C (some dx))) a) dx (.xd [(f, v)]) = upd H1 dx (.xd [(f, v)]) := by
      funext b
      by_cases hb : b = dx
      · rw [hb, upd_same, upd_same]
      · rw [upd_ne hb, upd_ne hb]
        by_cases ha : b = a
        · rw [ha, del_same, na]
        · rw [del_ne ha, upd_ne ha, upd_ne hb, upd_ne ha]
    rw [e1]
    exact q dx n2
def tRaiseP (t : L2.St → Hp → XK → Prop) (W : WX) : TS := fun _ σ H => t σ H fun cls d H' => W cls d σ H'
theorem ps_raiseP {X : Cx} {W : WX} {e : Expr} {t : L2.St → Hp → XK → Prop} {pos : Pos} (hc : X.calm = true) (tk : Takes X W) (he : PMk X e t) : PS X (.Raise (some e) none pos) (tRaiseP t W) := ps_raise hc tk he
/-- the class of a caught error, for isinstance -/
structure ExcD (K : PySem.W.Frag) (D : Addr) : Prop where
  cl : (PySem.W.clsIn K D).isSome = true
  hg : PySem.W.findIn K (.ref D) "__getattribute__" = some (some (.builtin "BaseException.__getattribute__"))
  hk : PySem.W.findIn K (.ref D) "__getattr__" = some none
  hs : PySem.W.subIn K (.ref D) (.type "BaseException") = some true
  hd : PySem.W.hasDictIn K D = true
  ha : PySem.W.findIn K (.ref D) "__class__" = some (some (.builtin "object.__class__"))
  hn : PySem.W.specialIn K (.builtin "object.__class__") "__get__" = some (some (.builtin "getset_descriptor.__get__"))
  ht : PySem.W.takesIn K (.builtin "object.__class__") = some true
  hm : PySem.W.mroIn K D (.type "object") = some true
theorem ExcD.xf {K : PySem.W.Frag} {D : Addr} (T : ExcD K D) : XfC K D := ⟨T.hg, T.hk, T.hs, T.hd⟩
def rIsX (K : PySem.W.Frag) (a : Addr) (cls : Value) (d : Option Addr) : RC := fun xs H Q => ∃ (D dd : Addr) (fs : List (Str × V)) (c : V) (cv : Value) (b : Bool),
  xs = [.ref a, c] ∧ cls = .ref D ∧ d = some dd ∧ H dd = some (.xd fs) ∧ ExcD K D ∧ ClsV c cv ∧ PySem.W.kitOne K (.ref D) cv = some b ∧ Q (.bl b) H
theorem call_isX {X : Cx} {a : Addr} {oe : Obj} {cls : Value} {d : Option Addr} {pn : List (Addr × Obj)} (hz : Zc cls d oe) (hf : ∃ vs, oe.data = .fields vs) : CallR (X.suite a ((a, oe) :: pn)) (.builtin "isinstance") (rIsX X.K a cls d) := by
  intro pins s σ H xs us Q I r h
  obtain ⟨D, dd, fs, c, cv, b, rfl, rfl, rfl, hdd, T, kc, e, q⟩ := h
  obtain ⟨u1, u2, rfl, r1, r2⟩ := vals2 r
  obtain rfl : u1 = Value.ref a := r1
  obtain rfl := kc.eq r2
  obtain ⟨hget, _⟩ := I.pin (a, oe) (List.mem_append_left _ List.mem_cons_self)
  obtain ⟨vs, hv⟩ := hf
  have hx : ObjOk X.prog X.w H s.heap dd (.xd fs) := I.hok dd _ hdd
  obtain ⟨mA, ⟨o, es, ep, ho, _⟩, _⟩ := hx
  have J : PySem.W.InstAt s.heap a oe D (some o) := ⟨hget, hz.1, by unfold PySem.W.notCls; rw [hv] <;> rfl, by rw [hz.2]; exact ho⟩
  exact PySem.W.kia_one (PySem.W.kitx_exc T.cl T.hg T.hk T.hs T.ha T.hn T.ht T.hm) I.kIn J e (fun z => nomatch z) fun tk => ⟨.bl b, H, I.tok tk, rfl, q⟩
section
variable {σ : L2.St} {H : Hp} {D : Ends} {t : L2.St → Hp → XK → Prop} {W : WX} {Q : XK} {C : Addr} {f : Str} {ta : TA} {v : V} {P : V → Prop}
theorem i_raise (q : t σ H fun cls d H' => W cls d σ H') : tRaiseP t W D σ H := q
theorem i_mkE (q : ta σ H fun vs H1 => ∃ v, vs = [v] ∧ ∀ d, H1 d = none → Q (.ref C) (some d) (upd H1 d (.xd [(f, v)]))) : tMkE C f ta σ H Q := q
theorem i_ex1 (q : P v) : ∃ u, [v] = [u] ∧ P u := ⟨v, rfl, q⟩
end
/-- the wish for an error of the class at C whose dict, new, holds f = v -/
def Rz (E : XK) (H : Hp) (C : Addr) (f : Str) (v : V) : Prop := ∀ d H', H d = none → Same H H' → H' d = some (.xd [(f, v)]) → E (.ref C) (some d) H'
theorem Rz.mono {E : XK} {H H1 : Hp} {C : Addr} {f : Str} {v : V} (h : Rz E H C f v) (s : Same H H1) : Rz E H1 C f v := fun d H' n s' e => h d H' (s.free n) (s.trans s') e
theorem Rz.at {E : XK} {H : Hp} {C : Addr} {f : Str} {v : V} (h : Rz E H C f v) {d : Addr} (n : H d = none) : E (.ref C) (some d) (upd H d (.xd [(f, v)])) :=
  h d _ n (fun b o e => by rw [upd_ne (ne_of_none e n)]; exact e) upd_same
section
variable {X : Cx} (K : PySem.W.Frag) {e o : Expr} {es : List Expr} {te to : TE} {ta : TA} {tg : Expr} {p pos apos cpos tpos : Pos} {elts : List Expr} {kk : Nat}
theorem opAdd (h : X.K = K := by rfl) : OpR X (binaryOp .Add) (addP K) := h ▸ op_addP
theorem opEq (hu : X.A.units + 64 < cLine) (h : X.K = K := by rfl) : OpR X (compareOp .Eq) (eqP K) := h ▸ op_eqP hu
theorem opNe (hu : X.A.units + 64 < cLine) (h : X.K = K := by rfl) : OpR X (compareOp .NotEq) (neP K) := h ▸ op_neP hu
theorem opIn (h : X.K = K := by rfl) : OpR X (compareOp .In) (inP K) := h ▸ op_inP
theorem opNotIn (h : X.K = K := by rfl) : OpR X (compareOp .NotIn) (notInP K) := h ▸ op_notInP
theorem ixK (h : X.K = K := by rfl) : IxR X (ixP K) := h ▸ ix_P
theorem slK (h : X.K = K := by rfl) : SlR X (slP K) := h ▸ sl_P
theorem piAny (he : PE X e te) (h : X.K = K := by rfl) : PI X tg e (iAny K te) := h ▸ pi_any he
theorem piEnum (hg : Gl X "enumerate") (hm : X.mg "enumerate" = none) (ha : PA X [e] ta) (h : X.K = K := by rfl) (hs : starEach [e] X.env = [(false, eval e X.env)] := by rfl) :
    PI X (.Tuple elts kk tpos) (.Call (.Name "enumerate" p) [e] [] pos) (iEnumP K ta) := h ▸ pi_enumP hg hm ha hs
theorem cLen (h : X.K = K := by rfl) : CallR X (.builtin "len") (rLenP K) := h ▸ call_lenP
theorem cSum (hc : X.calm = true) (h : X.K = K := by rfl) : CallR X (.builtin "sum") (rSum K) := h ▸ cr_sum hc
theorem cTup (h : X.K = K := by rfl) : CallR X (.type "tuple") (rTupP K) := h ▸ call_tupP
theorem cIsi (h : X.K = K := by rfl) : CallR X (.builtin "isinstance") (rIsi K) := h ▸ call_isi
theorem cSortedS (h : X.K = K := by rfl) : CallR X (.builtin "sorted") (rSortedS K) := h ▸ cr_sortedS
theorem peJoin (ho : PE X o to) (he : PE X e te) (h : X.K = K := by rfl) (hs : starEach [e] X.env = [(false, eval e X.env)] := by rfl) (hbase : attributeBase o "join" X.env (eval o X.env) = eval o X.env := by rfl) (hline : (apos.endLine == pos.line) = true := by rfl) :
    PE X (.Call (.Attribute o "join" apos) [e] [] pos) (tM1 (rJoinP K) to te) := h ▸ pe_joinP ho he hs hbase hline
theorem pgTup {t : TGs} {n : Nat} (hc : X.calm = true) (ht : PGs X es t) (h : X.K = K := by rfl) (hn : (assignEach es X.env).length = n := by rfl) (hst : (assignEach es X.env).findIdx? (·.1) = none := by rfl) :
    PG X (.Tuple es kk pos) (gTup K n t) := h ▸ pg_tup hc ht hn hst
/-- xs.append(e) -/
def tApp (K : PySem.W.Frag) (to : TE) (t : TA) : TE := tBM K "list" rAppend to t
theorem peApp (ho : PE X o to) (ha : PA X (e :: es) ta) (h : X.K = K := by rfl) (hbase : attributeBase o "append" X.env (eval o X.env) = eval o X.env := by rfl)
    (hfew : ((backTo cpos (starEach (e :: es) X.env)).all (fun x => !x.1) && (backToKw cpos (keywordEach [] X.env)).all (fun x => x.1.isSome)
      && decide ((e :: es).length + ([] : List Keyword).length + (if ([] : List Keyword).isEmpty then 0 else 1) < 30)) = true := by rfl)
    (hline : (apos.endLine == cpos.line) = true := by rfl) (hs : starEach (e :: es) X.env = (false, eval e X.env) :: starEach es X.env := by rfl) (hplain : (backTo cpos (starEach es X.env)).any (·.1) = false := by rfl) :
    PE X (.Call (.Attribute o "append" apos) (e :: es) [] cpos) (tApp K to ta) := h ▸ pe_bm PySem.F.plainAttrs_list PySem.F.slot_list_append PySem.F.type_list_append mt_append ho ha hbase hfew hline hs hplain
end
section
variable {K : PySem.W.Frag} {σ : L2.St} {H : Hp} {Q : VK} {te : TE} {ta : TA} {l : Addr} {xs : List V} {v : V}
theorem i_app (q : te σ H fun x H1 => tyV K "list" x H1 ∧ ta σ H1 fun xs H2 => rAppend x xs H2 Q) : tApp K te ta σ H Q := q
theorem i_appAt (h : H l = some (.lst xs)) {P : Prop} (q : P) : tyV K "list" (.ref l) H ∧ P := ⟨.inl ⟨rfl, _, .inl (.inl h)⟩, q⟩
theorem i_appEnd (h : H l = some (.lst xs)) (hz : xs.length < 100000) (q : Q .non (upd H l (.lst (xs ++ [v])))) : rAppend (.ref l) [v] H Q := ⟨l, xs, v, rfl, rfl, h, Nat.lt_trans hz (by decide), q⟩
end
section
variable {σ : L2.St} {H : Hp} {D : Ends} {t u : TS} {to ti : TE} {v : V} {Qs : L2.St → Hp → Prop} {Qh : Hp → Prop} {p : Addr} {xs ys : List V} {z : Int}
theorem i_gsub {ts : TSet} (q : to σ H fun o H1 => ti σ H1 fun i H2 => ts o i v H2 fun H3 => Qs σ H3) : gSub to ti ts v σ H Qs := q
theorem i_setL (j : Nat) (h : H p = some (.lst xs)) (hj : ixN xs.length z = some j) (e : xs.set j v = ys) (q : Qh (upd H p (.lst ys))) : rSetL (.ref p) (.int z) v H Qh := ⟨p, xs, z, j, rfl, rfl, h, hj, by rw [e]; exact q⟩
theorem i_cut (Mid : L2.St → Hp → Prop) (h1 : t { D with nx := Mid } σ H) (h2 : ∀ σ' H', Mid σ' H' → u D σ' H') : Evl.tCut t u D σ H := ⟨Mid, h1, h2⟩
end
theorem joinL_nil : ∀ ls : List (List Nat), TL.joinL [] ls = ls.flatten
  | [] => rfl
  | [p] => by simp [TL.joinL]
  | p :: q :: r => by
    show p ++ ([] ++ TL.joinL [] (q :: r)) = _
    rw [joinL_nil (q :: r)]
    rfl
theorem join_nil (ls : List (List Nat)) : Txt.join ⟨([] : List Nat).toArray⟩ (ls.map fun l => (⟨l.toArray⟩ : Str)) = ⟨ls.flatten.toArray⟩ := by
  refine TL.ext_tl ?_
  rw [TL.join_eq, TL.tl_join, List.map_map]
  show TL.joinL ([] : List Nat).toArray.toList (ls.map fun l => l.toArray.toList) = ls.flatten.toArray.toList
  simp [joinL_nil]
theorem i_join0 {K : PySem.W.Frag} {H : Hp} {Q : VK} {p : Addr} {ls : List (List Nat)} (hs : SqL K H p (ls.map S)) (hz : (ls.map List.length).sum ≤ 100000) (q : Q (S ls.flatten) H) : rJoinP K (S []) [.ref p] H Q := by
  refine ⟨⟨([] : List Nat).toArray⟩, p, ls.map fun l => (⟨l.toArray⟩ : Str), rfl, rfl, .inl ?_, ?_, ?_⟩
  · rw [List.map_map]; exact hs
  · rw [List.map_map]
    have e : (ls.map ((·.length) ∘ fun l => (⟨l.toArray⟩ : Str))) = ls.map List.length := List.map_congr_left fun l _ => str_len l
    rw [e]
    show (ls.map List.length).sum + _ * ([] : List Nat).toArray.size ≤ _
    simp
    omega
  · rw [join_nil]; exact q
theorem flat_one (cs : List Nat) : (cs.map fun c => [c]).flatten = cs := by
  induction cs with
  | nil => rfl
  | cons a r ih => rw [List.map_cons, List.flatten_cons, ih]; rfl
theorem len_one (cs : List Nat) : ((cs.map fun c => [c]).map List.length).sum = cs.length := by
  induction cs with
  | nil => rfl
  | cons a r ih => rw [List.map_cons, List.map_cons, List.sum_cons, ih, List.length_cons, List.length_cons, List.length_nil]; omega
/-- .. of signs -/
theorem i_join1 {K : PySem.W.Frag} {H : Hp} {Q : VK} {p : Addr} {cs : List Nat} (hs : SqL K H p (cs.map fun c => S [c])) (hz : cs.length ≤ 100000) (q : Q (S cs) H) : rJoinP K (S []) [.ref p] H Q := by
  refine i_join0 (ls := cs.map fun c => [c]) (by rw [List.map_map]; exact hs) (by rw [len_one]; exact hz) ?_
  rw [flat_one]
  exact q
theorem i_yes {σ : L2.St} {H : Hp} {QB : Bool → Hp → Prop} (q : QB true H) : tYes σ H QB := q
theorem ltCps_dec : ∀ a b : List Nat, Spec.ltCps a b = decide (a < b)
  | [], [] => by rw [decide_eq_false (List.lt_irrefl _)]; rfl
  | [], b :: t => by rw [decide_eq_true (List.nil_lt_cons b t)]; rfl
  | a :: r, [] => by rw [decide_eq_false (List.not_lt_nil _)]; rfl
  | a :: r, b :: t => by
    show (decide (a < b) || (a == b && Spec.ltCps r t)) = _
    rw [ltCps_dec r t, Bool.eq_iff_iff]
    simp [List.cons_lt_cons_iff]
theorem rising_all : ∀ (r : List Str) (p : Str), PyProof.Rows.risingS p r = true → ∀ y ∈ r, ¬ y.cps.toList < p.cps.toList
  | [], p, _, y, hy => by simp at hy
  | x :: r, p, h, y, hy => by
    have h' : (!Spec.ltCps x.cps.toList p.cps.toList && PyProof.Rows.risingS x r) = true := h
    rw [Bool.and_eq_true, ltCps_dec] at h'
    have h1 : ¬ x.cps.toList < p.cps.toList := by simpa using h'.1
    rcases List.mem_cons.mp hy with rfl | hy
    · exact h1
    · have h2 := rising_all r x h'.2 y hy
      rw [List.not_lt] at h1 h2 ⊢
      exact List.le_trans h1 h2
theorem i_sortedS {K : PySem.W.Frag} {H : Hp} {Q : VK} {a : Addr} {ls : List (List Nat)} (hs : SqL K H a (ls.map S)) (h64 : ls.length < 64)
    (q : ∀ (zs : List (List Nat)) (p : Addr), zs.Perm ls → (∀ m, zs[0]? = some m → m ∈ ls ∧ ∀ y ∈ ls, ¬ y < m) → H p = none → Q (.ref p) (upd H p (.lst (zs.map S)))) : rSortedS K [.ref a] H Q := by
  refine ⟨a, ls.map fun l => (⟨l.toArray⟩ : Str), rfl, by rw [List.map_map]; exact hs, by rw [List.length_map]; exact h64, fun ys p pm srt np => ?_⟩
  have e : ys = (ys.map fun z => z.cps.toList).map fun l => (⟨l.toArray⟩ : Str) := by
    rw [List.map_map]
    have : ys.map ((fun l => (⟨l.toArray⟩ : Str)) ∘ fun z => z.cps.toList) = ys.map id := List.map_congr_left fun z _ => rfl
    rw [this, List.map_id]
  have pm2 : (ys.map fun z => z.cps.toList).Perm ls := by
    have := pm.map fun z : Str => z.cps.toList
    rw [List.map_map] at this
    have e2 : ls.map ((fun z : Str => z.cps.toList) ∘ fun l => (⟨l.toArray⟩ : Str)) = ls.map id := List.map_congr_left fun l _ => rfl
    rw [e2, List.map_id] at this
    exact this
  have := q (ys.map fun z => z.cps.toList) p pm2 (fun m hm => ?_) np
  · rw [List.map_map] at this
    have e3 : ys.map (S ∘ fun z => z.cps.toList) = ys.map V.str := List.map_congr_left fun z _ => rfl
    rw [e3] at this
    exact this
  · have hmem : m ∈ ys.map fun z => z.cps.toList := List.mem_of_getElem? hm
    refine ⟨pm2.mem_iff.mp hmem, fun y hy => ?_⟩
    have hy2 := pm2.mem_iff.mpr hy
    obtain ⟨z, hz, rfl⟩ := List.mem_map.mp hy2
    cases ys with
    | nil => simp at hz
    | cons x r =>
      have hm' : x.cps.toList = m := by simpa using hm
      rw [← hm']
      have srt' : PyProof.Rows.risingS x r = true := srt
      rcases List.mem_cons.mp hz with rfl | hz
      · exact List.lt_irrefl _
      · exact rising_all r x srt' z hz
section
variable {K : PySem.W.Frag} {σ : L2.St} {H : Hp} {Q : VK} {a dd D C : Addr} {fs : List (Str × V)} {c x y v : V} {cv : Value} {b r : Bool} {i : Nat} {f : Str} {d1 d2 : PyData}
theorem i_isX (hdd : H dd = some (.xd fs)) (T : ExcD K D) (kc : ClsV c cv) (e : PySem.W.kitOne K (.ref D) cv = some b) (q : Q (.bl b) H) : rIsX K a (.ref D) (some dd) [.ref a, c] H Q := ⟨D, dd, fs, c, cv, b, rfl, rfl, rfl, hdd, T, kc, e, q⟩
theorem i_xf (h : σ[i]? = some (some (.ref a))) (hdd : H dd = some (.xd [(f, v)])) (q : Q v H) : tXf a (.ref C) (some dd) C f (tVar i) σ H Q := ⟨.ref a, h, rfl, rfl, dd, _, v, rfl, hdd, by simp [List.lookup], q⟩
theorem i_eq_data (h1 : Dp K H x d1) (h2 : Dp K H y d2) (s1 : SeqAt.shaped d1 = true) (s2 : SeqAt.shaped d2 = true) (e : PyData.eqv d1 d2 = r) (q : Q (.bl r) H) : eqP K x y H Q := .inr ⟨d1, d2, h1, h2, s1, s2, by rw [e]; exact q⟩
end
theorem cIsX (K : PySem.W.Frag) {X : Cx} {a : Addr} {oe : Obj} {cls : Value} {d : Option Addr} {pn : List (Addr × Obj)} (hz : Zc cls d oe) (hf : ∃ vs, oe.data = .fields vs) (h : X.K = K := by rfl) : CallR (X.suite a ((a, oe) :: pn)) (.builtin "isinstance") (rIsX K a cls d) := h ▸ call_isX hz hf
/-- what a clause asks, at an error of a class that it names -/
theorem i_caught {K : PySem.W.Frag} {C : Addr} {c : Value} {i : Nat} {ts : Addr → Value → Option Addr → TS} {Wout : WX} {D : Ends} {d : Option Addr} {σ : L2.St} {H : Hp} (h : PySem.W.exmOne K (.ref C) c = some true)
    (q : ∀ a, H a = none → ts a (.ref C) d { nx := fun σ' H' => D.nx (σ'.set i none) H', rt := D.rt, bk := fun σ' H' => D.bk (σ'.set i none) H', ct := fun σ' H' => D.ct (σ'.set i none) H' } (σ.set i (some (.ref a))) H) : wAs K c i ts Wout D (.ref C) d σ H :=
  ⟨true, h, fun _ => q, fun z => nomatch z⟩
theorem kit_ref {K : PySem.W.Frag} {C D : Addr} {b : Bool} (hi : PySem.W.isClsIn K D = true) (ht : PySem.W.typeIn K (.ref D) = some (.type "type")) (hs : PySem.W.subIn K (.ref D) (.ref D) = some true) (e : PySem.W.subIn K (.ref C) (.ref D) = some b) : PySem.W.kitOne K (.ref C) (.ref D) = some b := by
  unfold PySem.W.kitOne
  by_cases h : C = D
  · subst h
    rw [hs] at e
    rw [if_pos (beq_self_eq_true _)]
    exact e
  · rw [if_neg (fun z => h (by simpa using z))]
    show (if ((PySem.W.clsIn K D).isSome && PySem.W.typeIn K (.ref D) == some (.type "type")) = true then PySem.W.subIn K (.ref C) (.ref D) else none) = _
    rw [show (PySem.W.clsIn K D).isSome = true from hi, ht, if_pos (by simp)]
    exact e
theorem exm_ref {K : PySem.W.Frag} {C D : Addr} {b : Bool} (hi : PySem.W.isClsIn K D = true) (ht : PySem.W.typeIn K (.ref D) = some (.type "type")) (hb : PySem.W.subIn K (.ref D) (.type "BaseException") = some true) (e : PySem.W.subIn K (.ref C) (.ref D) = some b) : PySem.W.exmOne K (.ref C) (.ref D) = some b := by
  unfold PySem.W.exmOne
  rw [hb, if_pos (by simp)]
  show (if ((PySem.W.clsIn K D).isSome && PySem.W.typeIn K (.ref D) == some (.type "type")) = true then PySem.W.subIn K (.ref C) (.ref D) else none) = _
  rw [show (PySem.W.clsIn K D).isSome = true from hi, ht, if_pos (by simp)]
  exact e
theorem passN {X : Cx} : Passes (L2.CX X.prog X.w) X E0 := fun _ _ _ _ _ _ _ ⟨_, _, _, _, _, _, _, _, _, _, _, _, h⟩ => h.elim
theorem blkOk_in {N : List Str} {sc scope scope2 : Scope} {own : List (Str × Nat)} {X : Cx} {s : Shared} {H : Hp} {cl : List (Str × Addr)} {C : Addr} {fp : List Addr} (hN : X.N = N) (he : X.env.scope = sc) (h : blkC N (relS scope sc) scope2 own = true) :
    BlkOk (X.blk s H scope (compEnvC scope cl C X.env) fp).N (X.blk s H scope (compEnvC scope cl C X.env) fp).env.scope scope2 own := by
  subst hN he
  exact blkOk_by h
theorem i_is_bl {H : Hp} {Q : VK} {b : Bool} (q : Q (.bl false) H) : isP (.bl b) .non H Q := ⟨rfl, q⟩
theorem i_isn_bl {H : Hp} {Q : VK} {b : Bool} (q : Q (.bl true) H) : isNotP (.bl b) .non H Q := ⟨rfl, q⟩
theorem i_int_bl {H : Hp} {Q : VK} {b : Bool} (q : Q (.int (if b then 1 else 0)) H) : rIntP [.bl b] H Q := .inr ⟨b, rfl, q⟩
section
variable {K : PySem.W.Frag} {σ : L2.St} {H : Hp} {Q : VK} {D : Ends} {te : TE} {ta : TA} {i j : Nat} {u v w x : V} {a : Addr} {Qs : L2.St → Hp → Prop}
theorem i_par (q : ta σ H fun vs H1 => ∃ v w, vs = [v, w] ∧ D.nx ((σ.set i (some v)).set j (some w)) H1) : tPar i j ta D σ H := q
theorem i_par2 (q : D.nx ((σ.set i (some v)).set j (some w)) H) : ∃ v' w', [v, w] = [v', w'] ∧ D.nx ((σ.set i (some v')).set j (some w')) H := ⟨v, w, rfl, q⟩
theorem i_aug {ti : TIp} (h : σ[i]? = some (some x)) (q : te σ H fun y H1 => ti x y H1 fun z H2 => D.nx (σ.set i (some z)) H2) : tAug i te ti D σ H := ⟨x, h, q⟩
theorem i_ipI {f : Int → Int → Int} {a b : Int} (q : Q (.int (f a b)) H) : ipI f (.int a) (.int b) H Q := ⟨a, b, rfl, rfl, q⟩
theorem i_gtup2 (h : SqT K H a [u, v]) (q : Qs ((σ.set i (some u)).set j (some v)) H) : gTup K 2 (gCons (gName i) (gCons (gName j) gNil)) (.ref a) σ H Qs := ⟨a, _, rfl, h, rfl, u, _, rfl, v, _, rfl, rfl, q⟩
theorem i_while {c : TT} {tb : TS} (W : Nat → L2.St → Hp → Prop) (m : Nat) (h0 : W m σ H)
    (h : ∀ m σ H, W m σ H → c σ H fun b H1 => if b = true then ∃ N : L2.St → Hp → Prop, (∀ σ' H', N σ' H' → ∃ m', m' < m ∧ W m' σ' H') ∧ tb { D with nx := N, ct := N, bk := D.nx } σ H1 else D.nx σ H1) : tWhile c tb D σ H := ⟨W, ⟨m, h0⟩, h⟩
theorem i_turn {tb : TS} {W : Nat → L2.St → Hp → Prop} {m : Nat} (q : tb { D with nx := fun σ' H' => ∃ m', m' < m ∧ W m' σ' H', ct := fun σ' H' => ∃ m', m' < m ∧ W m' σ' H', bk := D.nx } σ H) :
    ∃ N : L2.St → Hp → Prop, (∀ σ' H', N σ' H' → ∃ m', m' < m ∧ W m' σ' H') ∧ tb { D with nx := N, ct := N, bk := D.nx } σ H := ⟨_, fun _ _ h => h, q⟩
theorem i_lstRg1 (q : te σ H fun x H1 => ∃ n, x = .int n ∧ RgOk 0 n ∧ ∀ q, H1 q = none → Q (.ref q) (upd H1 q (.lst (rgV 0 n)))) : tLstRg (tRg1 te) σ H Q := q
end
end Fg
namespace Fg
open PySem PySem.Spec PyProof.Rows L2
theorem same_upd {H : Hp} {p : Addr} {o : HO} (h : H p = none) : Same H (upd H p o) := fun b x e => by
  rw [upd_ne (ne_of_none e h)]
  exact e
theorem Same.upd {H H' : Hp} {p : Addr} {o : HO} (e : Same H H') (h : H p = none) : Same H (upd H' p o) := fun b x eb => by
  rw [upd_ne (ne_of_none eb h)]
  exact e b x eb
theorem Same.tup {K : PySem.W.Frag} {H H' : Hp} {a : Addr} {xs : List V} (e : Same H H') (h : SqT K H a xs) : SqT K H' a xs := by
  rcases h with (h | ⟨o, h⟩) | h
  · exact .inl (.inl (e _ _ h))
  · exact .inl (.inr ⟨o, e _ _ h⟩)
  · exact .inr h
section
variable {K : PySem.W.Frag} {σ : L2.St} {H : Hp} {Q : VK} {D : Ends} {te tl : TE} {tt : TT} {ta : TA} {tb : TS} {j : Nat} {g : TG} {a : Addr} {xs : List V} {z : List Nat} {vs : List Nat}
/-- for j in range(n) -/
theorem f_rng1 (n : Nat) (ha : ∀ R : List V → Hp → Prop, R [.int (n : Int)] H → ta σ H R) (hn : n ≤ 100000000) (Pv : Nat → L2.St → Hp → Prop) (h0 : Pv 0 σ H)
    (hs : ∀ i σ' H', i < n → Pv i σ' H' → g (.int (i : Int)) σ' H' fun σ2 H2 => tb { D with nx := Pv (i + 1), ct := Pv (i + 1), bk := D.nx } σ2 H2) (hd : ∀ σ' H', Pv n σ' H' → D.nx σ' H') : tFor (iRng1 ta) g tb D σ H := by
  refine ha _ ⟨(n : Int), rfl, by omega, by omega, ?_⟩
  rw [Int.toNat_natCast]
  refine for_range Pv h0 (fun i σ' H' hi p => ?_) hd
  rw [Int.zero_add]
  exact hs i σ' H' hi p
/-- for j in range(lo, n) -/
theorem f_rng2 (lo n : Nat) (ha : ∀ R : List V → Hp → Prop, R [.int (lo : Int), .int (n : Int)] H → ta σ H R) (hn : lo ≤ 100000 ∧ n ≤ 100000000) (Pv : Nat → L2.St → Hp → Prop) (h0 : Pv 0 σ H)
    (hs : ∀ i σ' H', lo + i < n → Pv i σ' H' → g (.int ((lo + i : Nat) : Int)) σ' H' fun σ2 H2 => tb { D with nx := Pv (i + 1), ct := Pv (i + 1), bk := D.nx } σ2 H2) (hd : ∀ σ' H', Pv (n - lo) σ' H' → D.nx σ' H') : tFor (iRng2 ta) g tb D σ H := by
  refine ha _ ⟨(lo : Int), (n : Int), rfl, ⟨by omega, by omega, by omega, by omega⟩, ?_⟩
  have e : ((n : Int) - (lo : Int)).toNat = n - lo := by omega
  rw [e]
  refine for_range Pv h0 (fun i σ' H' hi p => ?_) hd
  rw [← Int.natCast_add]
  exact hs i σ' H' (by omega) p
/-- for i, c in enumerate(text) -/
theorem f_enumS {i1 i2 : Nat} (ha : ∀ R : List V → Hp → Prop, R [S z] H → ta σ H R) (Pv : Nat → L2.St → Hp → Prop) (h0 : Pv 0 σ H)
    (hs : ∀ i c σ' H' T, z[i]? = some c → Pv i σ' H' → H' T = none → tb { D with nx := Pv (i + 1), ct := Pv (i + 1), bk := D.nx } ((σ'.set i1 (some (.int (i : Int)))).set i2 (some (S [c]))) (upd H' T (.tup [.int (i : Int), S [c]]))) (hd : ∀ σ' H', Pv z.length σ' H' → D.nx σ' H') :
    tFor (iEnumP K ta) (gTup K 2 (gCons (gName i1) (gCons (gName i2) gNil))) tb D σ H := by
  have e : (⟨z.toArray⟩ : Str).cps.size = z.length := str_len z
  refine ha _ (.inr ⟨⟨z.toArray⟩, rfl, ?_⟩)
  have w : Walk (Ites ⟨z.toArray⟩) z.length (fun _ => True) (fun i Ha v Hb => ∃ T c, v = .ref T ∧ Ha T = none ∧ Hb = upd Ha T (.tup [.int (i : Nat), S [c]]) ∧ z[i]? = some c) := by
    refine ⟨fun i H' hi _ => by show i < (⟨z.toArray⟩ : Str).cps.size; rw [e]; exact hi, fun H' _ => e.symm, fun i H' x H2 hi _ y => ?_⟩
    obtain ⟨T, c, h1, h2, h3, h4⟩ := y
    exact ⟨T, c, h1, h2, h3, by simpa using h4⟩
  refine for_it w Pv h0 (fun _ _ _ _ _ => True.intro) (fun i x σ' H' H2 hi p y => ?_) hd
  obtain ⟨T, c, rfl, nT, rfl, hc⟩ := y
  exact ⟨T, _, rfl, SqT.of upd_same, rfl, _, _, rfl, _, _, rfl, rfl, hs i c σ' H' T hc p nT⟩
def Lw (H1 : Hp) (Dl : Addr) (l : Nat → List V) (i : Nat) (H' : Hp) : Prop := H1 Dl = none ∧ Same H1 H' ∧ H' Dl = some (.lst (l i))
/-- the kept ones among the first n -/
def kept (f : Nat → Bool) (v : Nat → V) (n : Nat) : List V := ((List.range n).filter f).map v
theorem kept_yes {f : Nat → Bool} {v : Nat → V} {n : Nat} (h : f n = true) : kept f v (n + 1) = kept f v n ++ [v n] := by
  unfold kept
  rw [List.range_succ, List.filter_append, List.map_append, List.filter_cons_of_pos h] <;> rfl
theorem kept_no {f : Nat → Bool} {v : Nat → V} {n : Nat} (h : f n = false) : kept f v (n + 1) = kept f v n := by
  unfold kept
  rw [List.range_succ, List.filter_append, List.map_append, List.filter_cons_of_neg (by rw [h]; decide)]
  simp
theorem kept_len (f : Nat → Bool) (v : Nat → V) (n : Nat) : (kept f v n).length ≤ n := by
  unfold kept
  rw [List.length_map]
  exact Nat.le_trans (List.length_filter_le _ _) (by rw [List.length_range]; exact Nat.le_refl _)
theorem kept_all (v : Nat → V) (n : Nat) : kept (fun _ => true) v n = (List.range n).map v := by
  unfold kept
  rw [List.filter_eq_self.mpr (fun _ _ => rfl)]
theorem lw_turn {H1 H' : Hp} {Dl : Addr} {f : Nat → Bool} {v : Nat → V} {i : Nat} {σ2 : L2.St} (p : Lw H1 Dl (kept f v) i H') (hi : i < 100000)
    (ht : ∀ H2, Same H1 H2 → ∀ QB : Bool → Hp → Prop, (∀ H3, Same H2 H3 → QB (f i) H3) → tt σ2 H2 QB) (he : ∀ H2, Same H1 H2 → f i = true → ∀ QV : VK, (∀ H3, Same H2 H3 → QV (v i) H3) → te σ2 H2 QV) :
    tt σ2 H' fun b H3 => if b = true then te σ2 H3 fun y H4 => ∃ acc, H4 Dl = some (.lst acc) ∧ acc.length < sizeLine ∧ Lw H1 Dl (kept f v) (i + 1) (upd H4 Dl (.lst (acc ++ [y]))) else Lw H1 Dl (kept f v) (i + 1) H3 := by
  obtain ⟨n1, s1, d1⟩ := p
  refine ht H' s1 _ fun H3 s3 => ?_
  cases hf : f i with
  | true =>
    rw [if_pos rfl]
    refine he H3 (s1.trans s3) hf _ fun H4 s4 => ⟨kept f v i, s4 _ _ (s3 _ _ d1), ?_, n1, ?_, ?_⟩
    · exact Nat.lt_of_le_of_lt (kept_len f v i) (Nat.lt_trans hi (by decide))
    · exact Same.upd ((s1.trans s3).trans s4) n1
    · rw [kept_yes hf]; exact upd_same
  | false =>
    rw [if_neg (by decide)]
    exact ⟨n1, s1.trans s3, by rw [kept_no hf]; exact s3 _ _ d1⟩
/-- [te for j in range(n) if tt] -/
theorem c_rng1 (n : Nat) (ha : ∀ R : List V → Hp → Prop, R [.int (n : Int)] H → ta σ H R) (hn : n ≤ 100000) (f : Nat → Bool) (v : Nat → V) (hw : ∀ x, wipe ((wipe σ vs).set j (some x)) vs = wipe σ vs)
    (ht : ∀ i H2, i < n → Same H H2 → ∀ QB : Bool → Hp → Prop, (∀ H3, Same H2 H3 → QB (f i) H3) → tt ((wipe σ vs).set j (some (.int (i : Int)))) H2 QB)
    (he : ∀ i H2, i < n → Same H H2 → f i = true → ∀ QV : VK, (∀ H3, Same H2 H3 → QV (v i) H3) → te ((wipe σ vs).set j (some (.int (i : Int)))) H2 QV)
    (q : ∀ Dl H2, H Dl = none → Same H H2 → H2 Dl = some (.lst (kept f v n)) → Q (.ref Dl) H2) : tLc (iRng1 ta) (gName j) tt te vs σ H Q := by
  refine ha _ ⟨(n : Int), rfl, by omega, by omega, fun Dl nD => ?_⟩
  rw [Int.toNat_natCast]
  refine lc_range (Lw H Dl (kept f v)) ⟨nD, same_upd nD, upd_same⟩ (fun i H' hi p => ?_) (fun H' p => q Dl H' p.1 p.2.1 p.2.2)
  rw [Int.zero_add]
  exact ⟨hw _, lw_turn p (by omega) (fun H2 s2 => ht i H2 hi s2) (fun H2 s2 => he i H2 hi s2)⟩
/-- .. every one -/
theorem c_rng1A (n : Nat) (ha : ∀ R : List V → Hp → Prop, R [.int (n : Int)] H → ta σ H R) (hn : n ≤ 100000) (v : Nat → V) (hw : ∀ x, wipe ((wipe σ vs).set j (some x)) vs = wipe σ vs)
    (he : ∀ i H2, i < n → Same H H2 → ∀ QV : VK, (∀ H3, Same H2 H3 → QV (v i) H3) → te ((wipe σ vs).set j (some (.int (i : Int)))) H2 QV)
    (q : ∀ Dl H2, H Dl = none → Same H H2 → H2 Dl = some (.lst ((List.range n).map v)) → Q (.ref Dl) H2) : tLc (iRng1 ta) (gName j) tYes te vs σ H Q :=
  c_rng1 n ha hn (fun _ => true) v hw (fun i H2 hi s2 QB k => k H2 (L2.Same.refl H2)) (fun i H2 hi s2 _ => he i H2 hi s2) (fun Dl H2 n1 s1 d1 => q Dl H2 n1 s1 (by rw [kept_all] at d1; exact d1))
/-- [te for j in a list if tt] -/
theorem c_lst (ha : ∀ R : VK, R (.ref a) H → tl σ H R) (hx : SqL K H a xs) (hn : xs.length ≤ 100000) (f : Nat → Bool) (v : Nat → V) (hw : ∀ x, wipe ((wipe σ vs).set j (some x)) vs = wipe σ vs)
    (ht : ∀ i x H2, xs[i]? = some x → Same H H2 → ∀ QB : Bool → Hp → Prop, (∀ H3, Same H2 H3 → QB (f i) H3) → tt ((wipe σ vs).set j (some x)) H2 QB)
    (he : ∀ i x H2, xs[i]? = some x → Same H H2 → f i = true → ∀ QV : VK, (∀ H3, Same H2 H3 → QV (v i) H3) → te ((wipe σ vs).set j (some x)) H2 QV)
    (q : ∀ Dl H2, H Dl = none → Same H H2 → H2 Dl = some (.lst (kept f v xs.length)) → Q (.ref Dl) H2) : tLc (iAny K tl) (gName j) tt te vs σ H Q := by
  refine ha _ (.inl ⟨a, xs, rfl, hx, fun Dl nD => ?_⟩)
  refine lc_list (Lw H Dl (kept f v)) ⟨nD, same_upd nD, upd_same⟩ (fun i H' hi p => p.2.1.seq hx) (fun i x H' hi p => ?_) (fun H' p => q Dl H' p.1 p.2.1 p.2.2)
  have hlt := (List.getElem?_eq_some_iff.mp hi).1
  exact ⟨hw _, lw_turn p (by omega) (fun H2 s2 => ht i x H2 hi s2) (fun H2 s2 => he i x H2 hi s2)⟩
/-- [te for j in a tuple if tt] -/
theorem c_tup (ha : ∀ R : VK, R (.ref a) H → tl σ H R) (hx : SqT K H a xs) (hn : xs.length ≤ 100000) (f : Nat → Bool) (v : Nat → V) (hw : ∀ x, wipe ((wipe σ vs).set j (some x)) vs = wipe σ vs)
    (ht : ∀ i x H2, xs[i]? = some x → Same H H2 → ∀ QB : Bool → Hp → Prop, (∀ H3, Same H2 H3 → QB (f i) H3) → tt ((wipe σ vs).set j (some x)) H2 QB)
    (he : ∀ i x H2, xs[i]? = some x → Same H H2 → f i = true → ∀ QV : VK, (∀ H3, Same H2 H3 → QV (v i) H3) → te ((wipe σ vs).set j (some x)) H2 QV)
    (q : ∀ Dl H2, H Dl = none → Same H H2 → H2 Dl = some (.lst (kept f v xs.length)) → Q (.ref Dl) H2) : tLc (iAny K tl) (gName j) tt te vs σ H Q := by
  refine ha _ (.inr (.inl ⟨a, xs, rfl, hx, fun Dl nD => ?_⟩))
  refine lc_tup (Lw H Dl (kept f v)) ⟨nD, same_upd nD, upd_same⟩ (fun i H' hi p => Same.tup p.2.1 hx) (fun i x H' hi p => ?_) (fun H' p => q Dl H' p.1 p.2.1 p.2.2)
  have hlt := (List.getElem?_eq_some_iff.mp hi).1
  exact ⟨hw _, lw_turn p (by omega) (fun H2 s2 => ht i x H2 hi s2) (fun H2 s2 => he i x H2 hi s2)⟩
end
def LoopG (g : TG) (tb : TS) (D : Ends) (σ : L2.St) : It → Hp → Prop := fun J H1 => tFor (fun _ _ R => R J H1) g tb D σ H1
section
variable {K : PySem.W.Frag} {σ : L2.St} {H : Hp} {D : Ends} {te : TE} {tb : TS} {g : TG} {a : Addr} {xs : List V}
theorem i_for (q : te σ H fun x H1 => (∃ a xs, x = .ref a ∧ SqL K H1 a xs ∧ LoopG g tb D σ (Itl K a) H1) ∨ (∃ a xs, x = .ref a ∧ SqT K H1 a xs ∧ LoopG g tb D σ (Itt K a) H1) ∨ (∃ z, x = .str z ∧ LoopG g tb D σ (Its z) H1)) : tFor (iAny K te) g tb D σ H := q
theorem i_forL {B : Prop} (hx : SqL K H a xs) (Pv : Nat → L2.St → Hp → Prop) (h0 : Pv 0 σ H) (hl : ∀ i σ' H', i ≤ xs.length → Pv i σ' H' → SqL K H' a xs)
    (hs : ∀ i x σ' H', xs[i]? = some x → Pv i σ' H' → g x σ' H' fun σ2 H2 => tb { D with nx := Pv (i + 1), ct := Pv (i + 1), bk := D.nx } σ2 H2) (hd : ∀ σ' H', Pv xs.length σ' H' → D.nx σ' H') :
    (∃ a' xs', V.ref a = .ref a' ∧ SqL K H a' xs' ∧ LoopG g tb D σ (Itl K a') H) ∨ B := .inl ⟨a, xs, rfl, hx, for_list Pv h0 hl hs hd⟩
end
section
variable {K : PySem.W.Frag} {σ : L2.St} {H : Hp} {Q : VK} {D : Ends} {ta : TA} {tb : TS} {g : TG} {a b : Addr} {xs ys : List V}
theorem i_forR (q : ta σ H fun vs H1 => ∃ j : Int, vs = [.int j] ∧ -(2 ^ 62) ≤ j ∧ j < 2 ^ 62 ∧ LoopG g tb D σ (Itr 0 j.toNat) H1) : tFor (iRng1 ta) g tb D σ H := q
theorem i_rngD {n : Int} (h0 : 0 ≤ n) (h : n ≤ 100000000) (Pv : Nat → L2.St → Hp → Prop) (hp : Pv 0 σ H)
    (hs : ∀ (i : Nat) σ' H', (i : Int) < n → Pv i σ' H' → g (.int (i : Int)) σ' H' fun σ2 H2 => tb { D with nx := Pv (i + 1), ct := Pv (i + 1), bk := D.nx } σ2 H2) (hd : ∀ σ' H', Pv n.toNat σ' H' → D.nx σ' H') :
    ∃ j : Int, [V.int n] = [.int j] ∧ -(2 ^ 62) ≤ j ∧ j < 2 ^ 62 ∧ LoopG g tb D σ (Itr 0 j.toNat) H := by
  refine ⟨n, rfl, by omega, by omega, ?_⟩
  refine for_range Pv hp (fun i σ' H' hi p => ?_) hd
  rw [Int.zero_add]
  exact hs i σ' H' (by omega) p
theorem i_catL (h1 : H a = some (.lst xs)) (h2 : H b = some (.lst ys)) (hz : xs.length + ys.length ≤ 100000) (q : ∀ p, H p = none → Q (.ref p) (upd H p (.lst (xs ++ ys)))) : addP K (.ref a) (.ref b) H Q :=
  .inr (.inr (.inl ⟨a, b, xs, ys, rfl, rfl, h1, h2, Nat.le_trans hz (by decide), q⟩))
theorem i_slL {lo hi : Option Int} (h : SqL K H a xs) (q : ∀ p, H p = none → Q (.ref p) (upd H p (.lst (cutV xs lo hi)))) : slP K (.ref a) lo hi H Q := .inl ⟨a, xs, rfl, h, q⟩
theorem cutV_to {xs : List V} (k : Nat) : cutV xs none (some (k : Int)) = xs.take k := by
  unfold cutV
  rw [HT.sIx_none, List.drop_zero, Nat.sub_zero, HT.sIx_nat]
  by_cases h : k ≤ xs.length
  · rw [Nat.min_eq_left h]
  · rw [Nat.min_eq_right (by omega), List.take_length, List.take_of_length_le (by omega)]
theorem atI_last {xs : List V} {v : V} : atI (xs ++ [v]) (-1) = some v := by
  unfold atI ixN
  rw [if_neg (by decide), if_pos (by rw [List.length_append, List.length_singleton]; omega), Option.bind_some]
  have e : (-1 + ((xs ++ [v]).length : Int)).toNat = xs.length := by rw [List.length_append, List.length_singleton]; omega
  rw [e, List.getElem?_append_right (Nat.le_refl _), Nat.sub_self]
  rfl
end
end Fg
namespace Fg
open PySem PySem.Spec PyProof.Rows L2
/-- the promise of the def at f, where no display stands around -/
structure GOk (P : Program) (w : World) (K : PySem.W.Frag) (mg : Str → Option Value) (base : Heap) (CX : CXT) (k : Nat) (f : Addr) (fd : FuncData) (ps : List Str) (sp : Sp) : Prop where
  many : ∀ vs H Q E, sp vs H Q E → vs.length = ps.length
  runs : ∀ (B : Around) (o : List Env) (t : Shared) (H : Hp) (ar : Args) (us : List Value) (vs : List V) (Q : VK) (E : XK),
    B.guards = some [] → Room k B → Env0 P w K mg base B o t H → BindsTo t fd ar (ps.zip us) → Vals vs us →
    sp vs H Q E → codeAny (model P w) B (.call (.ref f) ar) (CR CX o P w H t Q E) t
section
variable {P : Program} {w : World} {K : PySem.W.Frag} {mg : Str → Option Value} {base : Heap} {CX : CXT} {k : Nat} {f : Addr} {fd : FuncData} {ps N : List Str} {sp : Sp} {x q : Str} {st : Stmt}
theorem GOk.of (F : FnOk P w K mg base CX k f fd ps sp) : GOk P w K mg base CX k f fd ps sp :=
  ⟨F.len, fun B o t H ar us vs Q E _ r e b v s => F.run B o t H ar us vs Q E r e b v s⟩
/-- a def's body, walked where no display stands around -/
theorem gok_mk (F : Fun K x q st f fd) (S : FnScope N ps (defScope st)) (many : ∀ vs H Q E, sp vs H Q E → vs.length = ps.length)
    (body : ∀ (cv : Value) (B : Around) (o : List Env) (t : Shared) (H : Hp) (vs : List V) (Q : VK) (E : XK), B.guards = some [] →
      Room k (B.deeper (envOfC q (defScope st) t.heap.objs.size f cv)) → sp vs H Q E →
      ∃ rd, PSs (cxOf CX P w K mg base N q (defScope st) f cv B o t H E) (defBody st) rd ∧
        rd { nx := fun _ H2 => Q .non H2, rt := Q } (start N vs) H) : GOk P w K mg base CX (k + 1) f fd ps sp := by
  obtain ⟨c1, d1, kw1, dc1, pm1, an1, cv1, ct1, sl1, rfl, at1, code1⟩ := F.ex
  refine ⟨many, fun B o t H ar us vs Q E hgu room en bd rv asked => ?_⟩
  have inK : K.In t.heap := en.mod.kin.keeps fun b u e => (en.bs b u e).1
  have nolim : t.heap.NoLimit := en.mod.nolimit.keeps fun b u e => (en.bs b u e).1
  have n1 := many _ _ _ _ asked
  refine codeAny_call_function room.depth (inK _ _ at1) rfl S.co S.gen rfl
    (PySem.W.codeRec_of inK code1) (bd _ _ _ _ ?_)
  refine wpAny_newFunctionEnv_cells S.kind (fun ⟨nm, u⟩ hm => ?_) fun env he t1 made => ?_
  · exact (S.par nm (List.of_mem_zip hm).1).elim .inl fun z => .inr ⟨z, PySem.W.cellsFrom_some _ _ _ (.inl z)⟩
  subst he
  obtain ⟨rd, walked, holds⟩ := body cv1 B o t H vs Q E hgu (room.deeper _) asked
  have I0 := inv_start (CX := CX) (E := E) S room.hd en n1 rv made
  refine ⟨nolim.keeps made.toInCall.keep, codeAny_func (wpAny_mono (walked.run [] t1 (start N vs) H _ I0 holds) (fun fl t2 h2 => ?_) fun _ _ h2 => h2)⟩
  cases fl with
  | brk => obtain ⟨_, _, _, z⟩ := h2; exact z.elim
  | cont => obtain ⟨_, _, _, z⟩ := h2; exact z.elim
  | next =>
    obtain ⟨_, H2, J, z⟩ := h2
    exact ⟨.non, H2, J.os, J.bare, J.base, J.hok, rfl, z⟩
  | ret u =>
    obtain ⟨v, _, H2, J, rv2, z⟩ := h2
    exact ⟨v, H2, J.os, J.bare, J.base, J.hok, rv2, z⟩
end
section
variable {X : Cx} {CX : CXT} {k : Nat} {f : Addr} {fd : FuncData} {ps : List Str} {sp : Sp} {E : XK} {x : Str} {p pos : PySem.Pos} {e : Expr} {es : List Expr} {ta : TA}
theorem run_g (F : GOk X.prog X.w X.K X.mg X.base CX k f fd ps sp) (hgu : X.A.guards = some []) (hr : Room k X.A) (hb : Binds X.K fd ps []) (hx : Passes CX X E) {pins : List (Addr × Obj)} {σ : L2.St} {H : Hp} {s : Shared} {Q : VK} {us : List Value} {vs : List V}
    (I : Inv X pins σ H s) (r : Vals vs us) (h : sp (vs ++ []) H Q E) : wpAny (model X.prog X.w) X.A (call (.ref f) us) (EP X pins σ Q) X.xe s := by
  rw [List.append_nil] at h
  have n1 : us.length = ps.length := by rw [← r.length]; exact F.many _ _ _ _ h
  have b1 := hb s us I.kIn (by rw [List.append_nil]; exact n1)
  rw [List.append_nil] at b1
  refine wpAny_call (codeAny_mono (F.runs X.A X.stack s H ⟨us, []⟩ us vs Q E hgu hr I.env0 b1 r h) fun res t2 h2 => ?_)
  cases res with
  | error z => exact hx pins σ H s z t2 I h2
  | ok fl =>
    cases fl with
    | next => exact h2.elim
    | brk => exact h2.elim
    | cont => exact h2.elim
    | ret u => exact I.after h2
/-- .. and how it stands in the text -/
def GOK (P : Program) (w : World) (K : PySem.W.Frag) (mg : Str → Option Value) (base : Heap) (CX : CXT) (k : Nat) (x : Str) (ps : List Str) (sp : Sp) : Prop :=
  ∃ (f : Addr) (fd : FuncData), GOk P w K mg base CX k f fd ps sp ∧ mg x = some (.ref f) ∧ PySem.W.keepIn K (.ref f) = true ∧ Binds K fd ps []
theorem pe_g (G : GOK X.prog X.w X.K X.mg X.base CX k x ps sp) (hgu : X.A.guards = some []) (hr : Room k X.A) (hx : Passes CX X E) (ha : PA X (e :: es) ta) (hg : Gl X x := by rfl) (hd : (x == ("__debug__" : Str)) = false := by decide)
    (he : starEach (e :: es) X.env = (false, eval e X.env) :: starEach es X.env := by rfl) (hpl : (backTo pos (starEach es X.env)).any (·.1) = false := by rfl) :
    PE X (.Call (.Name x p) (e :: es) [] pos) (tCall sp [] E ta) := by
  obtain ⟨f, fd, F, hm, hk, hb⟩ := G
  exact ⟨fun pins s σ H Q I h => wpAny_Call_Name_kw (ld_glob I hg hm (PySem.W.callWith_K (h₀ := X.base) I.ok.mod.kin hk
    (thn (ha.run pos pins s σ H _ I h) fun us s1 ⟨vs, H1, I1, r, q⟩ => ⟨I1.kIn, run_g F hgu hr hb hx I1 r q⟩) he hpl) hd)⟩
end
/-- one heap in which the script alone may be tracked -/
def SoleAt (K : PySem.W.Frag) (a : Addr) (t : Heap) (P : Program) (w : World) (xs : List V) (H : Hp) : Prop :=
  (∀ b u, H b = some u → b = a ∧ ∃ ob, u = .frz ob (.lst xs)) ∧ SqL K H a xs ∧ HOk P w H t ∧ (H a ≠ none → K.lookup a = none)
theorem law_g {P : Program} {w : World} {K : PySem.W.Frag} {mg mb : Str → Option Value} {CX : CXT} {k : Nat} {fa a : Addr} {fd : FuncData} {x : Str} {sp : Sp} {t : Shared} {vs : List Value} {ns : List Int}
    (inK : K.In t.heap) (nsM : t.heap.Ns mainGlobals mg) (nsB : t.heap.Ns builtinsNs mb) (boot : ∀ y : Str, y ≠ "__name__" → mb y = bootBuiltins y) (lim : t.heap.NoLimit) (noGen : t.gens = #[])
    (script : t.heap.get? a = some { cls := .type "list", data := .seq vs.toArray }) (hni : IntsAre vs ns) (few : ns.length ≤ sizeLine) (room : Room k callerA)
    (F : ∀ base : Heap, K.In base → base.Ns mainGlobals mg → GOk P w K mg base CX k fa fd [x] sp) (bind : ∀ (s : Shared) (u : Value), BindsTo s fd ⟨[u], []⟩ [(x, u)])
    (asked : ∀ H : Hp, Only H → SqL K H a (ns.map V.int) → sp [.ref a] H (fun v _ => v = .bl true) fun _ _ _ => False)
    (noErr : ∀ H e s', CX [] H t (fun _ _ _ => False) e s' → False) :
    codeAny (model P w) callerA (.call (.ref fa) ⟨[.ref a], []⟩) (fun r t2 => r = .ok (.ret (.bool true)) ∧ OldK t.heap t2.heap ∧ t2.os = t.os ∧ AllBare t2.gens) t := by
  have hv := vals_ints hni
  have hlen : vs.length = ns.length := hni.length
  obtain ⟨H, sole, sq, hok, free⟩ : ∃ H, SoleAt K a t.heap P w (ns.map V.int) H := by
    by_cases hk : ∃ o, K.lookup a = some o
    · obtain ⟨o, hk⟩ := hk
      have e1 := inK a o hk
      rw [script] at e1
      cases e1
      exact ⟨fun _ => none, fun b u z => (nomatch z), .inr ⟨_, vs.toArray, _, hk, rfl, rfl, rfl, by rw [List.size_toArray, hlen]; exact few, by simpa using hv⟩, fun b u z => (nomatch z), fun z => absurd rfl z⟩
    · have hn : K.lookup a = none := by
        cases e1 : K.lookup a with
        | none => rfl
        | some o => exact absurd ⟨o, e1⟩ hk
      have at1 : ∀ b u, (if b = a then some (HO.frz { cls := .type "list", data := .seq vs.toArray } (.lst (ns.map V.int))) else none) = some u → b = a ∧ u = HO.frz { cls := .type "list", data := .seq vs.toArray } (.lst (ns.map V.int)) := fun b u z => by
        by_cases hb : b = a
        · rw [if_pos hb] at z; exact ⟨hb, (Option.some.inj z).symm⟩
        · rw [if_neg hb] at z; cases z
      refine ⟨fun b => if b = a then some (HO.frz { cls := .type "list", data := .seq vs.toArray } (.lst (ns.map V.int))) else none, fun b u z => ⟨(at1 b u z).1, _, (at1 b u z).2⟩, .inl (.inr ⟨_, if_pos rfl⟩), fun b u z => ?_, fun _ => hn⟩
      obtain ⟨rfl, rfl⟩ := at1 b u z
      exact ⟨script, by rw [List.length_map]; exact few, vs, _, hv, script⟩
  have only : Only H := fun b => by
    cases e1 : H b with
    | none => exact .inl rfl
    | some u =>
      obtain ⟨_, ob, rfl⟩ := sole b u e1
      exact .inr ⟨ob, _, rfl⟩
  -- the base: what stands, the script hidden if it is tracked
  have hid : ∀ {b : Addr} {o : Obj}, t.heap.get? b = some o → (b = a → H a = none) → (hidT t.heap H).get? b = some o := fun {b o} e1 e2 => hidT_get e1 (by
    cases e3 : H b with
    | none => rfl
    | some u =>
      obtain ⟨rfl, _⟩ := sole b u e3
      rw [e2 rfl] at e3; cases e3)
  have ns : ∀ {b : Addr} {m : Str → Option Value}, t.heap.Ns b m → (hidT t.heap H).Ns b m := fun {b m} ⟨o, es, ep, e1, d1, r1⟩ => ⟨o, es, ep, hid e1 (fun z => by
    subst z
    rw [script] at e1
    cases e1
    cases (show Data.seq vs.toArray _ = Data.dict es ep from d1)), d1, r1⟩
  have inB : K.In (hidT t.heap H) := fun b o e1 => hid (inK b o e1) fun z => by
    subst z
    by_cases e2 : H b = none
    · exact e2
    · rw [free e2] at e1; cases e1
  obtain ⟨mc, l1, l2⟩ := lim
  have en : Env0 P w K mg (hidT t.heap H) callerA [] t H :=
    ⟨rfl, ⟨inB, ns nsM, ⟨mb, ns nsB, boot⟩, ⟨mc, ns l1, l2⟩⟩, fun b o e1 => of_hidT e1, Nat.le_of_eq (hidT_size _ _), trivial,
      fun b hb => absurd (show b ∈ ([] : List Addr) from hb) (by simp), hok, .of_eq noGen⟩
  refine codeAny_mono ((F _ inB (ns nsM)).runs callerA [] t H ⟨[.ref a], []⟩ [.ref a] [.ref a] _ _ rfl room en (bind t (.ref a)) (.cons rfl .nil) (asked H only sq)) fun res t2 h2 => ?_
  cases res with
  | error z => exact (noErr H z t2 h2).elim
  | ok fl =>
    cases fl with
    | next => exact h2.elim
    | brk => exact h2.elim
    | cont => exact h2.elim
    | ret u =>
      obtain ⟨v, H2, os, bare, un, hok2, rv, q⟩ := h2
      have q : v = .bl true := q
      subst q
      cases (show u = Value.bool true from rv)
      refine ⟨rfl, OldK.of_keep fun b o e1 => ?_, os, bare⟩
      cases e2 : H b with
      | none => exact un.keep b o e1 e2 (fun z => absurd (show b ∈ ([] : List Addr) from z) (by simp)) (by simp)
      | some u =>
        obtain ⟨rfl, ob, rfl⟩ := sole b u e2
        obtain ⟨k1, _⟩ := hok _ _ e2
        obtain ⟨k2, _⟩ := hok2 _ _ (un.frzs _ ob _ e2)
        rw [e1] at k1; cases k1
        exact k2
theorem walk_g {l : PySem.W.OpenLaw} {n k : Nat} {q : Program} {loose : List Str} {XP : (Str → Option Value) → Heap → Prop} {YP : World → Heap → Prop} {d : DefRec} {K : Params → PySem.W.Frag} {CX : World → CXT} {sp : World → Sp} {x : Str}
    (hn : l.most = some n) (hn2 : n ≤ sizeLine) (hdf : d.params.defaults = []) (room : Room k callerA) (hY : ∀ (w : World) (h : Heap), YP w h → (K w.params).In h)
    (F : ∀ (w : World) (mg : Str → Option Value) (fa : Addr) (h : Heap), (K w.params).In h → h.Ns mainGlobals mg → mg d.name = some (.ref fa) →
      ∃ fd : FuncData, (∀ (s : Shared) (u : Value), BindsTo s fd ⟨[u], []⟩ [(x, u)]) ∧ ∀ base : Heap, (K w.params).In base → base.Ns mainGlobals mg → GOk l.prog w (K w.params) mg base (CX w) k fa fd [x] (sp w))
    (asked : ∀ (w : World) (H : Hp) (a : Addr) (ns : List Int), ns.length ≤ n → Only H → SqL (K w.params) H a (ns.map V.int) → sp w [.ref a] H (fun v _ => v = .bl true) fun _ _ _ => False)
    (noErr : ∀ (w : World) (H : Hp) (s : Shared) (e : Value) (s' : Shared), CX w [] H s (fun _ _ _ => False) e s' → False) :
    PySem.W.WalkO q loose XP YP l.row.toRowW d [] (fun f vs => PySem.call f vs) :=
  Att.attach_call hn hdf fun w s0 t mg mb fa o pm cd doc a vs ns G Y ho hd hcd hmg hobj hints hlen hg =>
    let ⟨fd, hb, hF⟩ := F w mg fa _ (hY w _ Y) G.T.g hmg
    law_g (hY w _ Y) G.T.g G.T.b G.T.builtins G.T.nolimit hg hobj hints (Nat.le_trans hlen hn2) room hF hb
      (fun H hO hS => asked w H a ns hlen hO hS) fun H e s' => noErr w H t e s'
end Fg
namespace Fg
open PySem PySem.Spec PyProof.Rows L2
/-- a def with defaults dvs keeps its promise -/
def OKD (P : Program) (w : World) (K : PySem.W.Frag) (mg : Str → Option Value) (base : Heap) (CX : CXT) (k : Nat) (x : Str) (ps : List Str) (dvs : List V) (sp : Sp) : Prop :=
  ∃ (f : Addr) (fd : FuncData), FnOk P w K mg base CX k f fd ps sp ∧ mg x = some (.ref f) ∧ PySem.W.keepIn K (.ref f) = true ∧ Binds K fd ps [] ∧ ∃ ds, Vals dvs ds ∧ Binds K fd ps ds
/-- .. how it stands in the text -/
def DefD (K : PySem.W.Frag) (mg : Str → Option Value) (x : Str) (st : Stmt) (ps : List Str) (dvs : List V) : Prop :=
  ∃ (f : Addr) (fd : FuncData), FunD K x x (defArgs st) (defBody st) (defScope st) dvs [] f fd ∧ mg x = some (.ref f) ∧ Binds K fd ps [] ∧ ∃ ds, Vals dvs ds ∧ Binds K fd ps ds
section
variable {P : Program} {w : World} {K : PySem.W.Frag} {mg : Str → Option Value} {base : Heap} {x q m : Str} {st : Stmt} {N ps : List Str} {k : Nat} {sp : Sp} {dvs : List V} {C : Addr} {CX : CXT}
theorem OKD.full (G : OKD P w K mg base CX k x ps dvs sp) : OK P w K mg base CX k x ps sp := by
  obtain ⟨f, fd, F, hm, hk, hb, _⟩ := G
  exact ⟨f, fd, F, hm, hk, hb⟩
theorem FunD.ok0 {f : Addr} {fd : FuncData} {kws : List (Str × V)} (F : FunD K x q (defArgs st) (defBody st) (defScope st) dvs kws f fd) (S : FnScope N ps (defScope st)) (len : ∀ vs H Q E, sp vs H Q E → vs.length = ps.length)
    (body : ∀ (cdv : Value) (A : Around) (outer : List Env) (s : Shared) (H : Hp) (vs : List V) (Q : VK) (E : XK), Room k (A.deeper (envOfC q (defScope st) s.heap.objs.size f cdv)) → sp vs H Q E →
      ∃ t, PSs (cxOf CX0 P w K mg base N q (defScope st) f cdv A outer s H E).nox (defBody st) t ∧ t { nx := fun _ H' => Q .non H', rt := Q } (start N vs) H) : FnOk P w K mg base CX0 (k + 1) f fd ps sp :=
  F.ok S len fun cdv A outer s H vs Q E hr h => let ⟨t, z, e⟩ := body cdv A outer s H vs Q E hr h; ⟨t, z.nox, e⟩
theorem OKD.mk (D : DefD K mg x st ps dvs) (S : FnScope N ps (defScope st)) (len : ∀ vs H Q E, sp vs H Q E → vs.length = ps.length)
    (body : ∀ (f : Addr) (cdv : Value) (A : Around) (outer : List Env) (s : Shared) (H : Hp) (vs : List V) (Q : VK) (E : XK), Room k (A.deeper (envOfC x (defScope st) s.heap.objs.size f cdv)) → sp vs H Q E →
      ∃ t, PSs (cxOf CX0 P w K mg base N x (defScope st) f cdv A outer s H E).nox (defBody st) t ∧ t { nx := fun _ H' => Q .non H', rt := Q } (start N vs) H) : OKD P w K mg base CX0 (k + 1) x ps dvs sp := by
  obtain ⟨f, fd, F, hm, hb, hd⟩ := D
  exact ⟨f, fd, FunD.ok0 F S len fun cdv A outer s H vs Q E hr h => body f cdv A outer s H vs Q E hr h, hm, F.kp, hb, hd⟩
theorem OKD.mkX (D : DefD K mg x st ps dvs) (S : FnScope N ps (defScope st)) (len : ∀ vs H Q E, sp vs H Q E → vs.length = ps.length)
    (body : ∀ (f : Addr) (cdv : Value) (A : Around) (outer : List Env) (s : Shared) (H : Hp) (vs : List V) (Q : VK) (E : XK), Room k (A.deeper (envOfC x (defScope st) s.heap.objs.size f cdv)) → sp vs H Q E →
      ∃ t, PSs (cxOf (L2.CX P w) P w K mg base N x (defScope st) f cdv A outer s H E) (defBody st) t ∧ t { nx := fun _ H' => Q .non H', rt := Q } (start N vs) H) : OKD P w K mg base (L2.CX P w) (k + 1) x ps dvs sp := by
  obtain ⟨f, fd, F, hm, hb, hd⟩ := D
  exact ⟨f, fd, F.ok S len fun cdv A outer s H vs Q E hr h => body f cdv A outer s H vs Q E hr h, hm, F.kp, hb, hd⟩
/-- a method of the class at C as it stands in the text -/
def MetIn (K : PySem.W.Frag) (C : Addr) (m q : Str) (st : Stmt) (ps : List Str) (dvs : List V) : Prop :=
  ∃ (f : Addr) (fd : FuncData), Meth K C m f ∧ FunD K m q (defArgs st) (defBody st) (defScope st) dvs [] f fd ∧ Binds K fd ps [] ∧ ∃ ds, Vals dvs ds ∧ Binds K fd ps ds
/-- .. and it keeps its promise -/
def MOK (P : Program) (w : World) (K : PySem.W.Frag) (mg : Str → Option Value) (base : Heap) (CX : CXT) (k : Nat) (C : Addr) (m : Str) (ps : List Str) (dvs : List V) (sp : Sp) : Prop :=
  ∃ (f : Addr) (fd : FuncData), Meth K C m f ∧ FnOk P w K mg base CX k f fd ps sp ∧ Binds K fd ps [] ∧ ∃ ds, Vals dvs ds ∧ Binds K fd ps ds
theorem MOK.mk (D : MetIn K C m q st ps dvs) (S : FnScope N ps (defScope st)) (len : ∀ vs H Q E, sp vs H Q E → vs.length = ps.length)
    (body : ∀ (f : Addr) (cdv : Value) (A : Around) (outer : List Env) (s : Shared) (H : Hp) (vs : List V) (Q : VK) (E : XK), Room k (A.deeper (envOfC q (defScope st) s.heap.objs.size f cdv)) → sp vs H Q E →
      ∃ t, PSs (cxOf CX0 P w K mg base N q (defScope st) f cdv A outer s H E).nox (defBody st) t ∧ t { nx := fun _ H' => Q .non H', rt := Q } (start N vs) H) : MOK P w K mg base CX0 (k + 1) C m ps dvs sp := by
  obtain ⟨f, fd, hm, F, hb, hd⟩ := D
  exact ⟨f, fd, hm, FunD.ok0 F S len fun cdv A outer s H vs Q E hr h => body f cdv A outer s H vs Q E hr h, hb, hd⟩
theorem MOK.mkX (D : MetIn K C m q st ps dvs) (S : FnScope N ps (defScope st)) (len : ∀ vs H Q E, sp vs H Q E → vs.length = ps.length)
    (body : ∀ (f : Addr) (cdv : Value) (A : Around) (outer : List Env) (s : Shared) (H : Hp) (vs : List V) (Q : VK) (E : XK), Room k (A.deeper (envOfC q (defScope st) s.heap.objs.size f cdv)) → sp vs H Q E →
      ∃ t, PSs (cxOf (L2.CX P w) P w K mg base N q (defScope st) f cdv A outer s H E) (defBody st) t ∧ t { nx := fun _ H' => Q .non H', rt := Q } (start N vs) H) : MOK P w K mg base (L2.CX P w) (k + 1) C m ps dvs sp := by
  obtain ⟨f, fd, hm, F, hb, hd⟩ := D
  exact ⟨f, fd, hm, F.ok S len fun cdv A outer s H vs Q E hr h => body f cdv A outer s H vs Q E hr h, hb, hd⟩
/-- a class whose instances its __init__ makes -/
def MkIn (K : PySem.W.Frag) (mg : Str → Option Value) (x q : Str) (C : Addr) (st : Stmt) (ps : List Str) (dvs : List V) : Prop :=
  ∃ (f : Addr) (fd : FuncData), Mk K C f ∧ mg x = some (.ref C) ∧ FunD K "__init__" q (defArgs st) (defBody st) (defScope st) dvs [] f fd ∧ Binds K fd ps [] ∧ ∃ ds, Vals dvs ds ∧ Binds K fd ps ds
def MkOK (P : Program) (w : World) (K : PySem.W.Frag) (mg : Str → Option Value) (base : Heap) (CX : CXT) (k : Nat) (x : Str) (C : Addr) (ps : List Str) (dvs : List V) (sp : Sp) : Prop :=
  ∃ (f : Addr) (fd : FuncData), Mk K C f ∧ mg x = some (.ref C) ∧ FnOk P w K mg base CX k f fd ps sp ∧ Binds K fd ps [] ∧ ∃ ds, Vals dvs ds ∧ Binds K fd ps ds
theorem MkOK.mk (D : MkIn K mg x q C st ps dvs) (S : FnScope N ps (defScope st)) (len : ∀ vs H Q E, sp vs H Q E → vs.length = ps.length)
    (body : ∀ (f : Addr) (cdv : Value) (A : Around) (outer : List Env) (s : Shared) (H : Hp) (vs : List V) (Q : VK) (E : XK), Room k (A.deeper (envOfC q (defScope st) s.heap.objs.size f cdv)) → sp vs H Q E →
      ∃ t, PSs (cxOf CX0 P w K mg base N q (defScope st) f cdv A outer s H E).nox (defBody st) t ∧ t { nx := fun _ H' => Q .non H', rt := Q } (start N vs) H) : MkOK P w K mg base CX0 (k + 1) x C ps dvs sp := by
  obtain ⟨f, fd, M, hm, F, hb, hd⟩ := D
  exact ⟨f, fd, M, hm, FunD.ok0 F S len fun cdv A outer s H vs Q E hr h => body f cdv A outer s H vs Q E hr h, hb, hd⟩
theorem MkOK.mkX (D : MkIn K mg x q C st ps dvs) (S : FnScope N ps (defScope st)) (len : ∀ vs H Q E, sp vs H Q E → vs.length = ps.length)
    (body : ∀ (f : Addr) (cdv : Value) (A : Around) (outer : List Env) (s : Shared) (H : Hp) (vs : List V) (Q : VK) (E : XK), Room k (A.deeper (envOfC q (defScope st) s.heap.objs.size f cdv)) → sp vs H Q E →
      ∃ t, PSs (cxOf (L2.CX P w) P w K mg base N q (defScope st) f cdv A outer s H E) (defBody st) t ∧ t { nx := fun _ H' => Q .non H', rt := Q } (start N vs) H) : MkOK P w K mg base (L2.CX P w) (k + 1) x C ps dvs sp := by
  obtain ⟨f, fd, M, hm, F, hb, hd⟩ := D
  exact ⟨f, fd, M, hm, F.ok S len fun cdv A outer s H vs Q E hr h => body f cdv A outer s H vs Q E hr h, hb, hd⟩
end
section
variable {X : Cx} {CX : CXT} {k n : Nat} {x m : Str} {ps ks : List Str} {sp : Sp} {dvs : List V} {E : XK} {o e : Expr} {es : List Expr} {kws : List Keyword} {to : TE} {ta tk : TA} {p pos apos : PySem.Pos} {C : Addr}
/-- f(e, ..), the defaults filling up -/
theorem pe_fd (G : OKD X.prog X.w X.K X.mg X.base CX k x ps dvs sp) (hr : Room k X.A) (hx : Passes CX X E) (ha : PA X (e :: es) ta) (hg : Gl X x := by rfl) (hd : (x == ("__debug__" : Str)) = false := by decide)
    (he : starEach (e :: es) X.env = (false, eval e X.env) :: starEach es X.env := by rfl) (hpl : (backTo pos (starEach es X.env)).any (·.1) = false := by rfl) :
    PE X (.Call (.Name x p) (e :: es) [] pos) (tCall sp dvs E ta) := by
  obtain ⟨f, fd, F, hm, hk, _, ds, hv, hb⟩ := G
  exact pe_call F hr hg hm hk hb hv hx ha hd he hpl
theorem pe_m {pl : Sem Bool} (ho : PE X o to) (c : Cls X.K C) (G : MOK X.prog X.w X.K X.mg X.base CX k C m ps dvs sp) (hr : Room k X.A) (hx : Passes CX X E) (ha : PA X (e :: es) ta)
    (hst : starEach (e :: es) X.env = (false, eval e X.env) :: starEach es X.env := by rfl) (hpl : (backTo pos (starEach es X.env)).any (·.1) = false := by rfl)
    (ht : eval (.Call (.Attribute o m apos) (e :: es) [] pos) X.env = (do
      let ov ← eval o X.env
      standAt apos.atName
      let (f, first) ← holding [ov] (getMethod ov m pl)
      callWith pos f first (backTo pos (starEach (e :: es) X.env)) (backToKw pos (keywordEach [] X.env))) := by rfl) :
    PE X (.Call (.Attribute o m apos) (e :: es) [] pos) (tMeth C m sp [] E to ta) := by
  obtain ⟨f, fd, hm, F, hb, _⟩ := G
  exact pe_meth ho c hm F hr hb .nil hx ha hst hpl ht
theorem pe_m0 {pl : Sem Bool} (ho : PE X o to) (c : Cls X.K C) (G : MOK X.prog X.w X.K X.mg X.base CX k C m ps dvs sp) (hr : Room k X.A) (hx : Passes CX X E)
    (ht : eval (.Call (.Attribute o m apos) [] [] pos) X.env = (do
      let ov ← eval o X.env
      standAt apos.atName
      let (f, first) ← holding [ov] (getMethod ov m pl)
      callWith pos f first (backTo pos (starEach [] X.env)) (backToKw pos (keywordEach [] X.env))) := by rfl) :
    PE X (.Call (.Attribute o m apos) [] [] pos) (tMeth C m sp [] E to tNil) := by
  obtain ⟨f, fd, hm, F, hb, _⟩ := G
  exact pe_meth0 ho c hm F hr hb .nil hx ht
/-- C(e, ..), the defaults filling up -/
theorem pe_mkd (G : MkOK X.prog X.w X.K X.mg X.base CX k x C ps dvs sp) (hr : Room (k + 1) X.A) (hx : Passes CX X E) (ha : PA X (e :: es) ta) (hg : Gl X x := by rfl) (hd : (x == ("__debug__" : Str)) = false := by decide)
    (he : starEach (e :: es) X.env = (false, eval e X.env) :: starEach es X.env := by rfl) (hpl : (backTo pos (starEach es X.env)).any (·.1) = false := by rfl) :
    PE X (.Call (.Name x p) (e :: es) [] pos) (tMake C sp dvs E ta) := by
  obtain ⟨f, fd, M, hm, F, _, ds, hv, hb⟩ := G
  exact pe_make M F hr hg hm hb hv hx ha hd he hpl
theorem pe_mk (G : MkOK X.prog X.w X.K X.mg X.base CX k x C ps dvs sp) (hr : Room (k + 1) X.A) (hx : Passes CX X E) (ha : PA X (e :: es) ta) (hg : Gl X x := by rfl) (hd : (x == ("__debug__" : Str)) = false := by decide)
    (he : starEach (e :: es) X.env = (false, eval e X.env) :: starEach es X.env := by rfl) (hpl : (backTo pos (starEach es X.env)).any (·.1) = false := by rfl) :
    PE X (.Call (.Name x p) (e :: es) [] pos) (tMake C sp [] E ta) := by
  obtain ⟨f, fd, M, hm, F, hb, _⟩ := G
  exact pe_make M F hr hg hm hb .nil hx ha hd he hpl
/-- how it binds with the keywords ks: all parameters are given, in their order -/
def KwIn (K : PySem.W.Frag) (C : Addr) (m q : Str) (st : Stmt) (ps : List Str) (dvs : List V) (n : Nat) (ks : List Str) : Prop :=
  ∃ (f : Addr) (fd : FuncData), Meth K C m f ∧ FunD K m q (defArgs st) (defBody st) (defScope st) dvs [] f fd ∧ KBn K fd ps n ks (fun us ws => us ++ ws) (fun vs zs => vs ++ zs)
def KOK (P : Program) (w : World) (K : PySem.W.Frag) (mg : Str → Option Value) (base : Heap) (CX : CXT) (k : Nat) (C : Addr) (m : Str) (ps : List Str) (n : Nat) (ks : List Str) (sp : Sp) : Prop :=
  ∃ (f : Addr) (fd : FuncData), Meth K C m f ∧ FnOk P w K mg base CX k f fd ps sp ∧ KBn K fd ps n ks (fun us ws => us ++ ws) (fun vs zs => vs ++ zs)
/-- the same def: one promise -/
theorem KOK.of {P : Program} {w : World} {K : PySem.W.Frag} {mg : Str → Option Value} {base : Heap} {q : Str} {st : Stmt} (D : KwIn K C m q st ps dvs n ks) (G : MOK P w K mg base CX k C m ps dvs sp)
    (same : ∀ f g fd gd, Meth K C m f → Meth K C m g → FunD K m q (defArgs st) (defBody st) (defScope st) dvs [] f fd → FnOk P w K mg base CX k g gd ps sp → FnOk P w K mg base CX k f fd ps sp) : KOK P w K mg base CX k C m ps n ks sp := by
  obtain ⟨f, fd, hm, F, hk⟩ := D
  obtain ⟨g, gd, hn, G, _⟩ := G
  exact ⟨f, fd, hm, same f g fd gd hm hn F G, hk⟩
theorem KOK.mkX {P : Program} {w : World} {K : PySem.W.Frag} {mg : Str → Option Value} {base : Heap} {q : Str} {st : Stmt} {N : List Str} (D : KwIn K C m q st ps dvs n ks) (S : FnScope N ps (defScope st)) (len : ∀ vs H Q E, sp vs H Q E → vs.length = ps.length)
    (body : ∀ (f : Addr) (cdv : Value) (A : Around) (outer : List Env) (s : Shared) (H : Hp) (vs : List V) (Q : VK) (E : XK), Room k (A.deeper (envOfC q (defScope st) s.heap.objs.size f cdv)) → sp vs H Q E →
      ∃ t, PSs (cxOf (L2.CX P w) P w K mg base N q (defScope st) f cdv A outer s H E) (defBody st) t ∧ t { nx := fun _ H' => Q .non H', rt := Q } (start N vs) H) : KOK P w K mg base (L2.CX P w) (k + 1) C m ps n ks sp := by
  obtain ⟨f, fd, hm, F, hb⟩ := D
  exact ⟨f, fd, hm, F.ok S len fun cdv A outer s H vs Q E hr h => body f cdv A outer s H vs Q E hr h, hb⟩
end
def spIni2 (C : Addr) (f g : Str) : Sp := sp3 fun x v y H Q _ => ∃ a, x = .ref a ∧ H a = some (exo a C none) ∧ ∀ dx H', H dx = none → dx ≠ a → H' a = some (exo a C (some dx)) → H' dx = some (exd dx [(g, y), (f, v)]) → (∀ b, b ≠ a → b ≠ dx → H' b = H b) → Q .non H'
def OKx2 (P : Program) (w : World) (K : PySem.W.Frag) (mg : Str → Option Value) (base : Heap) (x f g : Str) (C : Addr) : Prop :=
  mg x = some (.ref C) ∧ OexC K C ∧ ∃ (fI : Addr) (fd : FuncData), PySem.W.findIn K (.ref C) "__init__" = some (some (.ref fI)) ∧ PySem.W.typeIn K (.ref fI) = some (.type "function") ∧
    FnOk P w K mg base CX0 1 fI fd ["self", f, g] (spIni2 C f g) ∧ Binds K fd ["self", f, g] []
theorem ini_ok2 {P : Program} {w : World} {K : PySem.W.Frag} {mg : Str → Option Value} {base : Heap} {C fI : Addr} {f g q : Str} {st : Stmt} {fd : FuncData} (F : Fun K "__init__" q st fI fd) (S : FnScope ["self", f, g] ["self", f, g] (defScope st))
    (ox : OexC K C) (noF : PySem.W.findIn K (.ref C) f = some none) (noG : PySem.W.findIn K (.ref C) g = some none)
    (hb : ∀ (cdv : Value) (A : Around) (outer : List Env) (s : Shared) (H : Hp) (E : XK), PSs (cxOf CX0 P w K mg base ["self", f, g] q (defScope st) fI cdv A outer s H E).nox (defBody st) (tSeq (tOst K f (tVar 0) (tVar 1)) (tOst K g (tVar 0) (tVar 2)))) :
    FnOk P w K mg base CX0 1 fI fd ["self", f, g] (spIni2 C f g) := by
  refine F.ok S (fun vs H Q E h => len3 vs H Q E h) fun cdv A outer s H vs Q E hr h => ⟨_, hb cdv A outer s H E, ?_⟩
  obtain ⟨x, v, y, rfl, a, rfl, ha, q⟩ := h
  refine ⟨v, rfl, .ref a, rfl, a, C, rfl, ox, noF, .inl ⟨ha, fun dx n ne => ?_⟩⟩
  refine ⟨y, rfl, .ref a, rfl, a, C, rfl, ox, noG, .inr ⟨dx, _, upd_same, by rw [upd_ne ne, upd_same], by show 1 ≤ 900; decide, ?_⟩⟩
  refine q dx _ n ne (by rw [upd_ne ne.symm, upd_same]) upd_same fun b h1 h2 => by rw [upd_ne h2, upd_ne h1, upd_ne h2]
/-- C(e, ..): an error whose dict, new, holds the two fields, the later one first -/
def tMkE2 (C : Addr) (f g : Str) (ta : TA) : L2.St → Hp → XK → Prop := fun σ H Q => ta σ H fun vs H1 => ∃ v y, vs = [v, y] ∧ ∀ d, H1 d = none → Q (.ref C) (some d) (upd H1 d (.xd [(g, y), (f, v)]))
theorem pmk_E2 {X : Cx} {x f g : Str} {C : Addr} {e : Expr} {es : List Expr} {ta : TA} {p pos : PySem.Pos} {k : Nat} (G : OKx2 X.prog X.w X.K X.mg X.base x f g C) (hr : Room (k + 2) X.A) (ha : PA X (e :: es) ta) (hg : Gl X x := by rfl) (hdb : (x == ("__debug__" : Str)) = false := by decide)
    (he : starEach (e :: es) X.env = (false, eval e X.env) :: starEach es X.env := by rfl) (hpl : (backTo pos (starEach es X.env)).any (·.1) = false := by rfl) :
    PMk X (.Call (.Name x p) (e :: es) [] pos) (tMkE2 C f g ta) := by
  obtain ⟨hm, ox, fI, fd, iC, tI, F, hb⟩ := G
  intro pins s σ H Q I h
  refine pmk_oex (k := 1) (dvs := []) ox iC tI F (hr.mono (by omega)) hb .nil pass0 hg hm (pa_mono ha) hdb he hpl pins s σ H Q I ⟨_, h, fun vs H1 hq => ?_⟩
  obtain ⟨v, y, rfl, q⟩ := hq
  refine ⟨by show 2 ≤ 1000; omega, fun a na => ⟨.ref a, v, y, rfl, a, rfl, upd_same, fun dx H' nd ne h1 h2 h3 => ⟨rfl, dx, [(g, y), (f, v)], h1, h2, ?_, ?_⟩⟩⟩
  · rw [upd_ne ne] at nd; exact nd
  · have n2 : H1 dx = none := by rw [upd_ne ne] at nd; exact nd
    have e1 : upd (del H' a) dx (.xd [(g, y), (f, v)]) = upd H1 dx (.xd [(g, y), (f, v)]) := by
      funext b
      by_cases hb : b = dx
      · rw [hb, upd_same, upd_same]
      · rw [upd_ne hb, upd_ne hb]
        by_cases ha : b = a
        · rw [ha, del_same, na]
        · rw [del_ne ha, h3 b ha hb, upd_ne ha]
    rw [e1]
    exact q dx n2
/-- the wish for an error of the class at C whose dict, new, holds fs -/
def Rzf (E : XK) (H : Hp) (C : Addr) (fs : List (Str × V)) : Prop := ∀ d H', H d = none → Same H H' → H' d = some (.xd fs) → E (.ref C) (some d) H'
theorem Rzf.mono {E : XK} {H H1 : Hp} {C : Addr} {fs : List (Str × V)} (h : Rzf E H C fs) (s : Same H H1) : Rzf E H1 C fs := fun d H' n s' e => h d H' (s.free n) (s.trans s') e
theorem Rzf.at {E : XK} {H : Hp} {C : Addr} {fs : List (Str × V)} (h : Rzf E H C fs) {d : Addr} (n : H d = none) : E (.ref C) (some d) (upd H d (.xd fs)) :=
  h d _ n (fun b o e => by rw [upd_ne (ne_of_none e n)]; exact e) upd_same
section
variable {σ : L2.St} {H : Hp} {Q : XK} {C : Addr} {f g : Str} {ta : TA} {v y : V} {P : V → V → Prop}
theorem i_mkE2 (q : ta σ H fun vs H1 => ∃ v y, vs = [v, y] ∧ ∀ d, H1 d = none → Q (.ref C) (some d) (upd H1 d (.xd [(g, y), (f, v)]))) : tMkE2 C f g ta σ H Q := q
theorem i_ex2 (q : P v y) : ∃ a b, [v, y] = [a, b] ∧ P a b := ⟨v, y, rfl, q⟩
end
theorem GOK.mk {P : Program} {w : World} {K : PySem.W.Frag} {mg : Str → Option Value} {base : Heap} {x : Str} {st : Stmt} {N ps : List Str} {k : Nat} {sp : Sp} (D : DefIn K mg x st ps) (S : FnScope N ps (defScope st)) (len : ∀ vs H Q E, sp vs H Q E → vs.length = ps.length)
    (body : ∀ (f : Addr) (cdv : Value) (A : Around) (outer : List Env) (s : Shared) (H : Hp) (vs : List V) (Q : VK) (E : XK), A.guards = some [] → Room k (A.deeper (envOfC x (defScope st) s.heap.objs.size f cdv)) → sp vs H Q E →
      ∃ t, PSs (cxOf CX0 P w K mg base N x (defScope st) f cdv A outer s H E).nox (defBody st) t ∧ t { nx := fun _ H' => Q .non H', rt := Q } (start N vs) H) : GOK P w K mg base CX0 (k + 1) x ps sp := by
  obtain ⟨f, fd, F, hm, hb⟩ := D
  refine ⟨f, fd, gok_mk F S len fun cdv A outer s H vs Q E hg hr h => ?_, hm, F.kp, hb⟩
  obtain ⟨t, z, e⟩ := body f cdv A outer s H vs Q E hg hr h
  exact ⟨t, z.nox, e⟩
end Fg
namespace Fg
open PySem PySem.Spec PyProof.Rows L2
abbrev dS (l : List Nat) : PyData := .str ⟨l.toArray⟩
mutual
inductive At (H : Hp) : V → PyData → Prop
  | non : At H .non .none
  | bl (b : Bool) : At H (.bl b) (.bool b)
  | int (i : Int) : At H (.int i) (.int i)
  | str (l : List Nat) : l.length ≤ 10000 → At H (S l) (dS l)
  | lst {a : Addr} {xs : List V} {ds : List PyData} : H a = some (.lst xs) → xs.length ≤ 10000 → AtAll H xs ds → At H (.ref a) (.list ds)
  | tup {a : Addr} {xs : List V} {ds : List PyData} : H a = some (.tup xs) → xs.length ≤ 10000 → AtAll H xs ds → At H (.ref a) (.tuple ds)
  | dct {a : Addr} : H a = some (.dK []) → At H (.ref a) (.dict [])
inductive AtAll (H : Hp) : List V → List PyData → Prop
  | nil : AtAll H [] []
  | cons {v : V} {vs : List V} {d : PyData} {ds : List PyData} : At H v d → AtAll H vs ds → AtAll H (v :: vs) (d :: ds)
end
section
variable {H H' : Hp}
mutual
theorem At.mono (s : Same H H') : ∀ (d : PyData) (v : V), At H v d → At H' v d
  | .none, _, h => by cases h; exact .non
  | .bool b, _, h => by cases h; exact .bl b
  | .int i, _, h => by cases h; exact .int i
  | .str x, _, h => by
    cases h with
    | str l hl => exact .str l hl
  | .list ds, _, h => by
    cases h with
    | lst e l a => exact .lst (s _ _ e) l (AtAll.mono s ds _ a)
  | .tuple ds, _, h => by
    cases h with
    | tup e l a => exact .tup (s _ _ e) l (AtAll.mono s ds _ a)
  | .dict kvs, _, h => by
    cases h with
    | dct e => exact .dct (s _ _ e)
theorem AtAll.mono (s : Same H H') : ∀ (ds : List PyData) (vs : List V), AtAll H vs ds → AtAll H' vs ds
  | [], _, h => by cases h; exact .nil
  | d :: ds, _, h => by
    cases h with
    | cons h1 h2 => exact .cons (At.mono s d _ h1) (AtAll.mono s ds _ h2)
end
theorem At.same {v : V} {d : PyData} (h : At H v d) (s : Same H H') : At H' v d := At.mono s d v h
theorem AtAll.same {vs : List V} {ds : List PyData} (h : AtAll H vs ds) (s : Same H H') : AtAll H' vs ds := AtAll.mono s ds vs h
mutual
theorem At.dp (K : PySem.W.Frag) : ∀ (d : PyData) (v : V), At H v d → d.hasDict = false → Dp K H v d
  | .none, _, h, _ => by cases h; exact .non
  | .bool b, _, h, _ => by cases h; exact .bl b
  | .int i, _, h, _ => by cases h; exact .int i
  | .str x, _, h, _ => by cases h; exact .str _
  | .list ds, _, h, n => by
    cases h with
    | lst e l a => exact .lst (.inl (.inl e)) (AtAll.dp K ds _ a n)
  | .tuple ds, _, h, n => by
    cases h with
    | tup e l a => exact .tup (.inl (.inl e)) (AtAll.dp K ds _ a n)
  | .dict kvs, _, h, n => by cases n
theorem AtAll.dp (K : PySem.W.Frag) : ∀ (ds : List PyData) (vs : List V), AtAll H vs ds → PyData.hasDictAll ds = false → DpAll K H vs ds
  | [], _, h, _ => by cases h; exact .nil
  | d :: ds, _, h, n => by
    cases h with
    | cons h1 h2 =>
      have n' : (d.hasDict || PyData.hasDictAll ds) = false := n
      rw [Bool.or_eq_false_iff] at n'
      exact .cons (At.dp K d _ h1 n'.1) (AtAll.dp K ds _ h2 n'.2)
end
theorem AtAll.len : ∀ {vs : List V} {ds : List PyData}, AtAll H vs ds → vs.length = ds.length
  | _, _, .nil => rfl
  | _, _, .cons _ r => congrArg Nat.succ r.len
theorem AtAll.get : ∀ {vs : List V} {ds : List PyData}, AtAll H vs ds → ∀ {i : Nat} {v : V}, vs[i]? = some v → ∃ d, ds[i]? = some d ∧ At H v d
  | _, _, .nil, _, _, e => by simp at e
  | _, _, .cons h r, 0, _, e => by
    cases (show some _ = some _ from e)
    exact ⟨_, rfl, h⟩
  | _, _, .cons h r, i + 1, v, e => r.get (i := i) e
theorem AtAll.at : ∀ {vs : List V} {ds : List PyData}, AtAll H vs ds → ∀ {i : Nat} {d : PyData}, ds[i]? = some d → ∃ v, vs[i]? = some v ∧ At H v d
  | _, _, .nil, _, _, e => by simp at e
  | _, _, .cons h r, 0, _, e => by
    cases (show some _ = some _ from e)
    exact ⟨_, rfl, h⟩
  | _, _, .cons h r, i + 1, v, e => r.at (i := i) e
theorem AtAll.app : ∀ {vs ws : List V} {ds es : List PyData}, AtAll H vs ds → AtAll H ws es → AtAll H (vs ++ ws) (ds ++ es)
  | _, _, _, _, .nil, r => r
  | _, _, _, _, .cons h t, r => .cons h (t.app r)
theorem AtAll.one {v : V} {d : PyData} (h : At H v d) : AtAll H [v] [d] := .cons h .nil
theorem AtAll.take : ∀ {vs : List V} {ds : List PyData}, AtAll H vs ds → ∀ (n : Nat), AtAll H (vs.take n) (ds.take n)
  | _, _, .nil, n => by simp; exact .nil
  | _, _, .cons h r, 0 => .nil
  | _, _, .cons h r, n + 1 => .cons h (r.take n)
theorem AtAll.drop : ∀ {vs : List V} {ds : List PyData}, AtAll H vs ds → ∀ (n : Nat), AtAll H (vs.drop n) (ds.drop n)
  | _, _, .nil, n => by simp; exact .nil
  | _, _, .cons h r, 0 => .cons h r
  | _, _, .cons h r, n + 1 => r.drop n
theorem AtAll.map {α : Type} {f : α → V} {g : α → PyData} (h : ∀ x, At H (f x) (g x)) : ∀ l : List α, AtAll H (l.map f) (l.map g)
  | [] => .nil
  | x :: r => .cons (h x) (AtAll.map h r)
theorem AtAll.rep {v : V} {d : PyData} (h : At H v d) : ∀ n : Nat, AtAll H (List.replicate n v) (List.replicate n d)
  | 0 => .nil
  | n + 1 => .cons h (AtAll.rep h n)
end
structure Ext (A G A' G' : Hp) : Prop where
  aa : Same A A'
  ag : Same A' G'
  gg : Same G G'
  nw : ∀ b, A b = none → A' b ≠ none → G b = none
section
variable {A G A1 G1 A2 G2 H : Hp} {p : Addr} {o o' : HO} {v : V} {d : PyData}
theorem Ext.refl (s : Same A G) : Ext A G A G := ⟨fun _ _ e => e, s, fun _ _ e => e, fun b h1 h2 => absurd h1 h2⟩
theorem Ext.trans (x : Ext A G A1 G1) (y : Ext A1 G1 A2 G2) : Ext A G A2 G2 := by
  refine ⟨x.aa.trans y.aa, y.ag, x.gg.trans y.gg, fun b h1 h2 => ?_⟩
  by_cases h : A1 b = none
  · exact x.gg.free (y.nw b h h2)
  · exact x.nw b h1 h
/-- something new, known -/
theorem Ext.new (x : Ext A G A1 G1) (n : G1 p = none) : Ext A G (upd A1 p o) (upd G1 p o) := by
  have na : A1 p = none := x.ag.free n
  refine ⟨Same.upd x.aa (x.gg.trans (fun _ _ e => e) |>.free n |> fun z => ?_), fun b u e => ?_, Same.upd x.gg (x.gg.free n), fun b h1 h2 => ?_⟩
  · by_cases h : A p = none
    · exact h
    · exact absurd na (by
        intro z
        cases e : A p with
        | none => exact h e
        | some u => rw [x.aa _ _ e] at z; cases z)
  · by_cases hb : b = p
    · rw [hb, upd_same] at e
      rw [hb, upd_same]; exact e
    · rw [upd_ne hb] at e
      rw [upd_ne hb]; exact x.ag _ _ e
  · by_cases hb : b = p
    · rw [hb]; exact x.gg.free n
    · rw [upd_ne hb] at h2
      exact x.nw b h1 h2
/-- something new, hidden -/
theorem Ext.hid (x : Ext A G A1 G1) (n : G1 p = none) : Ext A G A1 (upd G1 p o) :=
  ⟨x.aa, x.ag.trans (same_upd n), x.gg.trans (same_upd n), x.nw⟩
/-- what is hidden, and was not there at first, changes -/
theorem Ext.put (x : Ext A G A1 G1) (n : G p = none) (na : A1 p = none) : Ext A G A1 (upd G1 p o) :=
  ⟨x.aa, fun b u e => by rw [upd_ne (ne_of_none e na)]; exact x.ag _ _ e, Same.upd x.gg n, x.nw⟩
/-- what was hidden is known -/
theorem Ext.show (x : Ext A G A1 G1) (n : G p = none) (sa : Same A G) (e : G1 p = some o) : Ext A G (upd A1 p o) G1 := by
  have na : A p = none := sa.free n
  refine ⟨Same.upd x.aa na, fun b u e1 => ?_, x.gg, fun b h1 h2 => ?_⟩
  · by_cases hb : b = p
    · rw [hb, upd_same] at e1
      rw [hb, e]; exact e1
    · rw [upd_ne hb] at e1
      exact x.ag _ _ e1
  · by_cases hb : b = p
    · rw [hb]; exact n
    · rw [upd_ne hb] at h2
      exact x.nw b h1 h2
/-- what is hidden stays hidden -/
theorem Ext.free (x : Ext A G A1 G1) (n : A p = none) (e : G p ≠ none) : A1 p = none := by
  by_cases h : A1 p = none
  · exact h
  · exact absurd (x.nw p n h) e
theorem Ext.up (x : Ext A G A1 G1) (h : At A1 v d) : At G1 v d := h.same x.ag
theorem Ext.old (x : Ext A G A1 G1) (h : At A v d) : At A1 v d := h.same x.aa
end
section
variable {K : PySem.W.Frag} {σ : L2.St} {A G : Hp} {Q : VK} {te tl : TE} {tt : TT} {ta : TA} {j : Nat} {a : Addr} {xs : List V} {vs : List Nat}
/-- behind i turns: the list at Dl, hidden, holds data -/
def Cw (A G : Hp) (Dl : Addr) (f : Nat → PyData) (i : Nat) (G1 : Hp) : Prop := G Dl = none ∧ ∃ A1 l, Ext A G A1 G1 ∧ A1 Dl = none ∧ G1 Dl = some (.lst l) ∧ AtAll A1 l ((List.range i).map f)
theorem cw_start (s : Same A G) {Dl : Addr} {f : Nat → PyData} (n : G Dl = none) : Cw A G Dl f 0 (upd G Dl (.lst [])) :=
  ⟨n, A, [], (Ext.refl s).hid n, s.free n, upd_same, .nil⟩
theorem cw_turn {Dl : Addr} {f : Nat → PyData} {i : Nat} {G1 : Hp} {σ2 : L2.St} (w : Cw A G Dl f i G1) (hi : i < 10000)
    (he : ∀ A1 G1, Ext A G A1 G1 → ∀ QV : VK, (∀ A2 G2 v, Ext A1 G1 A2 G2 → At A2 v (f i) → QV v G2) → te σ2 G1 QV) :
    tYes σ2 G1 fun b H3 => if b = true then te σ2 H3 fun y H4 => ∃ acc, H4 Dl = some (.lst acc) ∧ acc.length < sizeLine ∧ Cw A G Dl f (i + 1) (upd H4 Dl (.lst (acc ++ [y]))) else Cw A G Dl f (i + 1) H3 := by
  obtain ⟨n, A1, l, x, na, e, al⟩ := w
  refine i_yes ?_
  rw [if_pos rfl]
  refine he A1 G1 x _ fun A2 G2 v y hv => ?_
  have na2 : A2 Dl = none := y.free na (by rw [e]; simp)
  have ll : l.length = i := by rw [al.len]; simp
  refine ⟨l, y.gg _ _ e, Nat.lt_of_le_of_lt (Nat.le_of_eq ll) (Nat.lt_trans hi (by decide)), n, A2, l ++ [v], (x.trans y).put n na2, na2, upd_same, ?_⟩
  rw [List.range_succ, List.map_append]
  exact (al.same y.aa).app (.one hv)
theorem cw_end {Dl : Addr} {f : Nat → PyData} {n : Nat} {G1 : Hp} (w : Cw A G Dl f n G1) (sa : Same A G) (hn : n ≤ 10000) : ∃ A1, Ext A G A1 G1 ∧ At A1 (.ref Dl) (.list ((List.range n).map f)) ∧ ∃ l, G1 Dl = some (.lst l) ∧ A1 Dl = some (.lst l) ∧ AtAll A1 l ((List.range n).map f) ∧ l.length = n := by
  obtain ⟨h, A1, l, x, na, e, al⟩ := w
  have ll : l.length = n := by rw [al.len]; simp
  have al2 := al.same (same_upd (o := .lst l) na)
  exact ⟨_, x.show h sa e, .lst upd_same (by omega) al2, l, e, upd_same, al2, ll⟩
/-- [te for j in a list] -/
theorem c_lstD {ds : List PyData} (sa : Same A G) (ha : ∀ R : VK, R (.ref a) G → tl σ G R) (hx : SqL K G a xs) (hd : AtAll A xs ds) (hn : xs.length ≤ 10000) (f : PyData → PyData) (hw : ∀ x, wipe ((wipe σ vs).set j (some x)) vs = wipe σ vs)
    (he : ∀ x d A1 G1, d ∈ ds → At A1 x d → Ext A G A1 G1 → ∀ QV : VK, (∀ A2 G2 v, Ext A1 G1 A2 G2 → At A2 v (f d) → QV v G2) → te ((wipe σ vs).set j (some x)) G1 QV)
    (q : ∀ Dl A1 G1 l, Ext A G A1 G1 → G1 Dl = some (.lst l) → A1 Dl = some (.lst l) → AtAll A1 l (ds.map f) → l.length = ds.length → Q (.ref Dl) G1) : tLc (iAny K tl) (gName j) tYes te vs σ G Q := by
  have hl := hd.len
  have e1 : (List.range ds.length).map (fun i => f (ds.getD i .none)) = ds.map f := by
    refine List.ext_getElem? fun i => ?_
    rw [List.getElem?_map, List.getElem?_map]
    by_cases h : i < ds.length
    · rw [List.getElem?_range h, Option.map_some, List.getD_eq_getElem?_getD, List.getElem?_eq_getElem h]
      rfl
    · rw [List.getElem?_eq_none (by simpa using h), List.getElem?_eq_none (by omega)]
      rfl
  refine ha _ (.inl ⟨a, xs, rfl, hx, fun Dl nD => ?_⟩)
  refine lc_list (xs := xs) (Cw A G Dl fun i => f (ds.getD i .none)) (cw_start sa nD) (fun i H' hi p => ?_) (fun i x H' hi p => ?_) (fun H' p => ?_)
  · obtain ⟨_, _, _, x, _⟩ := p
    exact x.gg.seq hx
  · have hlt := (List.getElem?_eq_some_iff.mp hi).1
    obtain ⟨d, hd1, hd2⟩ := hd.get hi
    refine ⟨hw _, cw_turn p (by omega) fun A1 G1 y QV k => he x d A1 G1 (List.mem_of_getElem? hd1) (hd2.same y.aa) y QV fun A2 G2 v z hv => k A2 G2 v z ?_⟩
    rw [List.getD_eq_getElem?_getD, hd1]
    exact hv
  · rw [hl] at p
    obtain ⟨A1, y, _, l, e, ea, al, ll⟩ := cw_end p sa (by omega)
    rw [e1] at al
    exact q Dl A1 H' l y e ea al ll
/-- [te for j in a tuple] -/
theorem c_tupD {ds : List PyData} (sa : Same A G) (ha : ∀ R : VK, R (.ref a) G → tl σ G R) (hx : SqT K G a xs) (hd : AtAll A xs ds) (hn : xs.length ≤ 10000) (f : PyData → PyData) (hw : ∀ x, wipe ((wipe σ vs).set j (some x)) vs = wipe σ vs)
    (he : ∀ x d A1 G1, d ∈ ds → At A1 x d → Ext A G A1 G1 → ∀ QV : VK, (∀ A2 G2 v, Ext A1 G1 A2 G2 → At A2 v (f d) → QV v G2) → te ((wipe σ vs).set j (some x)) G1 QV)
    (q : ∀ Dl A1 G1 l, Ext A G A1 G1 → G1 Dl = some (.lst l) → A1 Dl = some (.lst l) → AtAll A1 l (ds.map f) → l.length = ds.length → Q (.ref Dl) G1) : tLc (iAny K tl) (gName j) tYes te vs σ G Q := by
  have hl := hd.len
  have e1 : (List.range ds.length).map (fun i => f (ds.getD i .none)) = ds.map f := by
    refine List.ext_getElem? fun i => ?_
    rw [List.getElem?_map, List.getElem?_map]
    by_cases h : i < ds.length
    · rw [List.getElem?_range h, Option.map_some, List.getD_eq_getElem?_getD, List.getElem?_eq_getElem h]
      rfl
    · rw [List.getElem?_eq_none (by simpa using h), List.getElem?_eq_none (by omega)]
      rfl
  refine ha _ (.inr (.inl ⟨a, xs, rfl, hx, fun Dl nD => ?_⟩))
  refine lc_tup (xs := xs) (Cw A G Dl fun i => f (ds.getD i .none)) (cw_start sa nD) (fun i H' hi p => ?_) (fun i x H' hi p => ?_) (fun H' p => ?_)
  · obtain ⟨_, _, _, x, _⟩ := p
    exact Same.tup x.gg hx
  · have hlt := (List.getElem?_eq_some_iff.mp hi).1
    obtain ⟨d, hd1, hd2⟩ := hd.get hi
    refine ⟨hw _, cw_turn p (by omega) fun A1 G1 y QV k => he x d A1 G1 (List.mem_of_getElem? hd1) (hd2.same y.aa) y QV fun A2 G2 v z hv => k A2 G2 v z ?_⟩
    rw [List.getD_eq_getElem?_getD, hd1]
    exact hv
  · rw [hl] at p
    obtain ⟨A1, y, _, l, e, ea, al, ll⟩ := cw_end p sa (by omega)
    rw [e1] at al
    exact q Dl A1 H' l y e ea al ll
end
section
variable {X : Cx} (K : PySem.W.Frag) {e o value : Expr} {es : List Expr} {te to tv : TE} {ta : TA} {f : Str} {p pos apos cpos tpos pos' : PySem.Pos}
theorem peFld (he : PE X e te) (h : X.K = K := by rfl) (hb : attributeBase e f X.env (eval e X.env) = eval e X.env := by rfl) : PE X (.Attribute e f pos) (tFld K te f) := h ▸ pe_fld he hb
theorem psFld (ho : PE X o to) (hv : PE X value tv) (h : X.K = K := by rfl) (hs : swapsWith value (some (.Attribute o f pos')) pos.line X.env = pure false := by rfl) : PS X (.Assign [.Attribute o f pos'] value pos) (sFld K to tv f) := h ▸ ps_fld ho hv hs
theorem psFldAug {op : Operator} {rd : V → V → Hp → VK → Prop} (ho : PE X o to) (hv : PE X value tv) (hop : InOp X op rd) (h : X.K = K := by rfl) : PS X (.AugAssign (.Attribute o f tpos) op value pos) (sFldAug K to tv rd f) := h ▸ ps_fldaug ho hv hop
def rSplit : V → List V → Hp → VK → Prop := fun x xs H Q => ∃ a b, x = .str a ∧ xs = [.str b] ∧ (b.length == 0) = false ∧ a.length + 2 ≤ sizeLine ∧ rNewStrs (Txt.split a b) H Q
def tSpl (K : PySem.W.Frag) (to : TE) (t : TA) : TE := tBM K "str" rSplit to t
theorem peSplit (ho : PE X o to) (ha : PA X (e :: es) ta) (h : X.K = K := by rfl) (hbase : attributeBase o "split" X.env (eval o X.env) = eval o X.env := by rfl)
    (hfew : ((backTo cpos (starEach (e :: es) X.env)).all (fun x => !x.1) && (backToKw cpos (keywordEach [] X.env)).all (fun x => x.1.isSome)
      && decide ((e :: es).length + ([] : List Keyword).length + (if ([] : List Keyword).isEmpty then 0 else 1) < 30)) = true := by rfl)
    (hline : (apos.endLine == cpos.line) = true := by rfl) (hs : starEach (e :: es) X.env = (false, eval e X.env) :: starEach es X.env := by rfl) (hplain : (backTo cpos (starEach es X.env)).any (·.1) = false := by rfl) :
    PE X (.Call (.Attribute o "split" apos) (e :: es) [] cpos) (tSpl K to ta) := h ▸ pe_bm PySem.F.plainAttrs_str PySem.F.slot_str_split PySem.F.type_str_split mt_split ho ha hbase hfew hline hs hplain
theorem cIsiT (h : X.K = K := by rfl) : CallR X (.builtin "isinstance") (rIsiT K) := h ▸ call_isiT
end
section
variable {K : PySem.W.Frag} {σ : L2.St} {H : Hp} {Q : VK} {Qs : L2.St → Hp → Prop} {D : Ends} {te to tv : TE} {ta : TA} {a C dx : Addr} {fs : List (Str × V)} {f m : Str} {v y : V} {xs : List V} {sp : Sp} {dvs : List V} {E : XK} {z w : Int}
theorem i_fld {P : V → Prop} (h : H a = some (.ins C dx fs)) (c : Cls K C) (n : NoAttr K C f) (l : fs.lookup f = some v) (q : P v) : ∃ a' C dx fs v, V.ref a = .ref a' ∧ H a' = some (.ins C dx fs) ∧ Cls K C ∧ NoAttr K C f ∧ fs.lookup f = some v ∧ P v :=
  ⟨a, C, dx, fs, v, rfl, h, c, n, l, q⟩
theorem i_tfld (q : te σ H fun x H1 => ∃ a C dx fs v, x = .ref a ∧ H1 a = some (.ins C dx fs) ∧ Cls K C ∧ NoAttr K C f ∧ fs.lookup f = some v ∧ Q v H1) : tFld K te f σ H Q := q
theorem i_sfld (q : tv σ H fun y H1 => to σ H1 fun x H2 => ∃ a C dx fs, x = .ref a ∧ H2 a = some (.ins C dx fs) ∧ Cls K C ∧ NoAttr K C f ∧ fs.length < 1000 ∧ D.nx σ (upd H2 a (.ins C dx (putF f y fs)))) : sFld K to tv f D σ H := q
theorem i_put {P : Addr → Addr → Addr → List (Str × V) → Prop} (h : H a = some (.ins C dx fs)) (c : Cls K C) (n : NoAttr K C f) (l : fs.length < 1000) (q : P a C dx fs) :
    ∃ a' C dx fs, V.ref a = .ref a' ∧ H a' = some (.ins C dx fs) ∧ Cls K C ∧ NoAttr K C f ∧ fs.length < 1000 ∧ P a' C dx fs := ⟨a, C, dx, fs, rfl, h, c, n, l, q⟩
theorem i_meth (q : to σ H fun x H1 => ∃ a dx fs, x = .ref a ∧ H1 a = some (.ins C dx fs) ∧ fs.lookup m = none ∧ ta σ H1 fun vs H2 => sp (x :: (vs ++ dvs)) H2 Q E) : tMeth C m sp dvs E to ta σ H Q := q
theorem i_self {P : Prop} (h : H a = some (.ins C dx fs)) (l : fs.lookup m = none) (q : P) : ∃ a' dx fs, V.ref a = .ref a' ∧ H a' = some (.ins C dx fs) ∧ fs.lookup m = none ∧ P := ⟨a, dx, fs, rfl, h, l, q⟩
theorem i_make (q : ta σ H fun vs H1 => ∀ x dx, H1 x = none → H1 dx = none → dx ≠ x → sp (.ref x :: (vs ++ dvs)) (upd (upd H1 dx (.own x)) x (.ins C dx [])) (fun v H2 => v = .non ∧ Q (.ref x) H2) E) : tMake C sp dvs E ta σ H Q := q
theorem i_spl (q : to σ H fun x H1 => tyV K "str" x H1 ∧ ta σ H1 fun xs H2 => rSplit x xs H2 Q) : tSpl K to ta σ H Q := q
/-- the kind of a datum -/
def kindD : PyData → String
  | .none => "NoneType" | .bool _ => "bool" | .int _ => "int" | .str _ => "str" | .list _ => "list" | .tuple _ => "tuple" | .dict _ => "dict"
theorem At.ty {d : PyData} (K : PySem.W.Frag) (h : At H v d) : TyX K H v (.type (kindD d)) := by
  cases h with
  | non => exact .base .non
  | bl b => exact .base (.bl b)
  | int i => exact .base (.int i)
  | str l _ => exact .base (.str _)
  | lst e _ _ => exact .base (.lst e)
  | tup e _ _ => exact .base (.tup e)
  | dct e => exact .base (.dK e)
theorem i_isiD {d : PyData} {t : String} {b : Bool} (h : At H v d) (e : PySem.W.kitOne K (.type (kindD d)) (.type t) = some b) (q : Q (.bl b) H) : rIsi K [v, .ty t] H Q := ⟨_, _, _, _, b, rfl, .ty _, h.ty K, e, q⟩
theorem i_isiT2 {d : PyData} {t u : String} {b : Bool} {tp : Addr} (h : At H v d) (ht : H tp = some (.tup [.ty t, .ty u])) (e : PySem.W.kitAny K (.type (kindD d)) [.type t, .type u] = some b) (q : Q (.bl b) H) : rIsiT K [v, .ref tp] H Q :=
  ⟨v, tp, _, _, _, b, rfl, ht, .cons (.ty _) (.cons (.ty _) .nil), h.ty K, e, q⟩
end
theorem OK.never {P : Program} {w : World} {K : PySem.W.Frag} {mg : Str → Option Value} {base : Heap} {CX : CXT} {k : Nat} {x : Str} {st : Stmt} {ps : List Str} {dvs : List V} (D : DefD K mg x st ps dvs) : OK P w K mg base CX k x ps fun _ _ _ _ => False := by
  obtain ⟨f, fd, F, hm, hb, _⟩ := D
  exact ⟨f, fd, ⟨fun _ _ _ _ h => h.elim, fun _ _ _ _ _ _ _ _ _ _ _ _ _ h => h.elim⟩, hm, F.kp, hb⟩
theorem depth_mem : ∀ {ds : List PyData} {d : PyData}, d ∈ ds → d.depth ≤ PyData.depthAll ds
  | e :: r, d, h => by
    show d.depth ≤ max e.depth (PyData.depthAll r)
    rcases List.mem_cons.mp h with rfl | h
    · exact Nat.le_max_left _ _
    · exact Nat.le_trans (depth_mem h) (Nat.le_max_right _ _)
/-- lists as tuples, at all depths -/
def deepD : PyData → PyData
  | .list ds => .tuple (deepDs ds)
  | .tuple ds => .tuple (deepDs ds)
  | d => d
where deepDs : List PyData → List PyData
  | [] => []
  | d :: r => deepD d :: deepDs r
theorem deepDs_map : ∀ ds : List PyData, deepD.deepDs ds = ds.map deepD
  | [] => rfl
  | d :: r => by rw [List.map_cons, ← deepDs_map r]; rfl
def isSeqD : PyData → Bool
  | .list _ => true | .tuple _ => true | _ => false
def isTupD : PyData → Bool
  | .tuple _ => true | _ => false
def isStrD : PyData → Bool
  | .str _ => true | _ => false
section
variable {K : PySem.W.Frag} {H : Hp} {Q : VK} {v : V} {d : PyData} {tp : Addr}
theorem i_isiSeq (b : Bool) (h : At H v d) (ht : H tp = some (.tup [.ty "list", .ty "tuple"])) (e : isSeqD d = b) (q : Q (.bl b) H) : rIsiT K [v, .ref tp] H Q := by
  subst e
  refine i_isiT2 h ht ?_ q
  cases d <;> simp only [kindD, isSeqD] <;> first
    | exact kitAny_cons (b := true) (kit_ty (by decide +kernel)) (fun z => nomatch z) (fun _ => rfl)
    | exact kitAny_cons (b := false) (kit_ty (by decide +kernel)) (fun _ => kitAny_cons (b := true) (kit_ty (by decide +kernel)) (fun z => nomatch z) (fun _ => rfl)) (fun z => nomatch z)
    | exact kitAny_cons (b := false) (kit_ty (by decide +kernel)) (fun _ => kitAny_cons (b := false) (kit_ty (by decide +kernel)) (fun _ => rfl) (fun z => nomatch z)) (fun z => nomatch z)
theorem i_isiTup (b : Bool) (h : At H v d) (e : isTupD d = b) (q : Q (.bl b) H) : rIsi K [v, .ty "tuple"] H Q := by
  subst e
  refine i_isiD h (kit_ty ?_) q
  cases d <;> (simp only [kindD, isTupD] ; decide +kernel)
theorem i_isiStr (b : Bool) (h : At H v d) (e : isStrD d = b) (q : Q (.bl b) H) : rIsi K [v, .ty "str"] H Q := by
  subst e
  refine i_isiD h (kit_ty ?_) q
  cases d <;> (simp only [kindD, isStrD] ; decide +kernel)
theorem At.tupled {ds : List PyData} (h : At H v (.tuple ds)) : ∃ a xs, v = .ref a ∧ H a = some (.tup xs) ∧ xs.length ≤ 10000 ∧ AtAll H xs ds := by
  cases h with
  | tup e l a => exact ⟨_, _, rfl, e, l, a⟩
theorem At.listed {ds : List PyData} (h : At H v (.list ds)) : ∃ a xs, v = .ref a ∧ H a = some (.lst xs) ∧ xs.length ≤ 10000 ∧ AtAll H xs ds := by
  cases h with
  | lst e l a => exact ⟨_, _, rfl, e, l, a⟩
theorem At.strl {x : Str} (h : At H v (.str x)) : ∃ l : List Nat, v = S l ∧ x = ⟨l.toArray⟩ ∧ l.length ≤ 10000 := by
  cases h with
  | str l hl => exact ⟨l, rfl, rfl, hl⟩
theorem At.mkTup {a : Addr} {xs : List V} {ds : List PyData} (e : H a = some (.tup xs)) (h : AtAll H xs ds) (l : ds.length ≤ 10000) : At H (.ref a) (.tuple ds) := .tup e (by rw [h.len]; exact l) h
theorem At.mkLst {a : Addr} {xs : List V} {ds : List PyData} (e : H a = some (.lst xs)) (h : AtAll H xs ds) (l : ds.length ≤ 10000) : At H (.ref a) (.list ds) := .lst e (by rw [h.len]; exact l) h
end
section
variable {K : PySem.W.Frag} {σ : L2.St} {H : Hp} {D : Ends} {te : TE} {tb : TS} {g : TG} {a : Addr} {xs : List V} {z : List Nat}
theorem i_forT {A B : Prop} (hx : SqT K H a xs) (Pv : Nat → L2.St → Hp → Prop) (h0 : Pv 0 σ H) (hl : ∀ i σ' H', i ≤ xs.length → Pv i σ' H' → SqT K H' a xs)
    (hs : ∀ i x σ' H', xs[i]? = some x → Pv i σ' H' → g x σ' H' fun σ2 H2 => tb { D with nx := Pv (i + 1), ct := Pv (i + 1), bk := D.nx } σ2 H2) (hd : ∀ σ' H', Pv xs.length σ' H' → D.nx σ' H') :
    A ∨ (∃ a' xs', V.ref a = .ref a' ∧ SqT K H a' xs' ∧ LoopG g tb D σ (Itt K a') H) ∨ B := .inr (.inl ⟨a, xs, rfl, hx, for_tup Pv h0 hl hs hd⟩)
end
section
variable {σ : L2.St} {H : Hp} {Q : VK} {E : XK} {tl : TA} {x y z u : V} {p1 : P1} {p2 : P2} {p3 : P3} {p4 : P4}
theorem i_callD {sp : Sp} {dvs : List V} (q : tl σ H fun vs H1 => sp (vs ++ dvs) H1 Q E) : tCall sp dvs E tl σ H Q := q
theorem i_spD2 (q : p2 x y H Q E) : sp2 p2 ([x] ++ [y]) H Q E := ⟨x, y, rfl, q⟩
theorem i_spM1 (q : p1 x H Q E) : sp1 p1 (x :: ([] ++ [])) H Q E := ⟨x, rfl, q⟩
theorem i_spM2 (q : p2 x y H Q E) : sp2 p2 (x :: ([y] ++ [])) H Q E := ⟨x, y, rfl, q⟩
theorem i_spM3 (q : p3 x y z H Q E) : sp3 p3 (x :: ([y, z] ++ [])) H Q E := ⟨x, y, z, rfl, q⟩
theorem i_spM4 (q : p4 x y z u H Q E) : sp4 p4 (x :: ([y, z, u] ++ [])) H Q E := ⟨x, y, z, u, rfl, q⟩
theorem i_spM3d (q : p3 x y z H Q E) : sp3 p3 (x :: ([y] ++ [z])) H Q E := ⟨x, y, z, rfl, q⟩
end
end Fg
namespace Fg
open PySem PySem.Spec PyProof.Rows L2
section
variable {X : Cx} {pins : List (Addr × Obj)} {σ : L2.St} {H : Hp} {s : Shared}
end
def rListP (K : PySem.W.Frag) : RC := fun xs H Q => ∃ p ys, xs = [.ref p] ∧ (SqL K H p ys ∨ SqT K H p ys) ∧ ∀ l, H l = none → Q (.ref l) (upd H l (.lst ys))
theorem cListP (K : PySem.W.Frag) {X : Cx} (h : X.K = K := by rfl) : CallR X (.type "list") (rListP K) := h ▸ call_list_of
end Fg
namespace Fg
open PySem PySem.Spec PyProof.Rows L2
theorem FnGOk.mk {P : Program} {w : World} {K : PySem.W.Frag} {mg : Str → Option Value} {base : Heap} {x : Str} {st : Stmt} {N ps : List Str} {k : Nat} {sp : Sp} {f : Addr} {fd : FuncData} (F : Fun K x x st f fd) (S : FnScope N ps (defScope st)) (len : ∀ vs H Q E, sp vs H Q E → vs.length = ps.length)
    (body : ∀ (cdv : Value) (A : Around) (outer : List Env) (s : Shared) (H : Hp) (vs : List V) (Q : VK) (E : XK), A.guards = some [] → Room k (A.deeper (envOfC x (defScope st) s.heap.objs.size f cdv)) → sp vs H Q E →
      ∃ t, PSs (cxOf CX0 P w K mg base N x (defScope st) f cdv A outer s H E).nox (defBody st) t ∧ t { nx := fun _ H' => Q .non H', rt := Q } (start N vs) H) : GOk P w K mg base CX0 (k + 1) f fd ps sp :=
  gok_mk F S len fun cdv A outer s H vs Q E hg hr h => let ⟨t, z, e⟩ := body cdv A outer s H vs Q E hg hr h; ⟨t, z.nox, e⟩
end Fg
namespace Fg
open PySem PySem.Spec PyProof.Rows L2
/-- it can be shown, and is not long: at most m signs and parts -/
def rpB (m : Nat) (d : PyData) : Bool := d.showable && (d.leavesShort 400 && decide (d.bulk ≤ m))
structure Rp (m : Nat) (d : PyData) : Prop where
  sh : d.showable = true
  lv : d.leavesShort 400 = true
  bk : d.bulk ≤ m
theorem rp_of {m : Nat} {d : PyData} (h : rpB m d = true) : Rp m d := by
  unfold rpB at h
  rw [Bool.and_eq_true, Bool.and_eq_true] at h
  exact ⟨h.1, h.2.1, of_decide_eq_true h.2.2⟩
theorem Rp.fits {m : Nat} {d : PyData} (h : Rp m d) (hm : m ≤ 20000) : d.shown.length ≤ sizeLine := by
  have h1 := PyData.shown_le_bulk 400 (by decide) d h.lv
  have h2 : (400 + 2) * d.bulk ≤ 402 * 20000 := Nat.mul_le_mul_left _ (Nat.le_trans h.bk hm)
  have h3 : 402 * 20000 + 400 ≤ sizeLine := by decide
  omega
theorem Rp.mono {m n : Nat} {d : PyData} (h : Rp m d) (k : m ≤ n) : Rp n d := ⟨h.sh, h.lv, Nat.le_trans h.bk k⟩
theorem rp_all {m : Nat} : ∀ {ds : List PyData}, (∀ d ∈ ds, Rp m d) → PyData.showableAll ds = true ∧ PyData.leavesShortAll 400 ds = true ∧ PyData.bulkAll ds ≤ (m + 1) * ds.length
  | [], _ => ⟨rfl, rfl, by simp only [PyData.bulkAll]; exact Nat.zero_le _⟩
  | d :: r, h => by
    have h1 := h d (List.mem_cons_self ..)
    obtain ⟨a, b, c⟩ := rp_all (ds := r) fun x hx => h x (List.mem_cons_of_mem _ hx)
    refine ⟨?_, ?_, ?_⟩
    · simp only [PyData.showableAll, h1.sh, a, Bool.and_self]
    · simp only [PyData.leavesShortAll, h1.lv, b, Bool.and_self]
    · have := h1.bk
      simp only [PyData.bulkAll, List.length_cons, Nat.mul_add, Nat.mul_one]
      omega
theorem Rp.list {m : Nat} {ds : List PyData} (h : ∀ d ∈ ds, Rp m d) : Rp ((m + 1) * ds.length) (.list ds) := by
  obtain ⟨a, b, c⟩ := rp_all h
  exact ⟨by simp only [PyData.showable]; exact a, by simp only [PyData.leavesShort]; exact b, by simp only [PyData.bulk]; exact c⟩
theorem Rp.tuple {m : Nat} {ds : List PyData} (h : ∀ d ∈ ds, Rp m d) : Rp ((m + 1) * ds.length) (.tuple ds) := by
  obtain ⟨a, b, c⟩ := rp_all h
  exact ⟨by simp only [PyData.showable]; exact a, by simp only [PyData.leavesShort]; exact b, by simp only [PyData.bulk]; exact c⟩
theorem Rp.str {m : Nat} {l : List Nat} (h : l.length ≤ m) (hc : ∀ c ∈ l, c < 16 ^ 8) : Rp m (dS l) := by
  refine ⟨by simp only [PyData.showable], ?_, ?_⟩
  · simp only [PyData.leavesShort, List.all_eq_true, decide_eq_true_eq]
    intro c hm
    exact hc c (by simpa using hm)
  · simp only [PyData.bulk]
    have : (⟨l.toArray⟩ : Str).cps.size = l.length := by simp
    omega
theorem Rp.non {m : Nat} : Rp m .none := ⟨rfl, rfl, Nat.zero_le _⟩
theorem Rp.bool {m : Nat} (b : Bool) : Rp m (.bool b) := ⟨rfl, rfl, Nat.zero_le _⟩
theorem Rp.int {m : Nat} {i : Int} (h : i.natAbs < 10 ^ 40) : Rp m (.int i) := by
  refine ⟨?_, ?_, Nat.zero_le _⟩
  · simp only [PyData.showable]
    refine decide_eq_true ?_
    rcases Nat.eq_zero_or_pos i.natAbs with z | z
    · rw [z]; decide
    · refine (Nat.log2_lt (by omega)).mpr (Nat.lt_trans h ?_)
      exact (by decide +kernel : 10 ^ 40 < 2 ^ 1920)
  · have := int_text_length_le10 (a := i) (k := 40) (by decide) h
    simp only [PyData.leavesShort]
    refine decide_eq_true ?_
    show (PyData.shown (.int i)).length ≤ 400
    have e : (PyData.shown (.int i)).length = (toString i).length := by
      show (Str.ofString (toString i)).length = _
      rw [PySem.ofString_length]
    omega
/-- repr of any value that is data -/
def rReprA (K : PySem.W.Frag) : RC := fun xs H Q => ∃ (v : V) (d : PyData), xs = [v] ∧ Dp K H v d ∧ d.showable = true ∧ d.hasDict = false ∧ d.depth ≤ 60 ∧ d.shown.length ≤ sizeLine ∧ Q (.str d.shown) H
theorem cReprA (K : PySem.W.Frag) {X : Cx} (hgu : X.A.guards = some []) (hu : X.A.units + 64 < cLine) (hK : X.K = K := by rfl) : CallR X (.builtin "repr") (rReprA K) := by
  subst hK
  intro pins s σ H xs us Q I r h
  obtain ⟨v, d, rfl, hd, h1, h2, h3, h4, q⟩ := h
  cases r with
  | cons ru rn =>
    cases rn
    cases v with
    | ref a =>
      cases (show _ = Value.ref a from ru)
      obtain ⟨as, rd⟩ := Dp.reads I d (.ref a) (.ref a) hd rfl
      exact repr_of_reads' rd h1 (PyData.noDict_hsm h2) hgu (by omega) (fun b o e => e)
        (fun h' u tk hk => ⟨.str d.shown, H, I.kept (t' := tk) hk, ⟨u, rfl⟩, q⟩) h4
    | non =>
      cases hd
      cases (show _ = Value.none from ru)
      exact PySem.P.repr_of_none ⟨.str (PyData.shown .none), H, I.tok (s.toks + 1), ⟨_, rfl⟩, q⟩
    | bl b =>
      cases hd
      cases (show _ = Value.bool b from ru)
      exact PySem.P.repr_of_bool ⟨.str (PyData.shown (.bool b)), H, I.tok (s.toks + 1), ⟨_, rfl⟩, q⟩
    | int i =>
      cases hd
      obtain ⟨t, rfl⟩ := (show ∃ t, _ = Value.int i t from ru)
      exact PySem.P.repr_of_int (of_decide_eq_true (by simpa only [PyData.showable] using h1)) ⟨.str (PyData.shown (.int i)), H, I.tok (s.toks + 1), ⟨_, rfl⟩, q⟩
    | str x =>
      cases hd
      obtain ⟨t, rfl⟩ := (show ∃ t, _ = Value.str x t from ru)
      exact PySem.P.repr_of_str ⟨.str (PyData.shown (.str x)), H, I.tok (s.toks + 1), ⟨_, rfl⟩, q⟩ h4
    | _ => cases hd
section
variable {K : PySem.W.Frag} {H : Hp} {Q : VK} {v : V} {d : PyData} {m : Nat}
theorem i_reprA (h : At H v d) (r : Rp m d) (hm : m ≤ 20000) (nd : d.hasDict = false) (dp : d.depth ≤ 60) (q : Q (.str d.shown) H) : rReprA K [v] H Q := ⟨v, d, rfl, h.dp K d v nd, r.sh, nd, dp, r.fits hm, q⟩
end
end Fg
namespace Fg
open PySem PySem.Spec PyProof.Rows L2
/-- a special method that stands in the text, with its promise -/
def DOK (P : Program) (w : World) (K : PySem.W.Frag) (mg : Str → Option Value) (base : Heap) (CX : CXT) (k : Nat) (C : Addr) (m : Str) (ps : List Str) (sp : Sp) : Prop :=
  ∃ (f : Addr) (fd : FuncData), Meth K C m f ∧ PySem.W.fnIn K f = true ∧ FnOk P w K mg base CX k f fd ps sp ∧ Binds K fd ps []
section
variable {P : Program} {w : World} {K : PySem.W.Frag} {mg : Str → Option Value} {base : Heap} {q m : Str} {st : Stmt} {N ps : List Str} {k : Nat} {sp : Sp} {C : Addr}
theorem FunD.fnIn {x q : Str} {ag : Arguments} {bd : List Stmt} {sc : Scope} {dvs : List V} {kws : List (Str × V)} {f : Addr} {fd : FuncData} (F : FunD K x q ag bd sc dvs kws f fd) : PySem.W.fnIn K f = true := by
  obtain ⟨⟨_, _, _, _, _, _, _, _, _, _, e, h, _⟩, _⟩ := F
  unfold PySem.W.fnIn
  rw [h, e]
theorem DOK.mk (D : MetIn K C m q st ps []) (S : FnScope N ps (defScope st)) (len : ∀ vs H Q E, sp vs H Q E → vs.length = ps.length)
    (body : ∀ (f : Addr) (cdv : Value) (A : Around) (outer : List Env) (s : Shared) (H : Hp) (vs : List V) (Q : VK) (E : XK), Room k (A.deeper (envOfC q (defScope st) s.heap.objs.size f cdv)) → sp vs H Q E →
      ∃ t, PSs (cxOf CX0 P w K mg base N q (defScope st) f cdv A outer s H E).nox (defBody st) t ∧ t { nx := fun _ H' => Q .non H', rt := Q } (start N vs) H) : DOK P w K mg base CX0 (k + 1) C m ps sp := by
  obtain ⟨f, fd, hm, F, hb, _⟩ := D
  exact ⟨f, fd, hm, FunD.fnIn F, FunD.ok0 F S len fun cdv A outer s H vs Q E hr h => body f cdv A outer s H vs Q E hr h, hb⟩
theorem DOK.mkX (D : MetIn K C m q st ps []) (S : FnScope N ps (defScope st)) (len : ∀ vs H Q E, sp vs H Q E → vs.length = ps.length)
    (body : ∀ (f : Addr) (cdv : Value) (A : Around) (outer : List Env) (s : Shared) (H : Hp) (vs : List V) (Q : VK) (E : XK), Room k (A.deeper (envOfC q (defScope st) s.heap.objs.size f cdv)) → sp vs H Q E →
      ∃ t, PSs (cxOf (L2.CX P w) P w K mg base N q (defScope st) f cdv A outer s H E) (defBody st) t ∧ t { nx := fun _ H' => Q .non H', rt := Q } (start N vs) H) : DOK P w K mg base (L2.CX P w) (k + 1) C m ps sp := by
  obtain ⟨f, fd, hm, F, hb, _⟩ := D
  exact ⟨f, fd, hm, FunD.fnIn F, F.ok S len fun cdv A outer s H vs Q E hr h => body f cdv A outer s H vs Q E hr h, hb⟩
end
section
variable {X : Cx} {CX : CXT} {k : Nat} {f C a : Addr} {fd : FuncData} {ps : List Str} {sp : Sp} {E : XK} {pins : List (Addr × Obj)} {σ : L2.St} {H : Hp} {s : Shared}
/-- a def is run within a built-in -/
theorem run_in {A1 : Around} (F : FnOk X.prog X.w X.K X.mg X.base CX k f fd ps sp) (hr : Room k A1) (hf : A1.frames = X.A.frames) (hb : Binds X.K fd ps []) (hx : Passes CX X E)
    {Q : VK} {us : List Value} {vs : List V} (I : Inv X pins σ H s) (r : Vals vs us) (h : sp vs H Q E) : wpAny (model X.prog X.w) A1 (call (.ref f) us) (EP X pins σ Q) X.xe s := by
  have e0 : Env0 X.prog X.w X.K X.mg X.base A1 X.stack s H := by
    have e := I.env0
    exact ⟨by rw [hf]; exact e.frames, e.mod, e.bs, e.bsz, e.funs, e.frf, e.hok, e.bare⟩
  have hl := F.len _ _ _ _ h
  have b1 := hb s us I.kIn (by rw [List.append_nil, ← r.length]; exact hl)
  rw [List.append_nil] at b1
  refine wpAny_call (codeAny_mono (F.run A1 X.stack s H ⟨us, []⟩ us vs Q E hr e0 b1 r h) fun res t2 h2 => ?_)
  cases res with
  | error z => exact hx pins σ H s z t2 I h2
  | ok fl =>
    cases fl with
    | next => exact h2.elim
    | brk => exact h2.elim
    | cont => exact h2.elim
    | ret u => exact I.after h2
theorem cmpBack {A1 : Around} {Q : VK} {u : Value} {s1 : Shared} (h : EP X pins σ (fun v H' => ∃ b, v = .bl b ∧ Q v H') u s1) : ∃ b, u = .bool b ∧ EP X pins σ Q u s1 := by
  obtain ⟨v, H1, I1, rv, b, rfl, q⟩ := h
  cases (show u = Value.bool b from rv)
  exact ⟨b, rfl, .bl b, H1, I1, rfl, q⟩
end
end Fg
namespace Fg
open PySem PySem.Spec PyProof.Rows L2
abbrev tItO (t : Addr) : Obj := { cls := .type "tuple_iterator", data := .fields #[.ref t, .int 0 0] }
/-- the iterator, at its beginning -/
def TiO (it t : Addr) : HO := .ext fun h => h.get? it = some (tItO t)
/-- a def whose promise speaks of the age of what it makes: n is the heap's size at the call -/
structure NOk (P : Program) (w : World) (K : PySem.W.Frag) (mg : Str → Option Value) (base : Heap) (CX : CXT) (k : Nat) (f : Addr) (fd : FuncData) (ps : List Str) (sp : Nat → Sp) : Prop where
  many : ∀ n vs H Q E, sp n vs H Q E → vs.length = ps.length
  runs : ∀ (B : Around) (o : List Env) (t : Shared) (H : Hp) (ar : Args) (us : List Value) (vs : List V) (Q : VK) (E : XK),
    Room k B → Env0 P w K mg base B o t H → BindsTo t fd ar (ps.zip us) → Vals vs us →
    sp t.heap.objs.size vs H Q E → codeAny (model P w) B (.call (.ref f) ar) (CR CX o P w H t Q E) t
section
variable {P : Program} {w : World} {K : PySem.W.Frag} {mg : Str → Option Value} {base : Heap} {CX : CXT} {k : Nat} {f : Addr} {fd : FuncData} {ps N : List Str} {sp : Nat → Sp} {x q : Str} {st : Stmt} {dvs : List V} {kws : List (Str × V)}
theorem nok_mk (F : FunD K x q (defArgs st) (defBody st) (defScope st) dvs kws f fd) (S : FnScope N ps (defScope st)) (many : ∀ n vs H Q E, sp n vs H Q E → vs.length = ps.length)
    (body : ∀ (cv : Value) (B : Around) (o : List Env) (t : Shared) (H : Hp) (vs : List V) (Q : VK) (E : XK),
      Room k (B.deeper (envOfC q (defScope st) t.heap.objs.size f cv)) → sp t.heap.objs.size vs H Q E →
      ∃ rd, PSs (cxOf CX P w K mg base N q (defScope st) f cv B o t H E) (defBody st) rd ∧
        rd { nx := fun _ H2 => Q .non H2, rt := Q } (start N vs) H) : NOk P w K mg base CX (k + 1) f fd ps sp := by
  obtain ⟨c1, d1, kw1, dc1, pm1, an1, cv1, ct1, sl1, osl1, rfl, at1, code1, _, _⟩ := F.ex
  refine ⟨many, fun B o t H ar us vs Q E room en bd rv asked => ?_⟩
  have inK : K.In t.heap := en.mod.kin.keeps fun b u e => (en.bs b u e).1
  have nolim : t.heap.NoLimit := en.mod.nolimit.keeps fun b u e => (en.bs b u e).1
  have n1 := many _ _ _ _ _ asked
  refine codeAny_call_function room.depth (inK _ _ at1) rfl S.co S.gen rfl
    (PySem.W.codeRec_of inK code1) (bd _ _ _ _ ?_)
  refine wpAny_newFunctionEnv_cells S.kind (fun ⟨nm, u⟩ hm => ?_) fun env he t1 made => ?_
  · exact (S.par nm (List.of_mem_zip hm).1).elim .inl fun z => .inr ⟨z, PySem.W.cellsFrom_some _ _ _ (.inl z)⟩
  subst he
  obtain ⟨rd, walked, holds⟩ := body ct1 B o t H vs Q E (room.deeper _) asked
  have I0 := inv_start (CX := CX) (E := E) S room.hd en n1 rv made
  refine ⟨nolim.keeps made.toInCall.keep, codeAny_func (wpAny_mono (walked.run [] t1 (start N vs) H _ I0 holds) (fun fl t2 h2 => ?_) fun _ _ h2 => h2)⟩
  cases fl with
  | brk => obtain ⟨_, _, _, z⟩ := h2; exact z.elim
  | cont => obtain ⟨_, _, _, z⟩ := h2; exact z.elim
  | next =>
    obtain ⟨_, H2, J, z⟩ := h2
    exact ⟨.non, H2, J.os, J.bare, J.base, J.hok, rfl, z⟩
  | ret u =>
    obtain ⟨v, _, H2, J, rv2, z⟩ := h2
    exact ⟨v, H2, J.os, J.bare, J.base, J.hok, rv2, z⟩
end
/-- __iter__ of the class at C: an iterator over the tuple in the field fl -/
def spIt (K : PySem.W.Frag) (C : Addr) (fl : Str) (n : Nat) : Sp := sp1 fun x H Q _ => ∃ a dx fs t zs, x = .ref a ∧ H a = some (.ins C dx fs) ∧ fs.lookup fl = some (.ref t) ∧ SqT K H t zs ∧ ∀ it, H it = none → n ≤ it → Q (.ref it) (upd H it (TiO it t))
def IOK (P : Program) (w : World) (K : PySem.W.Frag) (mg : Str → Option Value) (base : Heap) (CX : CXT) (k : Nat) (C : Addr) (fl : Str) : Prop :=
  ∃ (f : Addr) (fd : FuncData), Meth K C "__iter__" f ∧ NOk P w K mg base CX k f fd ["self"] (spIt K C fl) ∧ Binds K fd ["self"] []
theorem IOK.mk {P : Program} {w : World} {K : PySem.W.Frag} {mg : Str → Option Value} {base : Heap} {q fl : Str} {st : Stmt} {N : List Str} {k : Nat} {C : Addr} (D : MetIn K C "__iter__" q st ["self"] []) (S : FnScope N ["self"] (defScope st))
    (body : ∀ (f : Addr) (cdv : Value) (A : Around) (outer : List Env) (s : Shared) (H : Hp) (vs : List V) (Q : VK) (E : XK), Room k (A.deeper (envOfC q (defScope st) s.heap.objs.size f cdv)) → spIt K C fl s.heap.objs.size vs H Q E →
      ∃ t, PSs (cxOf CX0 P w K mg base N q (defScope st) f cdv A outer s H E).nox (defBody st) t ∧ t { nx := fun _ H' => Q .non H', rt := Q } (start N vs) H) : IOK P w K mg base CX0 (k + 1) C fl := by
  obtain ⟨f, fd, hm, F, hb, _⟩ := D
  exact ⟨f, fd, hm, nok_mk F S (fun n vs H Q E h => len1 vs H Q E h) fun cv B o t H vs Q E hr h => let ⟨rd, z, e⟩ := body f cv B o t H vs Q E hr h; ⟨rd, z.nox, e⟩, hb⟩
section
variable {X : Cx} {CX : CXT} {k : Nat} {C : Addr} {ps : List Str} {sp : Sp} {E : XK}
end
end Fg
namespace Fg
open PySem PySem.Spec PyProof.Rows L2
section
variable {X : Cx} {CX : CXT} {k : Nat} {f C a : Addr} {fd : FuncData} {x : Str} {ps : List Str} {sp : Sp} {E : XK} {ES : L2.St → XK} {pins : List (Addr × Obj)} {σ : L2.St} {H : Hp} {s : Shared} {dvs : List V} {ds : List Value}
end
structure InsC (K : PySem.W.Frag) (C : Addr) : Prop where
  cl : Cls K C
  ha : PySem.W.findIn K (.ref C) "__class__" = some (some (.builtin "object.__class__"))
  hn : PySem.W.specialIn K (.builtin "object.__class__") "__get__" = some (some (.builtin "getset_descriptor.__get__"))
  ht : PySem.W.takesIn K (.builtin "object.__class__") = some true
  hm : PySem.W.mroIn K C (.type "object") = some true
theorem kit_bltn {K : PySem.W.Frag} {T : String} {D : Addr} {b : Bool} (hi : PySem.W.isClsIn K D = true) (ht : PySem.W.typeIn K (.ref D) = some (.type "type")) (e : PySem.W.subIn K (.type T) (.ref D) = some b) : PySem.W.kitOne K (.type T) (.ref D) = some b := by
  unfold PySem.W.kitOne
  rw [if_neg (by simp)]
  show (if ((PySem.W.clsIn K D).isSome && PySem.W.typeIn K (.ref D) == some (.type "type")) = true then PySem.W.subIn K (.type T) (.ref D) else none) = _
  rw [show (PySem.W.clsIn K D).isSome = true from hi, ht, if_pos (by simp)]
  exact e
section
variable {K : PySem.W.Frag} {σ : L2.St} {H : Hp} {Q : VK} {E : XK} {ES : L2.St → XK} {C a dx : Addr} {fs : List (Str × V)} {to te : TE} {ta : TA} {sp : Sp} {c y v : V} {cv : Value} {b : Bool} {d : PyData} {R : It → Hp → Prop}
theorem i_isiO (h : H a = some (.ins C dx fs)) (T : InsC K C) (kc : ClsV c cv) (e : PySem.W.kitOne K (.ref C) cv = some b) (q : Q (.bl b) H) : rIsi K [.ref a, c] H Q := ⟨_, _, _, _, b, rfl, kc, .base (.ins h T.cl T.ha T.hn T.ht T.hm), e, q⟩
theorem i_isiDO (h : At H v d) (kc : ClsV c cv) (e : PySem.W.kitOne K (.type (kindD d)) cv = some b) (q : Q (.bl b) H) : rIsi K [v, c] H Q := ⟨_, _, _, _, b, rfl, kc, h.ty K, e, q⟩
end
end Fg
namespace Fg
open PySem PySem.Spec PyProof.Rows L2
section
variable {X : Cx} {CX : CXT} {k : Nat} {f C a : Addr} {fd : FuncData} {ps : List Str} {sp : Sp} {E : XK} {pins : List (Addr × Obj)} {σ : L2.St} {H : Hp} {s : Shared}
def PropIn (K : PySem.W.Frag) (C : Addr) (m q : Str) (st : Stmt) : Prop :=
  ∃ (p g : Addr) (fd : FuncData), PropOf K C m p g ∧ FunD K m q (defArgs st) (defBody st) (defScope st) [] [] g fd ∧ Binds K fd ["self"] []
def POK (P : Program) (w : World) (K : PySem.W.Frag) (mg : Str → Option Value) (base : Heap) (k : Nat) (C : Addr) (m : Str) (sp : Sp) : Prop :=
  ∃ (p g : Addr) (fd : FuncData), PropOf K C m p g ∧ FnOk P w K mg base CX0 k g fd ["self"] sp ∧ Binds K fd ["self"] []
theorem POK.mk {P : Program} {w : World} {K : PySem.W.Frag} {mg : Str → Option Value} {base : Heap} {q m : Str} {st : Stmt} {N : List Str} {k : Nat} {sp : Sp} {C : Addr} (D : PropIn K C m q st) (S : FnScope N ["self"] (defScope st)) (len : ∀ vs H Q E, sp vs H Q E → vs.length = 1)
    (body : ∀ (f : Addr) (cdv : Value) (A : Around) (outer : List Env) (s : Shared) (H : Hp) (vs : List V) (Q : VK) (E : XK), Room k (A.deeper (envOfC q (defScope st) s.heap.objs.size f cdv)) → sp vs H Q E →
      ∃ t, PSs (cxOf CX0 P w K mg base N q (defScope st) f cdv A outer s H E).nox (defBody st) t ∧ t { nx := fun _ H' => Q .non H', rt := Q } (start N vs) H) : POK P w K mg base (k + 1) C m sp := by
  obtain ⟨p, f, fd, hm, F, hb⟩ := D
  exact ⟨p, f, fd, hm, FunD.ok0 F S len fun cdv A outer s H vs Q E hr h => body f cdv A outer s H vs Q E hr h, hb⟩
section
variable {A1 : Around} {t it q : Addr} {zs : List V} {Rs : Result → Shared → Prop}
end
theorem nf_of_kit {K : PySem.W.Frag} {T : String} {C : Addr} (e : PySem.W.kitOne K (.type T) (.ref C) = some false) : PySem.W.notFirst K C (.type T) = true := by
  unfold PySem.W.kitOne at e
  rw [if_neg (by simp)] at e
  have e' : (if ((PySem.W.clsIn K C).isSome && PySem.W.typeIn K (.ref C) == some (.type "type")) = true then PySem.W.subIn K (.type T) (.ref C) else none) = some false := e
  split at e'
  · unfold PySem.W.notFirst
    rw [e']
    simp
  · cases e'
def rEqOX (K : PySem.W.Frag) (C : Addr) (sp : Sp) (E : XK) : R2 := fun x y H Q => ∃ a dx fs, x = .ref a ∧ H a = some (.ins C dx fs) ∧ ((∃ b dy gs, y = .ref b ∧ H b = some (.ins C dy gs)) ∨ ∃ T, TyX K H y (.type T) ∧ PySem.W.kitOne K (.type T) (.ref C) = some false) ∧
  sp [x, y] H (fun v H' => ∃ b, v = .bl b ∧ Q v H') E
theorem op_eqOX (G : DOK X.prog X.w X.K X.mg X.base CX k C "__eq__" ps sp) (hr : Room k X.A) (hx : Passes CX X E) : OpR X (compareOp .Eq) (rEqOX X.K C sp E) := by
  intro pins s σ H x y v u Q I rx ry h
  obtain ⟨a, dx, fs, rfl, ha, hy, q⟩ := h
  obtain ⟨f, fd, hm, _, F, hb⟩ := G
  cases rx
  obtain ⟨mA, J, _⟩ := ins_get I.hok ha
  obtain ⟨od, J, _⟩ := J.look
  obtain ⟨m, hF⟩ := I.fr
  have back : wpAny (model X.prog X.w) X.A (call (.ref f) [.ref a, u]) (PySem.W.CmpBack (EP X pins σ Q)) X.xe s :=
    wpAny_mono (run_in F hr rfl hb hx I (show Vals [V.ref a, y] [Value.ref a, u] from .cons rfl (.cons ry .nil)) q) (fun w' s1 hq => by
      obtain ⟨b, rfl, e⟩ := cmpBack (A1 := X.A) hq
      exact e) fun _ _ z => z
  rcases hy with ⟨b, dy, gs, rfl, hy⟩ | ⟨T, ty, kt⟩
  · cases ry
    obtain ⟨mB, J', _⟩ := ins_get I.hok hy
    obtain ⟨od', J', _⟩ := J'.look
    exact PySem.W.cmp_K (op := .Eq) (tb := .ref C) hr.units0 hF I.ok.mod.kin J J'.type (by simp [PySem.W.notFirst]) hm.at_ hm.fn back
  · obtain ⟨P, Z, hp, _⟩ := kit_of I ry ty
    exact PySem.W.cmp_K (op := .Eq) (tb := .type T) hr.units0 hF I.ok.mod.kin J (Z.ty _ _ I.kIn hp) (nf_of_kit kt) hm.at_ hm.fn back
theorem opEqOX (K : PySem.W.Frag) (G : DOK X.prog X.w X.K X.mg X.base CX k C "__eq__" ps sp) (hr : Room k X.A) (hx : Passes CX X E) (h : X.K = K := by rfl) : OpR X (compareOp .Eq) (rEqOX K C sp E) := h ▸ op_eqOX G hr hx
end
section
variable {K : PySem.W.Frag} {σ : L2.St} {H : Hp} {Q : VK} {E : XK} {C a b dx dy t : Addr} {fs gs : List (Str × V)} {te tf : TE} {ta : TA} {sp : Sp} {y : V} {zs : List V} {fl : Str} {d : PyData}
theorem i_eqOO (h : H a = some (.ins C dx fs)) (h' : H b = some (.ins C dy gs)) (q : sp [.ref a, .ref b] H (fun v H' => ∃ b, v = .bl b ∧ Q v H') E) : rEqOX K C sp E (.ref a) (.ref b) H Q := ⟨a, dx, fs, rfl, h, .inl ⟨b, dy, gs, rfl, h'⟩, q⟩
end
section
variable {X : Cx} {CX : CXT} {k : Nat} {C : Addr} {ps : List Str} {sp : Sp} {ES : L2.St → XK}
end
end Fg
namespace Fg
open PySem PySem.Spec PyProof.Rows L2
open L2H (RoomH PinOk cxH inv_startH)
structure FnW (P : Program) (w : World) (K : PySem.W.Frag) (mg : Str → Option Value) (base : Heap) (k : Nat) (f : Addr) (fd : FuncData) (ps : List Str) (sp : Sp) : Prop where
  len : ∀ vs H Q E, sp vs H Q E → vs.length = ps.length
  run : ∀ (A : Around) (outer : List Env) (s : Shared) (H : Hp) (args : Args) (us : List Value) (vs : List V) (Q : VK) (E : XK) (p : Addr × Obj), RoomH k A → PinOk outer H s p → Env0 P w K mg base A outer s H → BindsTo s fd args (ps.zip us) → Vals vs us → sp vs H Q E →
    codeAny (model P w) A (.call (.ref f) args) (CR CX0 outer P w H s Q E) s
section
variable {P : Program} {w : World} {K : PySem.W.Frag} {mg : Str → Option Value} {base : Heap} {N ps : List Str} {k : Nat} {sp : Sp} {x : Str} {st : Stmt}
theorem FnW.mk' {f : Addr} {fd : FuncData} (F : Fun K x x st f fd) (S : FnScope N ps (defScope st)) (len : ∀ vs H Q E, sp vs H Q E → vs.length = ps.length)
    (hb : ∀ (cdv : Value) (A : Around) (outer : List Env) (s : Shared) (H : Hp) (vs : List V) (Q : VK) (E : XK) (p : Addr × Obj), RoomH k (A.deeper (envOfC x (defScope st) s.heap.objs.size f cdv)) → sp vs H Q E →
      ∃ t, PSs (cxH CX0 P w K mg base N x (defScope st) f cdv A outer s H E p) (defBody st) t ∧ t { nx := fun _ H' => Q .non H', rt := Q } (start N vs) H) : FnW P w K mg base (k + 1) f fd ps sp := by
  obtain ⟨oc, od, kV, doc, pm, an, cdv, ct, osl, rfl, lk, hcd⟩ := F.ex
  refine ⟨len, fun A outer s H args us vs Q E p hr hpin e0 hbd r hsp => ?_⟩
  have KX : K.In s.heap := e0.mod.kin.keeps fun b o e => (e0.bs b o e).1
  have lim : s.heap.NoLimit := e0.mod.nolimit.keeps fun b o e => (e0.bs b o e).1
  have hkind : ∀ y ∈ ps.zip us, (defScope st).names.lookup y.1 = some .local ∨ ((defScope st).names.lookup y.1 = some .cell ∧ ((cellsFrom (s.heap.objs.size + 1) (defScope st).names []).lookup y.1).isSome = true) := fun ⟨n, v⟩ hy => by
    rcases S.par n (List.of_mem_zip hy).1 with q | q
    · exact .inl q
    · exact .inr ⟨q, PySem.W.cellsFrom_some _ _ _ (.inl q)⟩
  refine codeAny_call_function hr.depth (KX _ _ lk) rfl S.co S.gen rfl (PySem.W.codeRec_of KX hcd) (hbd _ _ _ _ ?_)
  refine wpAny_newFunctionEnv_cells S.kind hkind fun env he s1 y => ?_
  subst he
  refine ⟨lim.keeps y.toInCall.keep, codeAny_func ?_⟩
  obtain ⟨t, ht, hq⟩ := hb cdv A outer s H vs Q E p (hr.deeper _) hsp
  refine wpAny_mono (ht.run [] s1 (start N vs) H _ (inv_startH S hpin e0 (len _ _ _ _ hsp) r y) hq) (fun fl s' hs => ?_) fun e s' hs => hs
  cases fl with
  | ret u =>
    obtain ⟨v, σ', H', J, rv, q⟩ := hs
    exact ⟨v, H', J.os, J.bare, J.base, J.hok, rv, q⟩
  | next =>
    obtain ⟨σ', H', J, q⟩ := hs
    exact ⟨.non, H', J.os, J.bare, J.base, J.hok, rfl, q⟩
  | brk => exact hs.elim fun _ h => h.elim fun _ h => h.2.elim
  | cont => exact hs.elim fun _ h => h.elim fun _ h => h.2.elim
/-- a def of the text and its promise, within an except suite -/
def OKW (P : Program) (w : World) (K : PySem.W.Frag) (mg : Str → Option Value) (base : Heap) (k : Nat) (x : Str) (ps : List Str) (sp : Sp) : Prop :=
  ∃ (f : Addr) (fd : FuncData), FnW P w K mg base k f fd ps sp ∧ mg x = some (.ref f) ∧ PySem.W.keepIn K (.ref f) = true ∧ Binds K fd ps []
theorem OKW.mk (D : DefIn K mg x st ps) (S : FnScope N ps (defScope st)) (len : ∀ vs H Q E, sp vs H Q E → vs.length = ps.length)
    (body : ∀ (f : Addr) (cdv : Value) (A : Around) (outer : List Env) (s : Shared) (H : Hp) (vs : List V) (Q : VK) (E : XK) (p : Addr × Obj), RoomH k (A.deeper (envOfC x (defScope st) s.heap.objs.size f cdv)) → sp vs H Q E →
      ∃ t, PSs (cxH CX0 P w K mg base N x (defScope st) f cdv A outer s H E p) (defBody st) t ∧ t { nx := fun _ H' => Q .non H', rt := Q } (start N vs) H) : OKW P w K mg base (k + 1) x ps sp := by
  obtain ⟨f, fd, F, hm, hb⟩ := D
  exact ⟨f, fd, FnW.mk' F S len fun cdv A outer s H vs Q E p hr h => body f cdv A outer s H vs Q E p hr h, hm, F.kp, hb⟩
end
section
variable {X : Cx} {k : Nat} {x : Str} {ps : List Str} {sp : Sp} {e : Expr} {es : List Expr} {ta : TA} {p pos : Pos} {a : Addr} {oe : Obj} {pn : List (Addr × Obj)}
end
end Fg
namespace Fg
open PySem PySem.Spec PyProof.Rows L2
abbrev kS (l : List Nat) : Key := .inr ⟨l.toArray⟩
theorem kS_inj {l m : List Nat} : kS l = kS m ↔ l = m := by
  constructor
  · intro h
    exact List.toArray_inj (congrArg PySem.Str.cps (Sum.inr.inj h))
  · rintro rfl; rfl
theorem putK_len {κ : Type} [DecidableEq κ] (kvs : List (κ × V)) (k : κ) (v : V) : (putK kvs k v).length ≤ kvs.length + 1 := by
  unfold putK
  split
  · rw [List.length_map]; omega
  · rw [List.length_append, List.length_singleton]; exact Nat.le_refl _
/-- at a a dict of at most n entries, which answers g -/
def TD (n : Nat) (H : Hp) (a : Addr) (g : List Nat → Option V) : Prop := ∃ kvs : List (Key × V), H a = some (.dK kvs) ∧ kvs.length ≤ n ∧ ∀ l, valV kvs (kS l) = g l
def PD (n : Nat) (H : Hp) (a : Addr) (g : Int → Int → Option V) : Prop := ∃ kvs : List (List Key × V), H a = some (.dT kvs) ∧ kvs.length ≤ n ∧ ∀ i j, valV kvs [.inl i, .inl j] = g i j
def setT (g : List Nat → Option V) (k : List Nat) (v : V) : List Nat → Option V := fun l => if l = k then some v else g l
section
variable {n : Nat} {H H' : Hp} {a b : Addr} {g : List Nat → Option V} {f : Int → Int → Option V} {l : List Nat} {v : V} {Q : VK} {i j : Int}
theorem TD.at (h : TD n H a g) (e : H' a = H a) : TD n H' a g := by
  obtain ⟨kvs, h1, h2⟩ := h
  exact ⟨kvs, e.trans h1, h2⟩
theorem PD.at (h : PD n H a f) (e : H' a = H a) : PD n H' a f := by
  obtain ⟨kvs, h1, h2⟩ := h
  exact ⟨kvs, e.trans h1, h2⟩
theorem TD.mono (h : TD n H a g) (s : Same H H') : TD n H' a g := by
  obtain ⟨kvs, h1, h2⟩ := h
  exact ⟨kvs, s _ _ h1, h2⟩
theorem PD.mono (h : PD n H a f) (s : Same H H') : PD n H' a f := by
  obtain ⟨kvs, h1, h2⟩ := h
  exact ⟨kvs, s _ _ h1, h2⟩
theorem TD.some (h : TD n H a g) : ∃ o, H a = some o := by
  obtain ⟨kvs, h1, h2⟩ := h
  exact ⟨_, h1⟩
theorem PD.some (h : PD n H a f) : ∃ o, H a = some o := by
  obtain ⟨kvs, h1, h2⟩ := h
  exact ⟨_, h1⟩
theorem TD.new : TD 0 (upd H a (.dK [])) a (fun _ => none) := ⟨[], upd_same, Nat.le_refl _, fun _ => rfl⟩
theorem PD.new : PD 0 (upd H a (.dT [])) a (fun _ _ => none) := ⟨[], upd_same, Nat.le_refl _, fun _ _ => rfl⟩
theorem td_get {P : V → Prop} (h : TD n H a g) (e : g l = some v) (q : P v) : ∃ a' v', V.ref a = .ref a' ∧ DGet H a' (S l) (some v') ∧ P v' := by
  obtain ⟨kvs, h1, h2, h3⟩ := h
  refine ⟨a, v, rfl, ?_, q⟩
  have := DGet.k (k := kS l) h1
  rw [h3, e] at this
  exact this
theorem td_ask {P : Option V → Prop} (h : TD n H a g) (q : P (g l)) : ∃ a' o, V.ref a = .ref a' ∧ DGet H a' (S l) o ∧ P o := by
  obtain ⟨kvs, h1, h2, h3⟩ := h
  refine ⟨a, g l, rfl, ?_, q⟩
  have := DGet.k (k := kS l) h1
  rw [h3] at this
  exact this
theorem td_put {P : Hp → Prop} (h : TD n H a g) (hn : n ≤ 100000) (q : ∀ o, TD (n + 1) (upd H a o) a (setT g l v) → P (upd H a o)) : ∃ a' H4, V.ref a = .ref a' ∧ DPut H a' (S l) v H4 ∧ P H4 := by
  obtain ⟨kvs, h1, h2, h3⟩ := h
  refine ⟨a, _, rfl, DPut.k (k := kS l) h1 (by rw [sizeLine_eq]; omega), q _ ⟨_, upd_same, Nat.le_trans (putK_len _ _ _) (by omega), fun m => ?_⟩⟩
  rw [valV_put, h3]
  unfold setT
  by_cases e : m = l
  · rw [if_pos e, if_pos (by rw [e])]
  · rw [if_neg e, if_neg (fun z => e (kS_inj.mp z))]
end
section
variable {σ : L2.St} {H : Hp} {Q : VK} {td ty tv : TE} {D : Ends}
theorem i_dget (q : td σ H fun x H1 => ty σ H1 fun y H2 => ∃ a v, x = .ref a ∧ DGet H2 a y (some v) ∧ Q v H2) : tDGet td ty σ H Q := q
theorem i_din (q : ty σ H fun y H1 => td σ H1 fun x H2 => ∃ a o, x = .ref a ∧ DGet H2 a y o ∧ Q (.bl o.isSome) H2) : tDIn ty td σ H Q := q
theorem i_dnotin (q : ty σ H fun y H1 => td σ H1 fun x H2 => ∃ a o, x = .ref a ∧ DGet H2 a y o ∧ Q (.bl (!o.isSome)) H2) : tDNotIn ty td σ H Q := q
theorem i_dput (q : tv σ H fun v H1 => td σ H1 fun x H2 => ty σ H2 fun y H3 => ∃ a H4, x = .ref a ∧ DPut H3 a y v H4 ∧ D.nx σ H4) : sDPut td ty tv D σ H := q
theorem i_dnewK (q : ∀ p, H p = none → Q (.ref p) (upd H p (.dK []))) : tDNewK σ H Q := q
/-- {l: v}, texts -/
theorem i_disp1 {l : List Nat} {v : V} {tk tv : TE} (hk : ∀ H (R : VK), R (S l) H → tk σ H R) (hv : ∀ H (R : VK), R v H → tv σ H R) (q : ∀ p o, H p = none → TD 1 (upd H p o) p (setT (fun _ => none) l v) → Q (.ref p) (upd H p o)) : tDisp [(tk, tv)] σ H Q := by
  intro p np
  refine hk _ _ (hv _ _ ⟨upd_same, [(kS l, v)], rfl, (by decide : 1 ≤ 15), ?_⟩)
  rw [upd_upd]
  refine q p _ np ⟨_, upd_same, Nat.le_refl 1, fun m => ?_⟩
  show valV (putK [] (kS l) v) (kS m) = _
  rw [valV_put]
  unfold setT
  by_cases e : m = l
  · rw [if_pos e, if_pos (by rw [e])]
  · rw [if_neg e, if_neg (fun z => e (kS_inj.mp z))]
    rfl
end
def tTru (K : PySem.W.Frag) (te : TE) : TT := fun σ H Q => te σ H fun x H' => ∃ k, TruV K x H' k ∧ Q k H'
section
variable {K : PySem.W.Frag} {σ : L2.St} {H : Hp} {te : TE} {a : Addr} {xs : List V} {l : List Nat} {P : Bool → Prop} {Q : Bool → Hp → Prop}
theorem i_tru (q : te σ H fun x H' => ∃ k, TruV K x H' k ∧ Q k H') : tTru K te σ H Q := q
theorem i_truL0 (h : H a = some (.lst [])) (q : P false) : ∃ k, TruV K (.ref a) H k ∧ P k := ⟨_, .inl ⟨[], .inl (.inl h), rfl⟩, q⟩
theorem i_truL1 (h : H a = some (.lst xs)) (hne : xs ≠ []) (q : P true) : ∃ k, TruV K (.ref a) H k ∧ P k := ⟨_, .inl ⟨xs, .inl (.inl h), by cases xs with
  | nil => exact absurd rfl hne
  | cons _ _ => rfl⟩, q⟩
end
theorem ptTruth (K : PySem.W.Frag) {X : Cx} {e : Expr} {te : TE} (he : PE X e te) (h1 : ∀ whole, isTrue e X.env whole = (do let v ← whole; standAt e.pos; holding [v] (truthy v))) (h : X.K = K := by rfl) : PT X e (tTru K te) := h ▸ pt_truth he h1
end Fg
namespace Fg
open PySem PySem.Spec PyProof.Rows L2
section
variable {σ : L2.St} {H : Hp} {Q : VK} {td ty : TE} {a : Addr} {n : Nat} {g : List Nat → Option V} {l : List Nat}
end
end Fg
namespace Fg
open PySem PySem.Spec PyProof.Rows L2
section
variable {σ : L2.St} {H : Hp} {Q : VK} {a : Addr} {kvs : List (Key × V)} {l : List Nat} {v : V}
theorem dk_ask {P : Option V → Prop} (h : H a = some (.dK kvs)) (q : P (valV kvs (kS l))) : ∃ a' o, V.ref a = .ref a' ∧ DGet H a' (S l) o ∧ P o := ⟨a, _, rfl, DGet.k (k := kS l) h, q⟩
theorem dk_get {P : V → Prop} (h : H a = some (.dK kvs)) (e : valV kvs (kS l) = some v) (q : P v) : ∃ a' v', V.ref a = .ref a' ∧ DGet H a' (S l) (some v') ∧ P v' := by
  refine ⟨a, v, rfl, ?_, q⟩
  have := DGet.k (k := kS l) h
  rw [e] at this
  exact this
theorem dk_put {P : Hp → Prop} (h : H a = some (.dK kvs)) (hn : kvs.length ≤ 100000) (q : P (upd H a (.dK (putK kvs (kS l) v)))) : ∃ a' H4, V.ref a = .ref a' ∧ DPut H a' (S l) v H4 ∧ P H4 := by
  refine ⟨a, _, rfl, DPut.k (k := kS l) h (by rw [sizeLine_eq]; omega), q⟩
theorem putK_new (h : valV kvs (kS l) = none) : putK kvs (kS l) v = kvs ++ [(kS l, v)] := by
  unfold putK
  rw [if_neg]
  intro z
  unfold valV at h
  rw [Option.map_eq_none_iff, List.find?_eq_none] at h
  rw [List.any_eq_true] at z
  obtain ⟨x, hx, e⟩ := z
  exact h x hx e
/-- {l: v} -/
theorem i_disp1K {tk tv : TE} (hk : ∀ H (R : VK), R (S l) H → tk σ H R) (hv : ∀ H (R : VK), R v H → tv σ H R) (q : ∀ p, H p = none → Q (.ref p) (upd H p (.dK [(kS l, v)]))) : tDisp [(tk, tv)] σ H Q := by
  intro p np
  refine hk _ _ (hv _ _ ⟨upd_same, [(kS l, v)], rfl, (by decide : 1 ≤ 15), ?_⟩)
  rw [upd_upd]
  exact q p np
end
/-- a table of signs and texts -/
def tblK (t : List (Nat × List Nat)) : List (Key × V) := t.map fun p => (kS [p.1], S p.2)
theorem tbl_val : ∀ (t : List (Nat × List Nat)) (c : Nat), valV (tblK t) (kS [c]) = (t.lookup c).map S
  | [], _ => rfl
  | (k, w) :: r, c => by
    have ih := tbl_val r c
    show (((kS [k], S w) :: tblK r).find? fun kv => decide (kv.1 = kS [c])).map (·.2) = _
    rw [List.lookup_cons, List.find?_cons]
    by_cases e : c = k
    · subst e
      simp
    · have e1 : (c == k) = false := by simpa using e
      have e2 : decide (kS [k] = kS [c]) = false := decide_eq_false fun z => e (by have := kS_inj.mp z; injection this with this; exact this.symm)
      rw [e1]
      simp only [e2]
      exact ih
end Fg
namespace Fg
open PySem PySem.Spec PyProof.Rows L2
theorem eqV_S (m l : List Nat) : eqV (S m) (S l) = decide (m = l) := by
  show ((⟨m.toArray⟩ : Str) == ⟨l.toArray⟩) = _
  rw [Bool.eq_iff_iff]
  simp
theorem inV_S (l : List Nat) : ∀ ms : List (List Nat), inV (S l) (ms.map S) = decide (l ∈ ms)
  | [] => by simp [inV]
  | m :: r => by
    have ih := inV_S l r
    unfold inV at ih ⊢
    rw [List.map_cons, List.any_cons, ih, eqV_S, Bool.eq_iff_iff, Bool.or_eq_true, decide_eq_true_eq, decide_eq_true_eq, decide_eq_true_eq, List.mem_cons]
    exact ⟨fun h => h.imp_left Eq.symm, fun h => h.imp_left Eq.symm⟩
theorem flat_S : ∀ ms : List (List Nat), (ms.map S).all flatV = true
  | [] => rfl
  | m :: r => by rw [List.map_cons, List.all_cons, flat_S r]; rfl
section
variable {K : PySem.W.Frag} {H : Hp} {Q : VK} {p : Addr} {ms : List (List Nat)} {l : List Nat} {v : V}
theorem i_inS (h : H p = some (.lst (ms.map S))) (q : Q (.bl (decide (l ∈ ms))) H) : inP K (S l) (.ref p) H Q :=
  .inr ⟨p, _, rfl, .inl (.inl (.inl h)), rfl, flat_S ms, by rw [if_neg (by decide), inV_S]; exact q⟩
end
end Fg
namespace Fg
open PySem PySem.Spec PyProof.Rows L2
section
variable {K : PySem.W.Frag} {σ : L2.St} {A G : Hp} {Q : VK} {te tl : TE} {j : Nat} {p dx t C : Addr} {fs : List (Str × V)} {fl : Str} {xs : List V} {vs : List Nat}
theorem i_ne_same {H : Hp} {x : Str} (q : Q (.bl false) H) : neP K (.str x) (.str x) H Q := by
  show neP K (S x.cps.toList) (S x.cps.toList) H Q
  refine i_ne_str ?_
  rw [decide_eq_true rfl]
  exact q
theorem i_eq_same {H : Hp} {x : Str} (q : Q (.bl true) H) : eqP K (.str x) (.str x) H Q := by
  show eqP K (S x.cps.toList) (S x.cps.toList) H Q
  refine i_eq_str ?_
  rw [decide_eq_true rfl]
  exact q
end
end Fg
namespace Fg
open PySem PySem.Spec PyProof.Rows L2
section
variable {K : PySem.W.Frag} {σ : L2.St} {A G H H' : Hp} {Q : VK} {te tl : TE} {j : Nat} {a : Addr} {xs : List V} {vs : List Nat}
theorem atAll_of : ∀ {l : List V} {ds : List PyData}, l.length = ds.length → (∀ (i : Nat) (v : V) (d : PyData), l[i]? = some v → ds[i]? = some d → At H v d) → AtAll H l ds
  | [], [], _, _ => .nil
  | v :: l, d :: ds, h, k => .cons (k 0 v d rfl rfl) (atAll_of (by simpa using h) fun i v d h1 h2 => k (i + 1) v d h1 h2)
  | [], _ :: _, h, _ => by simp at h
  | _ :: _, [], h, _ => by simp at h
/-- all tuples stay -/
def SmT (H H' : Hp) : Prop := ∀ b xs, H b = some (.tup xs) → H' b = some (.tup xs)
theorem Same.smT (s : Same H H') : SmT H H' := fun b xs e => s _ _ e
theorem SmT.trans {H'' : Hp} (s : SmT H H') (t : SmT H' H'') : SmT H H'' := fun b xs e => t _ _ (s _ _ e)
theorem SmT.put {p : Addr} {xs : List V} {o : HO} (e : H p = some (.lst xs)) : SmT H (upd H p o) := fun b ys h => by
  rw [upd_ne (fun z => by rw [z, e] at h; cases h)]
  exact h
mutual
def noL : PyData → Bool
  | .list _ => false
  | .dict _ => false
  | .tuple ds => noLs ds
  | .none => true
  | .bool _ => true
  | .int _ => true
  | .str _ => true
def noLs : List PyData → Bool
  | [] => true
  | d :: r => noL d && noLs r
end
theorem noLs_of : ∀ {ds : List PyData}, (∀ d ∈ ds, noL d = true) → noLs ds = true
  | [], _ => rfl
  | d :: r, h => by
    show (noL d && noLs r) = true
    rw [h d (List.mem_cons_self ..), noLs_of fun e he => h e (List.mem_cons_of_mem _ he)]
    rfl
mutual
theorem At.smT (s : SmT H H') : ∀ (d : PyData) (v : V), At H v d → noL d = true → At H' v d
  | .none, _, h, _ => by cases h; exact .non
  | .bool b, _, h, _ => by cases h; exact .bl b
  | .int i, _, h, _ => by cases h; exact .int i
  | .str x, _, h, _ => by
    cases h with
    | str l hl => exact .str l hl
  | .list ds, _, _, n => by cases n
  | .tuple ds, _, h, n => by
    cases h with
    | tup e l a => exact .tup (s _ _ e) l (AtAll.smT s ds _ a n)
  | .dict kvs, _, _, n => by cases n
theorem AtAll.smT (s : SmT H H') : ∀ (ds : List PyData) (vs : List V), AtAll H vs ds → noLs ds = true → AtAll H' vs ds
  | [], _, h, _ => by cases h; exact .nil
  | d :: ds, _, h, n => by
    have n' : (noL d && noLs ds) = true := n
    rw [Bool.and_eq_true] at n'
    cases h with
    | cons a b => exact .cons (At.smT s d _ a n'.1) (AtAll.smT s ds _ b n'.2)
end
theorem At.keep {v : V} {d : PyData} (h : At H v d) (s : SmT H H') (n : noL d = true) : At H' v d := At.smT s d v h n
theorem AtAll.keep {vs : List V} {ds : List PyData} (h : AtAll H vs ds) (s : SmT H H') (n : noLs ds = true) : AtAll H' vs ds := AtAll.smT s ds vs h n
/-- all but one -/
def wo (H : Hp) (p : Addr) : Hp := fun b => if b = p then none else H b
theorem wo_same {p : Addr} : wo H p p = none := if_pos rfl
theorem wo_ne {p b : Addr} (h : b ≠ p) : wo H p b = H b := if_neg h
theorem wo_sub {p : Addr} : Same (wo H p) H := fun b o e => by
  unfold wo at e
  split at e
  · cases e
  · exact e
theorem SmT.wo {p : Addr} {xs : List V} (e : H p = some (.lst xs)) : SmT H (wo H p) := fun b ys h => by
  rw [wo_ne (fun z => by rw [z, e] at h; cases h)]
  exact h
end
end Fg
namespace Fg
open PySem PySem.Spec PyProof.Rows L2
section
variable {K : PySem.W.Frag} {H : Hp} {Q : VK} {a dd D tp : Addr} {fs : List (Str × V)} {cs : List V} {us : List Value} {b : Bool}
end
def srt (ns : List Int) : List Int := ns.mergeSort
section
variable {K : PySem.W.Frag} {σ : L2.St} {H : Hp} {Q : VK} {a : Addr} {ns : List Int} {ta : TE}
end
section
variable {X : Cx} (K : PySem.W.Frag) {o e : Expr} {es : List Expr} {to : TE} {ta : TA} {apos cpos : PySem.Pos}
end
section
variable {K : PySem.W.Frag} {σ : L2.St} {H : Hp} {Q : VK} {to : TE} {t : TA} {a : Addr} {ms : List (List Nat)} {l : List Nat} {j : Nat}
end
section
variable {σ : L2.St} {H : Hp} {Q : VK} {a : Addr} {kvs : List (Key × V)} {k : Key} {v : V} {td ty tx : TE}
end
section
variable {K : PySem.W.Frag} {σ : L2.St} {G : Hp} {Q : VK} {te td : TE} {j : Nat} {d : Addr} {kvs : List (Key × V)} {vs : List Nat}
end
end Fg
namespace Fg
open PySem PySem.Spec PyProof.Rows L2
def flatE (d : PyData) : Prop := d.hasDict = false ∨ d = .dict []
/-- without dicts, {} itself, or a list of such -/
def flatL (d : PyData) : Prop := flatE d ∨ ∃ ds, d = .list ds ∧ ∀ e ∈ ds, flatE e
section
variable {X : Cx} {pins : List (Addr × Obj)} {σ : L2.St} {H : Hp} {s : Shared}
theorem reads_ed {a : Addr} (I : Inv X pins σ H s) (e : H a = some (.dK [])) : Reads s.heap (.ref a) (.dict []) [a] ∧ sysModules ∉ [a] := by
  obtain ⟨_, hs, vs, r, o, es, ep, ho, hx, hdat, _, hp, _⟩ := dk_of I.hok e
  cases r
  obtain ⟨es⟩ := es
  have hes : es = [] := by
    cases hp
    rfl
  subst hes
  refine ⟨Reads.dict (kvs := []) (as := []) (bs := []) ho hx.1 hdat .nil .nil, fun z => ?_⟩
  rw [List.mem_singleton.mp z, beq_self_eq_true] at hs
  cases hs
theorem item_ed {v : V} {u : Value} {d : PyData} (I : Inv X pins σ H s) (h : At H v d) (r : RelV v u) (n : flatE d) : ∃ as, Reads s.heap u d as ∧ (d.hasDict = true → sysModules ∉ as) := by
  rcases n with n | rfl
  · obtain ⟨as, rd⟩ := Dp.reads I d v u (h.dp X.K d v n) r
    exact ⟨as, rd, PyData.noDict_hsm n⟩
  · cases h with
    | dct e =>
      cases r
      obtain ⟨rd, z⟩ := reads_ed I e
      exact ⟨_, rd, fun _ => z⟩
theorem all_ed (I : Inv X pins σ H s) : ∀ {ds : List PyData} {vs : List V} {us : List Value}, AtAll H vs ds → Vals vs us → (∀ d ∈ ds, flatE d) → PyData.showableAll ds = true → (∀ t ∈ PyData.shownAll ds, t.length ≤ sizeLine) →
    (∃ as, ReadsAll s.heap us ds as) ∧ ∃ bs, ReadAtMost s.heap (PyData.depthAll ds) bs ∧ ReprAllK X.prog X.w bs s.heap (PyData.depthAll ds) us (PyData.shownAll ds)
  | [], _, _, h, r, _, _, _ => by
    cases h
    cases r
    exact ⟨⟨_, .nil⟩, [], fun _ z => absurd z List.not_mem_nil, by simp only [PyData.shownAll]; exact .nil⟩
  | d :: ds, _, _, h, r, n, sh, z => by
    cases h with
    | cons h1 h2 =>
    cases r with
    | cons r1 r2 =>
    have sh' : (d.showable && PyData.showableAll ds) = true := by simpa only [PyData.showableAll] using sh
    rw [Bool.and_eq_true] at sh'
    obtain ⟨as, q1, q2⟩ := item_ed I h1 r1 (n d (List.mem_cons_self ..))
    obtain ⟨b1, m1, k1⟩ := ReprK.of_reads (prog := X.prog) (w := X.w) q1 sh'.1 q2 (z _ (by simp only [PyData.shownAll]; exact List.mem_cons_self ..))
    obtain ⟨⟨cs, q3⟩, b2, m2, k2⟩ := all_ed I h2 r2 (fun e he => n e (List.mem_cons_of_mem _ he)) sh'.2 (fun t ht => z t (by simp only [PyData.shownAll]; exact List.mem_cons_of_mem _ ht))
    have l1 : d.depth ≤ PyData.depthAll (d :: ds) := by simp only [PyData.depthAll]; exact Nat.le_max_left ..
    have l2 : PyData.depthAll ds ≤ PyData.depthAll (d :: ds) := by simp only [PyData.depthAll]; exact Nat.le_max_right ..
    refine ⟨⟨_, .cons q1 q3⟩, b1 ++ b2, (m1.mono l1).append (m2.mono l2), ?_⟩
    have e : PyData.shownAll (d :: ds) = d.shown :: PyData.shownAll ds := by simp only [PyData.shownAll]
    rw [e]
    exact .cons ((k1.more fun b hb => List.mem_append_left b2 hb).level_le l1) (k2.more_le (fun b hb => List.mem_append_right b1 hb) l2)
end
def rReprB (K : PySem.W.Frag) : RC := fun xs H Q => ∃ (v : V) (d : PyData), xs = [v] ∧ At H v d ∧ d.showable = true ∧ flatL d ∧ d.depth ≤ 60 ∧ d.shown.length ≤ sizeLine ∧ Q (.str d.shown) H
theorem cReprB (K : PySem.W.Frag) {X : Cx} (hgu : X.A.guards = some []) (hu : X.A.units + 64 < cLine) (hK : X.K = K := by rfl) : CallR X (.builtin "repr") (rReprB K) := by
  subst hK
  intro pins s σ H xs us Q I r h
  obtain ⟨v, d, rfl, hd, h1, h2, h3, h4, q⟩ := h
  by_cases nd : d.hasDict = false
  · exact cReprA X.K hgu hu rfl pins s σ H [v] us Q I r ⟨v, d, rfl, hd.dp X.K d v nd, h1, nd, h3, h4, q⟩
  cases r with
  | cons ru rn =>
  cases rn
  rcases h2 with (z | rfl) | ⟨ds, rfl, n⟩
  · exact absurd z nd
  · cases hd with
    | dct e =>
      cases ru
      obtain ⟨rd, z⟩ := reads_ed I e
      exact repr_of_reads' rd h1 (fun _ => z) hgu (by omega) (fun b o e => e) (fun h' u tk hk => ⟨.str _, H, I.kept (t' := tk) hk, ⟨u, rfl⟩, q⟩) h4
  · cases hd with
    | @lst a xs _ e hl al =>
      cases ru
      obtain ⟨its, rv, ⟨o, nn, ho, hc, _, hdat⟩, _⟩ := I.list (.inl (.inl e))
      have sz : (listText (PyData.shownAll ds)).length ≤ sizeLine := by simpa only [PyData.shown] using h4
      obtain ⟨⟨as, rd⟩, bs, hb, hk⟩ := all_ed I al rv n (by simpa only [PyData.showable] using h1) (fun t ht => Nat.le_trans (listText_mem_le ht) sz)
      have na : a ∉ bs := not_mem_of_deeper (Reads.list ho hc hdat rd) (by simp only [PyData.depth]; omega) hb
      cases its with
      | nil =>
        cases rv
        cases al
        exact absurd (by simp [PyData.hasDict, PyData.hasDictAll]) nd
      | cons u us =>
        simp only [PyData.depth] at h3
        have q' : Q (.str (listText (PyData.shownAll ds))) H := by simpa only [PyData.shown] using q
        exact call_repr_slot (by omega) ⟨o, ho, hc⟩ F.slot_list_repr.toG (call_list_reprK ho hc hdat na (by simpa using hk.length_eq) (fun i y ey => hk.item i y (by simpa using ey)) (g := []) (by show X.A.guards = _; exact hgu) (fun b _ => Clear.nil b)
          (by show X.A.units + 1 + (PyData.depthAll ds + 1) < cLine; omega) (fun b o e => e) (fun h' w tk hk' => ⟨_, _, rfl, ⟨.str _, H, I.kept (t' := tk) hk', ⟨w, rfl⟩, q'⟩⟩) sz)
section
variable {K : PySem.W.Frag} {H : Hp} {Q : VK} {v : V} {d : PyData} {m : Nat}
theorem i_reprB (h : At H v d) (r : Rp m d) (hm : m ≤ 20000) (nd : flatL d) (dp : d.depth ≤ 60) (q : Q (.str d.shown) H) : rReprB K [v] H Q := ⟨v, d, rfl, h, r.sh, nd, dp, r.fits hm, q⟩
end
section
variable {K : PySem.W.Frag} {σ : L2.St} {G : Hp} {Q : VK} {te tl : TE} {j : Nat} {a : Addr} {xs : List V} {vs : List Nat}
end
end Fg
namespace Fg
open PySem PySem.Spec PyProof.Rows L2
open L2H (RoomH PinOk cxH inv_startH)
/-- a promise, by the error's address, class, dict -/
abbrev SpX := Addr → Value → Option Addr → Sp
structure FnX (P : Program) (w : World) (K : PySem.W.Frag) (mg : Str → Option Value) (base : Heap) (k : Nat) (f : Addr) (fd : FuncData) (ps : List Str) (sp : SpX) : Prop where
  len : ∀ a cls d vs H Q E, sp a cls d vs H Q E → vs.length = ps.length
  run : ∀ (A : Around) (outer : List Env) (s : Shared) (H : Hp) (args : Args) (us : List Value) (vs : List V) (Q : VK) (E : XK) (a : Addr) (oe : Obj) (cls : Value) (d : Option Addr), A.guards = some [] → RoomH k A → Zc cls d oe → (∃ fv, oe.data = .fields fv) → PinOk outer H s (a, oe) → Env0 P w K mg base A outer s H → BindsTo s fd args (ps.zip us) → Vals vs us →
    sp a cls d vs H Q E → codeAny (model P w) A (.call (.ref f) args) (CR CX0 outer P w H s Q E) s
section
variable {P : Program} {w : World} {K : PySem.W.Frag} {mg : Str → Option Value} {base : Heap} {N ps : List Str} {k : Nat} {sp : SpX} {x : Str} {st : Stmt}
theorem FnX.mk' {f : Addr} {fd : FuncData} (F : Fun K x x st f fd) (S : FnScope N ps (defScope st)) (len : ∀ a cls d vs H Q E, sp a cls d vs H Q E → vs.length = ps.length)
    (hb : ∀ (cdv : Value) (A : Around) (outer : List Env) (s : Shared) (H : Hp) (vs : List V) (Q : VK) (E : XK) (a : Addr) (oe : Obj) (cls : Value) (d : Option Addr), A.guards = some [] → Zc cls d oe → (∃ fv, oe.data = .fields fv) → RoomH k (A.deeper (envOfC x (defScope st) s.heap.objs.size f cdv)) → sp a cls d vs H Q E →
      ∃ t, PSs (cxH CX0 P w K mg base N x (defScope st) f cdv A outer s H E (a, oe)) (defBody st) t ∧ t { nx := fun _ H' => Q .non H', rt := Q } (start N vs) H) : FnX P w K mg base (k + 1) f fd ps sp := by
  obtain ⟨oc, od, kV, doc, pm, an, cdv, ct, osl, rfl, lk, hcd⟩ := F.ex
  refine ⟨len, fun A outer s H args us vs Q E a oe cls d hgu hr hz hf hpin e0 hbd r hsp => ?_⟩
  have KX : K.In s.heap := e0.mod.kin.keeps fun b o e => (e0.bs b o e).1
  have lim : s.heap.NoLimit := e0.mod.nolimit.keeps fun b o e => (e0.bs b o e).1
  have hkind : ∀ y ∈ ps.zip us, (defScope st).names.lookup y.1 = some .local ∨ ((defScope st).names.lookup y.1 = some .cell ∧ ((cellsFrom (s.heap.objs.size + 1) (defScope st).names []).lookup y.1).isSome = true) := fun ⟨n, v⟩ hy => by
    rcases S.par n (List.of_mem_zip hy).1 with q | q
    · exact .inl q
    · exact .inr ⟨q, PySem.W.cellsFrom_some _ _ _ (.inl q)⟩
  refine codeAny_call_function hr.depth (KX _ _ lk) rfl S.co S.gen rfl (PySem.W.codeRec_of KX hcd) (hbd _ _ _ _ ?_)
  refine wpAny_newFunctionEnv_cells S.kind hkind fun env he s1 y => ?_
  subst he
  refine ⟨lim.keeps y.toInCall.keep, codeAny_func ?_⟩
  obtain ⟨t, ht, hq⟩ := hb cdv A outer s H vs Q E a oe cls d hgu hz hf (hr.deeper _) hsp
  refine wpAny_mono (ht.run [] s1 (start N vs) H _ (inv_startH S hpin e0 (len _ _ _ _ _ _ _ hsp) r y) hq) (fun fl s' hs => ?_) fun e s' hs => hs
  cases fl with
  | ret u =>
    obtain ⟨v, σ', H', J, rv, q⟩ := hs
    exact ⟨v, H', J.os, J.bare, J.base, J.hok, rv, q⟩
  | next =>
    obtain ⟨σ', H', J, q⟩ := hs
    exact ⟨.non, H', J.os, J.bare, J.base, J.hok, rfl, q⟩
  | brk => exact hs.elim fun _ h => h.elim fun _ h => h.2.elim
  | cont => exact hs.elim fun _ h => h.elim fun _ h => h.2.elim
/-- a def of the text and its promise -/
def OKXW (P : Program) (w : World) (K : PySem.W.Frag) (mg : Str → Option Value) (base : Heap) (k : Nat) (x : Str) (ps : List Str) (sp : SpX) : Prop :=
  ∃ (f : Addr) (fd : FuncData), FnX P w K mg base k f fd ps sp ∧ mg x = some (.ref f) ∧ PySem.W.keepIn K (.ref f) = true ∧ Binds K fd ps []
theorem OKXW.mk (D : DefIn K mg x st ps) (S : FnScope N ps (defScope st)) (len : ∀ a cls d vs H Q E, sp a cls d vs H Q E → vs.length = ps.length)
    (body : ∀ (f : Addr) (cdv : Value) (A : Around) (outer : List Env) (s : Shared) (H : Hp) (vs : List V) (Q : VK) (E : XK) (a : Addr) (oe : Obj) (cls : Value) (d : Option Addr), A.guards = some [] → Zc cls d oe → (∃ fv, oe.data = .fields fv) → RoomH k (A.deeper (envOfC x (defScope st) s.heap.objs.size f cdv)) → sp a cls d vs H Q E →
      ∃ t, PSs (cxH CX0 P w K mg base N x (defScope st) f cdv A outer s H E (a, oe)) (defBody st) t ∧ t { nx := fun _ H' => Q .non H', rt := Q } (start N vs) H) : OKXW P w K mg base (k + 1) x ps sp := by
  obtain ⟨f, fd, F, hm, hb⟩ := D
  exact ⟨f, fd, FnX.mk' F S len fun cdv A outer s H vs Q E a oe cls d hgu hz hf hr h => body f cdv A outer s H vs Q E a oe cls d hgu hz hf hr h, hm, F.kp, hb⟩
end
section
variable {X : Cx} {k : Nat} {x : Str} {ps : List Str} {sp : SpX} {e : Expr} {es : List Expr} {ta : TA} {p pos : PySem.Pos} {a : Addr} {oe : Obj} {pn : List (Addr × Obj)} {cls : Value} {d : Option Addr}
end
section
variable {X : Cx} {a C : Addr} {oe : Obj} {cls : Value} {d : Option Addr} {e : Expr} {te : TE} {pos : PySem.Pos} {n : Str}
end
end Fg
namespace Fg
open PySem PySem.Spec PyProof.Rows L2
open AutoSeq1 (wpAny_loadPart')
theorem meets_enumT (l : Addr) (items : Array Value) (n : Nat) (dct : Option Addr) (sl : Array (Option Value)) :
    Meets (Builtin.«enumerate.__new__» ⟨[.type "enumerate", .ref l], []⟩) (fun _ R s => s.heap.get? l = some { cls := .type "tuple", dict := dct, data := .seq items n, slots := sl } ∧
      R (.ok (.ret (.ref (s.heap.push { cls := .type "tuple_iterator", data := .fields #[.ref l, .int 0 0] }).objs.size)))
        { s with heap := (s.heap.push { cls := .type "tuple_iterator", data := .fields #[.ref l, .int 0 0] }).push { cls := .type "enumerate", data := .fields #[.none, .bool false, .ref s.heap.objs.size, rawInt 0, .none, .none] } }) :=
  .of_wp fun prog w A R s h => by
    obtain ⟨hp, g, d, tk, os⟩ := s; obtain ⟨hl, h⟩ := h
    have hsub := sub_enumerate
    have hL : Heap.IsTuple (Shared.heap ⟨hp, g, d, tk, os⟩) l items := ⟨_, hl, rfl, n, rfl⟩
    wp_walk using wpAny_loadPart' hl
    refine wpAny_stack_any fun st => wpAny_pure ?_
    split
    · rename_i c _ _ _ _ _
      cases (c == Value.type "enumerate")
      · wp_walk using wpAny_loadPart' hl, wpAny_pyIter_tuple hL
        exact ⟨_, rfl, h⟩
      · wp_walk using wpAny_loadPart' hl, wpAny_pyIter_tuple hL
        exact ⟨_, rfl, h⟩
    · wp_walk using wpAny_loadPart' hl, wpAny_pyIter_tuple hL
      exact ⟨_, rfl, h⟩
section
variable {prog : Program} {w : World} {A : Around} {E : Value → Shared → Prop} {s : Shared}
theorem call_enumT {l : Addr} {items : Array Value} {Q : Value → Shared → Prop} (hL : s.heap.IsTuple l items)
    (h : ∀ h', IsEnum h' (s.heap.objs.size + 1) s.heap.objs.size 0 .none → h'.IsTupleIter s.heap.objs.size l 0 → h'.objs.size = s.heap.objs.size + 2 →
      (∀ b o, s.heap.get? b = some o → h'.get? b = some o) → Q (.ref (s.heap.objs.size + 1)) { s with heap := h' }) :
    wpAny (model prog w) A (call (.type "enumerate") [.ref l]) Q E s := by
  obtain ⟨⟨c, dct, dt, sl⟩, hl, hc, n, hd⟩ := hL
  replace hc : c = .type "tuple" := hc
  replace hd : dt = .seq items n := hd
  subst hc hd
  refine callType_new F.called_enumerate (by decide) (F.typeCall_enumerate_1 _) (F.newCall_enumerate_1 _) (fun obj => F.args_object_init_2 obj _) F.entry_enumerate_new
    (meets_enumT l items n dct sl) ⟨hl, ?_⟩
  have hz : (s.heap.push { cls := .type "tuple_iterator", data := .fields #[.ref l, .int 0 0] }).objs.size = s.heap.objs.size + 1 := Heap.size_push ..
  show _ ∧ _
  rw [hz]
  have he : IsEnum ((s.heap.push { cls := .type "tuple_iterator", data := .fields #[.ref l, .int 0 0] }).push
      { cls := .type "enumerate", data := .fields #[.none, .bool false, .ref s.heap.objs.size, rawInt 0, .none, .none] }) (s.heap.objs.size + 1) s.heap.objs.size 0 .none := by
    have := Heap.get?_push_size (s.heap.push { cls := .type "tuple_iterator", data := .fields #[.ref l, .int 0 0] })
      (o := { cls := .type "enumerate", data := .fields #[.none, .bool false, .ref s.heap.objs.size, rawInt 0, .none, .none] }) rfl
    rw [hz] at this; exact this
  refine ⟨⟨_, he, rfl⟩, h _ he ⟨_, Heap.get?_push_of_some _ (Heap.get?_push_size _ rfl), rfl, rfl⟩ (by rw [Heap.size_push, hz]) fun b o x => Heap.get?_push_of_some _ (Heap.get?_push_of_some _ x)⟩
end
/-- the tuple at a, each item in a new pair with its place -/
def Itet (K : PySem.W.Frag) (a : Addr) : It :=
  ⟨fun i H => ∃ (xs : List V) (x : V), SqT K H a xs ∧ xs[i]? = some x, fun i H v H' => ∃ T x, v = .ref T ∧ H T = none ∧ H' = upd H T (.tup [.int (i : Nat), x]) ∧ ∀ xs, SqT K H a xs → xs[i]? = some x, fun i H => ∃ xs : List V, SqT K H a xs ∧ i = xs.length⟩
theorem turn_enumT {P : Program} {w : World} {K : PySem.W.Frag} {elts : List Expr} {kk : Nat} {tpos : PySem.Pos} (a e it : Addr) :
    Turn P w K (.Tuple elts kk tpos) (Itet K a) [e, it] e (fun i h => (∃ old, IsEnum h e it ((i : Nat) : Int) old) ∧ h.IsTupleIter it a i ∧ e ≠ it) where
  mem := by simp
  obj := fun i h st b hb => by
    obtain ⟨⟨old, he⟩, ⟨o, ho, hc, hd⟩, _⟩ := st
    have e' : b = e ∨ b = it := by simpa using hb
    rcases e' with z | z
    · rw [z]; exact ⟨_, he, fun v q => nomatch q⟩
    · rw [z]; exact ⟨o, ho, fun v q => by rw [hd] at q; cases q⟩
  keep := fun i h h' st k => let ⟨⟨old, he⟩, hi, hne⟩ := st; ⟨⟨old, k e (by simp) _ he⟩, hi.at fun o q => k it (by simp) o q, hne⟩
  item := by
    intro X hP hw hK hc i pins s σ H E I hf st hg
    subst hP hw hK
    obtain ⟨⟨old, he⟩, hit, hne⟩ := st
    obtain ⟨xs, x, hq, hx⟩ := hg
    obtain ⟨its, rv, p, hz⟩ := I.tuple hq
    have pt : s.heap.IsTuple a its.toArray := p
    obtain ⟨u, hu, ru⟩ := rv.get hx
    have hel : e < s.heap.objs.size := Heap.lt_size he
    have hil : it < s.heap.objs.size := by obtain ⟨_, q, _⟩ := hit; exact Heap.lt_size q
    have hai : a ≠ it := fun z => by
      obtain ⟨o1, q1, c1, _⟩ := hit
      obtain ⟨o2, q2, c2, _⟩ := pt
      rw [z, q1] at q2
      cases q2
      rw [c1] at c2
      exact absurd c2 (by simp)
    have hae : e ≠ a := fun z => by
      obtain ⟨o2, q2, c2, _⟩ := pt
      rw [← z] at q2
      have q1 : s.heap.get? e = some _ := he
      rw [q1] at q2
      cases q2
      exact absurd c2 (by simp)
    have hsz : its.toArray.size = xs.length := by rw [List.size_toArray]; exact rv.length.symm
    have D := Draws.tuple (prog := X.prog) (w := X.w) (A := X.A.in1) (I.ok.hd hc) it a hai its.toArray
    refine wpAny_pyNext_enum_itemC D he ⟨hit, pt⟩ (by rw [hsz]; exact (List.getElem?_eq_some_iff.mp hx).1) hne (by simp [hne, hae]) fun y h' tk hy ho hS' hT hsz2 hk => ?_
    have yu : y = u := by
      have e1 : its.toArray[i]? = some u := by simpa using hu
      rw [e1] at hy
      exact (Option.some.inj hy).symm
    subst yu
    refine ⟨_, rfl, wpAny_letOwnedTupleGo_enum (s := { s with heap := h', toks := tk + 1 }) ho fun h2 he2 sb => ?_⟩
    have T2 : h2.get? s.heap.objs.size = some { cls := .type "tuple", data := .seq #[.int i tk, y] } := (sb.2 _ (Nat.ne_of_gt hel)).trans hT
    have new : ObjOk X.prog X.w (upd H s.heap.objs.size (.tup [.int (i : Nat), x])) h2 s.heap.objs.size (.tup [.int (i : Nat), x]) :=
      ⟨by show 2 ≤ sizeLine; decide, [.int i tk, y], .cons ⟨_, rfl⟩ (.cons ru .nil), ⟨_, T2, rfl, _, rfl⟩⟩
    have J : Inv X pins σ (upd H s.heap.objs.size (.tup [.int (i : Nat), x])) { s with heap := h2, toks := tk + 1 } :=
      I.turnedNew (ch := [e, it]) (fun b ob hb q => (sb.2 b (fun z => hb (by simp [z]))).trans (hk b ob (fun z => hb (by simp [z])) (fun z => hb (by simp [z])) q)) hf (Nat.le_refl _) new
    refine ⟨.ref s.heap.objs.size, _, J, rfl, ⟨_, x, rfl, I.hok.fresh (Nat.le_refl _), rfl, fun ys hy => by rw [I.tuple_inj hy hq]; exact hx⟩, ⟨⟨y, ?_⟩, ?_, hne⟩, fun b hb => ?_⟩
    · have e1 : ((i + 1 : Nat) : Int) = (i : Int) + 1 := by omega
      rw [e1]; exact he2
    · exact hS'.1.at fun o q => (sb.2 it (Ne.symm hne)).trans q
    · have hb' : b < s.heap.objs.size := by
        have e' : b = e ∨ b = it := by simpa using hb
        rcases e' with z | z
        · rw [z]; exact hel
        · rw [z]; exact hil
      rw [upd_ne (Nat.ne_of_lt hb')]
      exact (hf b hb).1
  done := by
    intro X hP hw hK hc i pins s σ H E I hf st hg
    subst hP hw hK
    obtain ⟨⟨old, he⟩, hit, hne⟩ := st
    obtain ⟨xs, hq, hx⟩ := hg
    obtain ⟨its, rv, p, hz⟩ := I.tuple hq
    have pt : s.heap.IsTuple a its.toArray := p
    have hai : a ≠ it := fun z => by
      obtain ⟨o1, q1, c1, _⟩ := hit
      obtain ⟨o2, q2, c2, _⟩ := pt
      rw [z, q1] at q2
      cases q2
      rw [c1] at c2
      exact absurd c2 (by simp)
    obtain ⟨f0, f1, f2, f3, f4, f5⟩ := hf it (by simp)
    have hsz : its.toArray.size = i := by rw [List.size_toArray, hx]; exact rv.length.symm
    have D := Draws.tuple (prog := X.prog) (w := X.w) (A := X.A.in1) (I.ok.hd hc) it a hai its.toArray
    exact wpAny_pyNext_enum_endD D he ⟨hsz ▸ hit, pt⟩ fun h' eb => ⟨rfl, I.turned (t' := s.toks) (fun b o hb q => eb b o hb q) f0 f1 f3 f4 f5⟩
  self := fun A i s Q E st h => let ⟨⟨_, he⟩, _⟩ := st; wpAny_pyIter_enum he h
def iEnumT (K : PySem.W.Frag) (ta : TA) : TI := fun σ H R => ta σ H fun vs H1 => ∃ a xs, vs = [.ref a] ∧ SqT K H1 a xs ∧ R (Itet K a) H1
theorem pi_enumT {X : Cx} {e : Expr} {ta : TA} {p pos tpos : PySem.Pos} {elts : List Expr} {kk : Nat} (hg : Gl X "enumerate") (hm : X.mg "enumerate" = none) (ha : PA X [e] ta) (hs : starEach [e] X.env = [(false, eval e X.env)] := by rfl) :
    PI X (.Tuple elts kk tpos) (.Call (.Name "enumerate" p) [e] [] pos) (iEnumT X.K ta) := by
  refine ⟨fun pins s σ H R I h => Call_ (ld_blt I hg hm boot_enumerate (PyProof.Rows.callWith_type1 (thn (ha.run pos pins s σ H _ I h) fun us s1 ⟨vs, H1, J, r1, q1⟩ => ?_) hs rfl))⟩
  have far : ∀ b ∈ [s1.heap.objs.size + 1, s1.heap.objs.size], s1.heap.objs.size ≤ b := fun b hb => by
    rcases List.mem_cons.mp hb with rfl | hb
    · exact Nat.le_succ _
    · rw [List.mem_singleton.mp hb]; exact Nat.le_refl _
  obtain ⟨a, xs, rfl, hq, q⟩ := q1
  cases r1 with
  | cons r rr =>
    cases rr
    cases r
    obtain ⟨its, rv, pl, hz⟩ := J.tuple hq
    refine call_enumT (show s1.heap.IsTuple a its.toArray from pl) fun h' hE hit hsz hk => wpAny_pyIter_enum hE ?_
    have J2 : Inv X pins σ H1 { s1 with heap := h' } := J.kept (t' := s1.toks) hk
    exact ⟨_, _, _, _, H1, rfl, J2, turn_enumT a (s1.heap.objs.size + 1) s1.heap.objs.size, ⟨⟨.none, hE⟩, hit, Nat.succ_ne_self _⟩, fun b hb => J.fpOk (far b hb) (J.hok.fresh (far b hb)), q⟩
theorem piEnumT (K : PySem.W.Frag) {X : Cx} {e : Expr} {ta : TA} {p pos tpos : PySem.Pos} {elts : List Expr} {kk : Nat} (hg : Gl X "enumerate") (hm : X.mg "enumerate" = none) (ha : PA X [e] ta) (h : X.K = K := by rfl) (hs : starEach [e] X.env = [(false, eval e X.env)] := by rfl) :
    PI X (.Tuple elts kk tpos) (.Call (.Name "enumerate" p) [e] [] pos) (iEnumT K ta) := h ▸ pi_enumT hg hm ha hs
/-- for i, x in enumerate(tuple) -/
theorem f_enumT {K : PySem.W.Frag} {σ : L2.St} {H : Hp} {D : Ends} {ta : TA} {tb : TS} {a : Addr} {xs : List V} {i1 i2 : Nat} (ha : ∀ R : List V → Hp → Prop, R [.ref a] H → ta σ H R) (hx : SqT K H a xs) (Pv : Nat → L2.St → Hp → Prop) (h0 : Pv 0 σ H)
    (hl : ∀ i σ' H', i ≤ xs.length → Pv i σ' H' → H' a = H a)
    (hs : ∀ i x σ' H' T, xs[i]? = some x → Pv i σ' H' → H' T = none → tb { D with nx := Pv (i + 1), ct := Pv (i + 1), bk := D.nx } ((σ'.set i1 (some (.int (i : Int)))).set i2 (some x)) (upd H' T (.tup [.int (i : Int), x]))) (hd : ∀ σ' H', Pv xs.length σ' H' → D.nx σ' H') :
    tFor (iEnumT K ta) (gTup K 2 (gCons (gName i1) (gCons (gName i2) gNil))) tb D σ H := by
  refine ha _ ⟨a, xs, rfl, hx, ?_⟩
  have sq : ∀ H', H' a = H a → SqT K H' a xs := fun H' e => by
    rcases hx with (h | ⟨o, h⟩) | h
    · exact .inl (.inl (e.trans h))
    · exact .inl (.inr ⟨o, e.trans h⟩)
    · exact .inr h
  have w : Walk (Itet K a) xs.length (fun H' => H' a = H a) (fun i Ha v Hb => ∃ T x, v = .ref T ∧ Ha T = none ∧ Hb = upd Ha T (.tup [.int (i : Nat), x]) ∧ xs[i]? = some x) := by
    refine ⟨fun i H' hi e => ⟨xs, xs[i], sq H' e, by simp [hi]⟩, fun H' e => ⟨xs, sq H' e, rfl⟩, fun i H' x H2 hi e y => ?_⟩
    obtain ⟨T, x, h1, h2, h3, h4⟩ := y
    exact ⟨T, x, h1, h2, h3, h4 xs (sq H' e)⟩
  refine for_it w Pv h0 (fun i σ' H' hi p => hl i σ' H' hi p) (fun i x σ' H' H2 hi p y => ?_) hd
  obtain ⟨T, c, rfl, nT, rfl, hc⟩ := y
  exact ⟨T, _, rfl, SqT.of upd_same, rfl, _, _, rfl, _, _, rfl, rfl, hs i c σ' H' T hc p nT⟩
end Fg
namespace Fg
open PySem PySem.Spec PyProof.Rows L2
section
variable {K : PySem.W.Frag} {σ : L2.St} {H : Hp} {Q : VK} {te tl : TE} {tt : TT} {g : TG} {ta : TA} {j : Nat} {vs : List Nat} {a : Addr} {xs : List V}
end
end Fg
namespace Fg
open PySem PySem.Spec PyProof.Rows L2
abbrev SG : List Nat := [46, 103, 114, 119]
abbrev DG : List Nat := [48, 49, 50, 51, 52, 53, 54, 55, 56, 57]
def Row (l : List Nat) : Prop := ∀ c ∈ l, c ∈ SG
def rpt (n : Nat) (l : List Nat) : List Nat := (List.replicate n l).flatten
theorem rpt_len (n : Nat) (l : List Nat) : (rpt n l).length = n * l.length := by simp [rpt, List.length_flatten]
theorem rpt_succ (k : Nat) (t : List Nat) : rpt (k + 1) t = t ++ rpt k t := by unfold rpt; rw [List.replicate_succ, List.flatten_cons]
/-- the first lit one -/
def firstLit : List Nat → Nat
  | [] => 46
  | c :: r => if c = 46 then firstLit r else c
/-- a stretch as the reader has it -/
def Sv (n : Nat) (r : List Nat) : HO := .tup [.int (n : Int), if n ≤ 24 then S r else .non]
abbrev Stv := Nat × List Nat
def lcmL (ps : List Stv) : Nat := ps.foldl (fun b p => Nat.lcm b p.1) 1
theorem lcmL_snoc (ps : List Stv) (p : Stv) : lcmL (ps ++ [p]) = Nat.lcm (lcmL ps) p.1 := by
  unfold lcmL
  rw [List.foldl_append]
  rfl
def showN (ps : List Stv) (n : Nat) : List Nat := (List.range n).map fun i => firstLit (ps.map fun p => (rpt (n / p.1) p.2).getD i 0)
theorem showN_len (ps : List Stv) (n : Nat) : (showN ps n).length = n := by simp [showN]
theorem dvd_fold (ps : List Stv) : ∀ b, (b ∣ ps.foldl (fun b p => Nat.lcm b p.1) b) ∧ ∀ p ∈ ps, p.1 ∣ ps.foldl (fun b p => Nat.lcm b p.1) b := by
  induction ps with
  | nil => exact fun b => ⟨Nat.dvd_refl _, by simp⟩
  | cons q r ih =>
    intro b
    obtain ⟨h1, h2⟩ := ih (Nat.lcm b q.1)
    refine ⟨Nat.dvd_trans (Nat.dvd_lcm_left _ _) h1, fun p hp => ?_⟩
    rcases List.mem_cons.mp hp with rfl | hp
    · exact Nat.dvd_trans (Nat.dvd_lcm_right _ _) h1
    · exact h2 p hp
theorem dvd_lcmL {ps : List Stv} {p : Stv} (h : p ∈ ps) : p.1 ∣ lcmL ps := (dvd_fold ps 1).2 p h
theorem fold_pos (ps : List Stv) (h : ∀ p ∈ ps, 1 ≤ p.1) : ∀ b, 1 ≤ b → 1 ≤ ps.foldl (fun b p => Nat.lcm b p.1) b := by
  induction ps with
  | nil => exact fun b hb => hb
  | cons q r ih => exact fun b hb => ih (fun p hp => h p (List.mem_cons_of_mem _ hp)) _ (Nat.lcm_pos hb (h q List.mem_cons_self))
theorem lcmL_pos {ps : List Stv} (h : ∀ p ∈ ps, 1 ≤ p.1) : 1 ≤ lcmL ps := fold_pos ps h 1 (Nat.le_refl _)
def run (z : List Nat) (a : Nat) : List Nat := (z.drop a).takeWhile fun c => decide (c ∈ DG)
def bd (z : List Nat) (a : Nat) : Nat := a + (run z a).length
theorem run_step {z : List Nat} {m c : Nat} (h : z[m]? = some c) (hc : c ∈ DG) : run z m = c :: run z (m + 1) := by
  obtain ⟨hl, rfl⟩ := List.getElem?_eq_some_iff.mp h
  unfold run
  rw [List.drop_eq_getElem_cons hl, List.takeWhile_cons_of_pos (by simpa using hc)]
theorem run_stop {z : List Nat} {m : Nat} (h : ∀ c, z[m]? = some c → c ∉ DG) : run z m = [] := by
  unfold run
  by_cases hl : m < z.length
  · rw [List.drop_eq_getElem_cons hl, List.takeWhile_cons_of_neg (by simpa using h _ (List.getElem?_eq_getElem hl))]
  · rw [List.drop_of_length_le (by omega)]
    rfl
theorem bd_step {z : List Nat} {m c : Nat} (h : z[m]? = some c) (hc : c ∈ DG) : bd z (m + 1) = bd z m := by
  unfold bd
  rw [run_step h hc, List.length_cons]
  omega
theorem bd_stop {z : List Nat} {m : Nat} (h : ∀ c, z[m]? = some c → c ∉ DG) : bd z m = m := by
  unfold bd
  rw [run_stop h]
  rfl
theorem bd_le {z : List Nat} {a : Nat} (h : a ≤ z.length) : bd z a ≤ z.length := by
  unfold bd run
  have := (List.takeWhile_prefix (fun c => decide (c ∈ DG)) (l := z.drop a)).length_le
  rw [List.length_drop] at this
  omega
theorem bd_ge (z : List Nat) (a : Nat) : a ≤ bd z a := Nat.le_add_right _ _
theorem bd_eq {z : List Nat} {a : Nat} : bd z a = a ↔ run z a = [] := by
  unfold bd
  constructor
  · intro h
    exact List.length_eq_zero_iff.mp (by omega)
  · intro h
    rw [h]; rfl
theorem run_digits (z : List Nat) (a : Nat) : ∀ c ∈ run z a, c ∈ DG := fun c hc => by
  unfold run at hc
  generalize z.drop a = l at hc
  induction l with
  | nil => simp at hc
  | cons x r ih =>
    by_cases h : x ∈ DG
    · rw [List.takeWhile_cons_of_pos (by simpa using h)] at hc
      rcases List.mem_cons.mp hc with rfl | hc
      · exact h
      · exact ih hc
    · rw [List.takeWhile_cons_of_neg (by simpa using h)] at hc
      simp at hc
theorem cutN_run {z : List Nat} {a : Nat} (h : a ≤ z.length) : cutN z (some (a : Int)) (some (bd z a : Nat)) = run z a := by
  unfold cutN
  rw [HT.sIx_nat, HT.sIx_nat, Nat.min_eq_left h, Nat.min_eq_left (bd_le h)]
  have e : bd z a - a = (run z a).length := by unfold bd; omega
  rw [e]
  unfold run
  exact (List.prefix_iff_eq_take.mp (List.takeWhile_prefix _)).symm
def num (l : List Nat) : Nat := l.foldl (fun n c => 10 * n + (c - 48)) 0
def within (l : List Nat) (lo hi : Nat) : Bool := decide (1 ≤ l.length) && decide (l.length ≤ 2) && decide (lo ≤ num l) && decide (num l ≤ hi)
theorem within_iff {l : List Nat} {lo hi : Nat} : within l lo hi = true ↔ (1 ≤ l.length ∧ l.length ≤ 2 ∧ lo ≤ num l ∧ num l ≤ hi) := by
  unfold within
  simp only [Bool.and_eq_true, decide_eq_true_eq, and_assoc]
abbrev Res := Except Nat (Stv × Nat)
def rep (s : Stv) (t : Nat) : Stv := (s.1 * t, rpt t s.2)
def beh (s u : Stv) : Stv := (s.1 + u.1, s.2 ++ u.2)
def shown (ps : List Stv) : Stv := (lcmL ps, showN ps (lcmL ps))
def fillTo (p : Stv) (b : Nat) : Stv := (b, p.2 ++ List.replicate (b - p.1) 46)
def isStart (c : Nat) : Bool := decide (c ∈ SG) || decide (c ∈ DG)
def timesOf (r : List Nat) : Nat := if r = [] then 1 else num r
def close (z : List Nat) (t : Nat) : Res → Res
  | .error k => .error k
  | .ok (s, e) => if z[e]? = some 41 then .ok (rep s t, e + 1) else .error e
def item (rp : Option (Nat → Res)) (z : List Nat) (a : Nat) : Res :=
  if (run z a).take 1 = [48] then .error a
  else match z[bd z a]? with
    | none => .error (bd z a)
    | some c =>
      if c ∉ SG ∧ c ≠ 40 then .error (bd z a)
      else if run z a ≠ [] ∧ within (run z a) 2 24 = false then .error a
      else if c ≠ 40 then .ok (rep (1, [c]) (timesOf (run z a)), bd z a + 1)
      else match rp with
        | none => .error (bd z a)
        | some f => close z (timesOf (run z a)) (f (bd z a + 1))
def goOn (k : Stv → Nat → Res) : Res → Res
  | .error k => .error k
  | .ok (s, e) => k s e
def items (ri : Nat → Res) (z : List Nat) : Nat → Nat → Stv → Res
  | 0, a, p => .ok (p, a)
  | f + 1, a, p => match z[a]? with
    | none => .ok (p, a)
    | some c => if isStart c = true then goOn (fun s e => items ri z f e (beh p s)) (ri a) else .ok (p, a)
def filled (z : List Nat) (a : Nat) (p : Stv) : Res :=
  if run z a = [] then .error a
  else if (run z a).take 1 = [48] ∨ within (run z a) (max 1 p.1) 24 = false then .error a
  else .ok (fillTo p (num (run z a)), bd z a)
def partEnd (z : List Nat) (p : Stv) (e : Nat) : Res := if p.1 = 0 then .error e else if z[e]? = some 64 then filled z (e + 1) p else .ok (p, e)
def part (ri : Nat → Res) (z : List Nat) (a : Nat) : Res := goOn (partEnd z) (items ri z (z.length + 1 - a) a (0, []))
def more (rq : Nat → Res) (z : List Nat) : Nat → Nat → List Stv → Res
  | 0, a, ps => .ok (shown ps, a)
  | f + 1, a, ps => if z[a]? = some 38 then goOn (fun s e => more rq z f e (ps ++ [s])) (rq (a + 1)) else .ok (shown ps, a)
def parts (ri : Nat → Res) (z : List Nat) (a : Nat) : Res := goOn (fun s e => more (part ri z) z (z.length + 1 - e) e [s]) (part ri z a)
mutual
/-- an item, so many more may be opened -/
def rdItem (z : List Nat) : Nat → Nat → Res
  | 0 => item none z
  | d + 1 => item (some (rd z d)) z
def rd (z : List Nat) : Nat → Nat → Res
  | d => parts (rdItem z d) z
end
def Gb (s : Stv) (w : Nat) : Prop := s.1 + 1 ≤ 2 ^ (5 * w) ∧ (s.1 ≤ 24 → s.2.length = s.1)
def Gd (z : List Nat) (f : Nat → Res) : Prop := ∀ a s e, a ≤ z.length → f a = .ok (s, e) → a < e ∧ e ≤ z.length ∧ 1 ≤ s.1 ∧ Gb s (e - a)
theorem pow_mono5 {x y : Nat} (h : x ≤ y) : 2 ^ (5 * x) ≤ 2 ^ (5 * y) := Nat.pow_le_pow_right (by decide) (by omega)
theorem pow32 {w : Nat} (h : 1 ≤ w) : 32 ≤ 2 ^ (5 * w) := Nat.le_trans (by decide : 32 ≤ 2 ^ (5 * 1)) (pow_mono5 h)
theorem Gb.small {s : Stv} {w : Nat} (h : s.1 ≤ 24) (hw : 1 ≤ w) (hl : s.2.length = s.1) : Gb s w := ⟨by have := pow32 hw; omega, fun _ => hl⟩
theorem Gb.beh {p s : Stv} {x y : Nat} (hp : Gb p x) (hs : Gb s y) : Gb (beh p s) (x + y) := by
  refine ⟨?_, fun h => ?_⟩
  · show p.1 + s.1 + 1 ≤ _
    rw [Nat.mul_add, Nat.pow_add]
    refine Nat.le_trans ?_ (Nat.mul_le_mul hp.1 hs.1)
    rw [Nat.add_mul, Nat.mul_add]
    omega
  · have h : p.1 + s.1 ≤ 24 := h
    show (p.2 ++ s.2).length = p.1 + s.1
    rw [List.length_append, hp.2 (by omega), hs.2 (by omega)]
theorem Gb.rep {s : Stv} {x y t : Nat} (hs : Gb s x) (h1 : 1 ≤ s.1) (t1 : 1 ≤ t) (t2 : t ≤ 24) (hy : x + 1 ≤ y) : Gb (rep s t) y := by
  refine ⟨?_, fun h => ?_⟩
  · show s.1 * t + 1 ≤ _
    refine Nat.le_trans ?_ (pow_mono5 hy)
    rw [Nat.mul_add, Nat.pow_add]
    have := Nat.mul_le_mul hs.1 (show 24 ≤ 2 ^ (5 * 1) by decide)
    have h2 : s.1 * t ≤ s.1 * 24 := Nat.mul_le_mul_left _ t2
    omega
  · have h : s.1 * t ≤ 24 := h
    have : s.1 ≤ s.1 * t := Nat.le_mul_of_pos_right _ t1
    show (rpt t s.2).length = s.1 * t
    rw [rpt_len, hs.2 (by omega), Nat.mul_comm]
theorem times_ok {r : List Nat} (h : ¬ (r ≠ [] ∧ within r 2 24 = false)) : 1 ≤ timesOf r ∧ timesOf r ≤ 24 ∧ (r ≠ [] → 1 ≤ r.length) := by
  unfold timesOf
  by_cases e : r = []
  · rw [if_pos e]; exact ⟨by decide, by decide, fun z => absurd e z⟩
  · rw [if_neg e]
    have : within r 2 24 = true := by
      cases hw : within r 2 24 with
      | true => rfl
      | false => exact absurd ⟨e, hw⟩ h
    have := within_iff.mp this
    exact ⟨by omega, this.2.2.2, fun _ => this.1⟩
theorem item_gd {z : List Nat} {rp : Option (Nat → Res)} (hp : ∀ f, rp = some f → Gd z f) : Gd z (item rp z) := by
  intro a s e ha h
  unfold item at h
  split at h
  · cases h
  · split at h
    · cases h
    · rename_i c hc
      have hl := (List.getElem?_eq_some_iff.mp hc).1
      have hb := bd_ge z a
      split at h
      · cases h
      · split at h
        · cases h
        · rename_i ht
          obtain ⟨t1, t2, t3⟩ := times_ok ht
          split at h
          · cases h
            refine ⟨by omega, by omega, ?_, ?_⟩
            · show 1 ≤ 1 * _; omega
            · refine Gb.small (by show 1 * _ ≤ 24; omega) (by omega) ?_
              show (rpt _ [c]).length = 1 * _
              rw [rpt_len, List.length_singleton]; omega
          · split at h
            · cases h
            · rename_i f
              have g := hp f rfl
              unfold close at h
              split at h
              · cases h
              · rename_i s' e' hf
                obtain ⟨g1, g2, g3, g4⟩ := g _ _ _ (by omega) hf
                split at h
                · rename_i h41
                  have := (List.getElem?_eq_some_iff.mp h41).1
                  cases h
                  refine ⟨by omega, by omega, Nat.mul_pos g3 t1, g4.rep g3 t1 t2 (by omega)⟩
                · cases h
theorem items_gd {z : List Nat} {ri : Nat → Res} (hi : Gd z ri) {a0 : Nat} : ∀ (f a : Nat) (p s : Stv) (e : Nat), a0 ≤ a → a ≤ z.length → Gb p (a - a0) → items ri z f a p = .ok (s, e) → a ≤ e ∧ e ≤ z.length ∧ Gb s (e - a0) ∧ (s.1 = 0 ∨ a < e ∨ s = p)
  | 0, a, p, s, e, h0, ha, hp, h => by
    unfold items at h
    cases h
    exact ⟨by omega, ha, hp, .inr (.inr rfl)⟩
  | f + 1, a, p, s, e, h0, ha, hp, h => by
    unfold items at h
    split at h
    · cases h
      exact ⟨by omega, ha, hp, .inr (.inr rfl)⟩
    · split at h
      · unfold goOn at h
        split at h
        · cases h
        · rename_i s' e' hf
          obtain ⟨g1, g2, g3, g4⟩ := hi _ _ _ ha hf
          have := items_gd hi (a0 := a0) f e' (beh p s') s e (by omega) g2 (by
            have := hp.beh g4
            rw [show a - a0 + (e' - a) = e' - a0 by omega] at this
            exact this) h
          exact ⟨by omega, this.2.1, this.2.2.1, .inr (.inl (by omega))⟩
      · cases h
        exact ⟨by omega, ha, hp, .inr (.inr rfl)⟩
theorem filled_gd {z : List Nat} {a e : Nat} {p s : Stv} (ha : a ≤ z.length) (hp : p.1 ≤ 24 → p.2.length = p.1) (h : filled z a p = .ok (s, e)) : a < e ∧ e ≤ z.length ∧ 1 ≤ s.1 ∧ s.1 ≤ 24 ∧ s.2.length = s.1 := by
  unfold filled at h
  split at h
  · cases h
  · rename_i hr
    split at h
    · cases h
    · rename_i hw
      have : within (run z a) (max 1 p.1) 24 = true := by
        cases hc : within (run z a) (max 1 p.1) 24 with
        | true => rfl
        | false => exact absurd (.inr hc) hw
      obtain ⟨w1, w2, w3, w4⟩ := within_iff.mp this
      cases h
      refine ⟨by unfold bd; omega, bd_le ha, by show 1 ≤ num _; omega, w4, ?_⟩
      show (p.2 ++ List.replicate _ 46).length = num _
      rw [List.length_append, List.length_replicate, hp (by omega)]
      omega
theorem part_gd {z : List Nat} {ri : Nat → Res} (hi : Gd z ri) : Gd z (part ri z) := by
  intro a s e ha h
  unfold part goOn at h
  split at h
  · cases h
  · rename_i p e' hf
    obtain ⟨g1, g2, g3, g4⟩ := items_gd hi (a0 := a) _ a (0, []) p e' (Nat.le_refl _) ha ⟨by rw [Nat.sub_self]; decide, fun _ => rfl⟩ hf
    unfold partEnd at h
    split at h
    · cases h
    · rename_i hp0
      have hlt : a < e' := by
        rcases g4 with g | g | g
        · exact absurd g hp0
        · exact g
        · rw [g] at hp0; exact absurd rfl hp0
      split at h
      · rename_i h64
        have := (List.getElem?_eq_some_iff.mp h64).1
        obtain ⟨f1, f2, f3, f4, f5⟩ := filled_gd (by omega) g3.2 h
        exact ⟨by omega, f2, f3, Gb.small f4 (by omega) f5⟩
      · cases h
        exact ⟨hlt, g2, by omega, g3⟩
def Gps (ps : List Stv) (w : Nat) : Prop := lcmL ps + 1 ≤ 2 ^ (5 * w) ∧ ∀ p ∈ ps, 1 ≤ p.1 ∧ (p.1 ≤ 24 → p.2.length = p.1)
theorem lcm_le_mul {a b : Nat} (ha : 1 ≤ a) (hb : 1 ≤ b) : Nat.lcm a b ≤ a * b := Nat.le_of_dvd (Nat.mul_pos ha hb) (Nat.lcm_dvd_mul a b)
theorem Gps.snoc {ps : List Stv} {s : Stv} {x y : Nat} (h : Gps ps x) (h1 : 1 ≤ s.1) (hs : Gb s y) : Gps (ps ++ [s]) (x + y) := by
  refine ⟨?_, fun p hp => ?_⟩
  · rw [lcmL_snoc, Nat.mul_add, Nat.pow_add]
    refine Nat.le_trans ?_ (Nat.mul_le_mul h.1 hs.1)
    have := lcm_le_mul (lcmL_pos fun p hp => (h.2 p hp).1) h1
    rw [Nat.add_mul, Nat.mul_add]
    omega
  · rcases List.mem_append.mp hp with hp | hp
    · exact h.2 p hp
    · rw [List.mem_singleton.mp hp]; exact ⟨h1, hs.2⟩
theorem Gps.shown {ps : List Stv} {w : Nat} (h : Gps ps w) : 1 ≤ (shown ps).1 ∧ Gb (shown ps) w :=
  ⟨lcmL_pos fun p hp => (h.2 p hp).1, h.1, fun _ => showN_len _ _⟩
theorem Gps.one {s : Stv} {w : Nat} (h1 : 1 ≤ s.1) (h : Gb s w) : Gps [s] w := by
  refine ⟨?_, fun p hp => ?_⟩
  · show Nat.lcm 1 s.1 + 1 ≤ _
    rw [show Nat.lcm 1 s.1 = s.1 by simp [Nat.lcm]]; exact h.1
  · rw [List.mem_singleton.mp hp]; exact ⟨h1, h.2⟩
theorem Gps.mono {ps : List Stv} {x y : Nat} (h : Gps ps x) (e : x ≤ y) : Gps ps y := ⟨Nat.le_trans h.1 (pow_mono5 e), h.2⟩
theorem more_gd {z : List Nat} {rq : Nat → Res} (hi : Gd z rq) {a0 : Nat} : ∀ (f a : Nat) (ps : List Stv) (s : Stv) (e : Nat), a0 ≤ a → a ≤ z.length → Gps ps (a - a0) → more rq z f a ps = .ok (s, e) → a ≤ e ∧ e ≤ z.length ∧ 1 ≤ s.1 ∧ Gb s (e - a0)
  | 0, a, ps, s, e, h0, ha, hp, h => by
    unfold more at h
    cases h
    exact ⟨by omega, ha, hp.shown⟩
  | f + 1, a, ps, s, e, h0, ha, hp, h => by
    unfold more at h
    split at h
    · rename_i h38
      have hl := (List.getElem?_eq_some_iff.mp h38).1
      unfold goOn at h
      split at h
      · cases h
      · rename_i s' e' hf
        obtain ⟨g1, g2, g3, g4⟩ := hi _ _ _ (by omega) hf
        have := more_gd hi (a0 := a0) f e' (ps ++ [s']) s e (by omega) g2 ((hp.snoc g3 g4).mono (by omega)) h
        exact ⟨by omega, this.2⟩
    · cases h
      exact ⟨by omega, ha, hp.shown⟩
theorem parts_gd {z : List Nat} {ri : Nat → Res} (hi : Gd z ri) : Gd z (parts ri z) := by
  intro a s e ha h
  unfold parts goOn at h
  split at h
  · cases h
  · rename_i s' e' hf
    obtain ⟨g1, g2, g3, g4⟩ := part_gd hi _ _ _ ha hf
    have := more_gd (part_gd hi) (a0 := a) _ e' [s'] s e (by omega) g2 (Gps.one g3 g4) h
    exact ⟨by omega, this.2⟩
theorem rdItem_zero (z : List Nat) : rdItem z 0 = item none z := by unfold rdItem; rfl
theorem rdItem_succ (z : List Nat) (d : Nat) : rdItem z (d + 1) = item (some (rd z d)) z := by conv => lhs; unfold rdItem
theorem rd_eq (z : List Nat) (d : Nat) : rd z d = parts (rdItem z d) z := by unfold rd; rfl
theorem rdItem_gd (z : List Nat) : ∀ d, Gd z (rdItem z d)
  | 0 => by rw [rdItem_zero]; exact item_gd fun f e => nomatch e
  | d + 1 => by
    rw [rdItem_succ]
    refine item_gd fun f e => ?_
    cases e
    rw [rd_eq]
    exact parts_gd (rdItem_gd z d)
theorem rd_gd (z : List Nat) (d : Nat) : Gd z (rd z d) := by rw [rd_eq]; exact parts_gd (rdItem_gd z d)
end Fg
namespace Fg
open PySem PySem.Spec PyProof.Rows L2
theorem range_getD_map {α β : Type} (xs : List α) (d : α) (g : α → β) : (List.range xs.length).map (fun i => g (xs.getD i d)) = xs.map g := by
  refine List.ext_getElem? fun i => ?_
  rw [List.getElem?_map, List.getElem?_map]
  by_cases h : i < xs.length
  · rw [List.getElem?_range h, Option.map_some, List.getD_eq_getElem?_getD, List.getElem?_eq_getElem h]
    rfl
  · rw [List.getElem?_eq_none (by simpa using h), List.getElem?_eq_none (by omega)]
    rfl
def PartsAt (H : Hp) (qs : List Addr) (ps : List Stv) : Prop := qs.length = ps.length ∧ ∀ (i : Nat) (q : Addr) (p : Stv), qs[i]? = some q → ps[i]? = some p → H q = some (Sv p.1 p.2)
theorem PartsAt.mono {H H' : Hp} {qs : List Addr} {ps : List Stv} (h : PartsAt H qs ps) (s : Same H H') : PartsAt H' qs ps := ⟨h.1, fun i q p a b => s _ _ (h.2 i q p a b)⟩
/-- below some thousand bits -/
def Big (n : Nat) : Prop := n < 2 ^ 8600
theorem Big.le {n m : Nat} (h : Big n) (e : m ≤ n) : Big m := Nat.lt_of_le_of_lt e h
theorem Big.div {n : Nat} {a : Int} (h : Big n) (h0 : (0 : Int) < (n : Int)) : CDivW a (n : Int) := wide_div (b := 8600) h0 (by rw [Int.natAbs_natCast]; exact h) (by decide) (by decide)
theorem Big.mul {n m : Nat} (h : Big n) (h' : Big m) : IntMulOk (n : Int) (m : Int) := CMulW.ok (wide_mul (a := 8600) (b := 8600) (by rw [Int.natAbs_natCast]; exact h) (by rw [Int.natAbs_natCast]; exact h') (by decide) (by decide) (by decide))
theorem Gb.big {s : Stv} {w : Nat} (h : Gb s w) (hw : w ≤ 1700) : Big s.1 := Nat.lt_of_lt_of_le (Nat.lt_of_lt_of_le (Nat.lt_succ_self _) h.1) (Nat.pow_le_pow_right (by decide) (by omega))
theorem Gps.big {ps : List Stv} {w : Nat} (h : Gps ps w) (hw : w ≤ 1700) : Big (lcmL ps) := Nat.lt_of_lt_of_le (Nat.lt_of_lt_of_le (Nat.lt_succ_self _) h.1) (Nat.pow_le_pow_right (by decide) (by omega))
theorem lcmL_take {ps : List Stv} (h : ∀ p ∈ ps, 1 ≤ p.1) (i : Nat) : lcmL (ps.take i) ≤ lcmL ps := by
  refine Nat.le_of_dvd (lcmL_pos h) ?_
  conv => rhs; rw [← List.take_append_drop i ps]
  unfold lcmL
  rw [List.foldl_append]
  exact (dvd_fold _ _).1
/-- int(text) -/
def rIntTx : RC := fun xs H Q => ∃ a n, xs = [.str a] ∧ PySem.intText? a = some n ∧ a.length ≤ 640 ∧ Q (.int n) H
theorem call_intTx {X : Cx} : CallR X (.type "int") rIntTx := call_int_str
theorem int1 : ∀ c ∈ DG, PySem.intText? ⟨#[c]⟩ = some ((num [c] : Nat) : Int) := by decide +kernel
theorem int2 : ∀ c ∈ DG, ∀ d ∈ DG, PySem.intText? ⟨#[c, d]⟩ = some ((num [c, d] : Nat) : Int) := by decide +kernel
theorem i_intTx {r : List Nat} {H : Hp} {Q : VK} (h1 : 1 ≤ r.length) (h2 : r.length ≤ 2) (hd : ∀ c ∈ r, c ∈ DG) (q : Q (.int ((num r : Nat) : Int)) H) : rIntTx [S r] H Q := by
  match r, h1, h2, hd, q with
  | [c], _, _, hd, q => exact ⟨_, _, rfl, int1 c (hd c (by simp)), (show 1 ≤ 640 by omega), q⟩
  | [c, d], _, _, hd, q => exact ⟨_, _, rfl, int2 c (hd c (by simp)) d (hd d (by simp)), (show 2 ≤ 640 by omega), q⟩
/-- str(int), of small ones -/
def dec (n : Nat) : List Nat := if n < 10 then [48 + n] else [48 + n / 10, 48 + n % 10]
theorem dec_str : ∀ n : Nat, n < 100 → (toString (n : Int) : Str) = ⟨(dec n).toArray⟩ := by decide +kernel
def rStrS : RC := fun xs H Q => ∃ n : Nat, xs = [.int (n : Int)] ∧ n < 100 ∧ Q (S (dec n)) H
theorem call_strS {X : Cx} : CallR X (.type "str") rStrS := by
  intro pins s σ H xs us Q I rs h
  obtain ⟨n, rfl, hn, q⟩ := h
  refine call_str_int pins s σ H _ us Q I rs ⟨(n : Int), rfl, ?_, ?_⟩
  · have : (n : Int).natAbs = n := Int.natAbs_natCast n
    rw [this]
    by_cases h0 : n = 0
    · subst h0; decide
    · exact Nat.lt_trans ((Nat.log2_lt h0).mpr (Nat.lt_trans hn (by decide : 100 < 2 ^ 7))) (by decide)
  · have e : V.str (toString (n : Int)) = S (dec n) := by unfold S; rw [dec_str n hn]
    rw [e]; exact q
def rpOf (z : List Nat) : Nat → Option (Nat → Res)
  | 0 => none
  | d + 1 => some (rd z d)
theorem rdItem_item (z : List Nat) (d : Nat) : rdItem z d = item (rpOf z d) z := by
  cases d with
  | zero => exact rdItem_zero z
  | succ d => exact rdItem_succ z d
/-- what is no string -/
def NoStr (H : Hp) (x : V) : Prop := x = .non ∨ (∃ b, x = .bl b) ∨ (∃ i, x = .int i) ∨ ∃ a xs, x = .ref a ∧ (H a = some (.tup xs) ∨ H a = some (.lst xs))
theorem NoStr.mono {H H' : Hp} {x : V} (h : NoStr H x) (s : Same H H') : NoStr H' x := by
  rcases h with h | h | h | ⟨a, xs, h, h2⟩
  · exact .inl h
  · exact .inr (.inl h)
  · exact .inr (.inr (.inl h))
  · exact .inr (.inr (.inr ⟨a, xs, h, h2.imp (s _ _) (s _ _)⟩))
end Fg
namespace Fg
open PySem PySem.Spec PyProof.Rows L2
theorem join_sep (sep : List Nat) (ls : List (List Nat)) : Txt.join ⟨sep.toArray⟩ (ls.map fun l => (⟨l.toArray⟩ : Str)) = ⟨(TL.joinL sep ls).toArray⟩ := by
  refine TL.ext_tl ?_
  rw [TL.join_eq, TL.tl_join, List.map_map]
  show TL.joinL sep.toArray.toList (ls.map fun l => l.toArray.toList) = (TL.joinL sep ls).toArray.toList
  simp
theorem i_joinG {K : PySem.W.Frag} {H : Hp} {Q : VK} {p : Addr} {sep : List Nat} {ls : List (List Nat)} (hs : SqL K H p (ls.map S)) (hz : (ls.map List.length).sum + ls.length * sep.length ≤ 100000) (q : Q (S (TL.joinL sep ls)) H) : rJoinP K (S sep) [.ref p] H Q := by
  refine ⟨⟨sep.toArray⟩, p, ls.map fun l => (⟨l.toArray⟩ : Str), rfl, rfl, .inl ?_, ?_, ?_⟩
  · rw [List.map_map]; exact hs
  · rw [List.map_map]
    have e : (ls.map ((·.length) ∘ fun l => (⟨l.toArray⟩ : Str))) = ls.map List.length := List.map_congr_left fun l _ => str_len l
    rw [e, List.length_map]
    have e2 : (⟨sep.toArray⟩ : Str).length = sep.length := str_len sep
    show (ls.map List.length).sum + ls.length * (⟨sep.toArray⟩ : Str).length ≤ _
    rw [e2]
    exact Nat.le_trans hz (by decide)
  · rw [join_sep]; exact q
theorem upd_comm {H : Hp} {a b : Addr} {o o' : HO} (h : a ≠ b) : upd (upd H a o) b o' = upd (upd H b o') a o := by
  funext c
  by_cases h1 : c = b
  · rw [h1, upd_same, upd_ne (Ne.symm h), upd_same]
  · rw [upd_ne h1]
    by_cases h2 : c = a
    · rw [h2, upd_same, upd_same]
    · rw [upd_ne h2, upd_ne h2, upd_ne h1]
theorem dec_len (n : Nat) : (dec n).length ≤ 2 := by
  unfold dec
  split <;> simp
end Fg
namespace Fg
open PySem PySem.Spec PyProof.Rows HotX
section
variable {prog : Program} {w : World} {A : Around} {Er : Value → Shared → Prop}
/-- the heap behind «from v» -/
def causeFrom (h : Heap) (a : Addr) (v : Value) : Heap := (h.update a (Obj.mapFields (·.setIfInBounds 3 v))).update a (Obj.mapFields (·.setIfInBounds 4 (.bool true)))
/-- one field of an exception written -/
theorem field_put {h : Heap} {a : Addr} {ob : Obj} {fs : Array Value} (g : h.get? a = some ob) (d : ob.data = .fields fs) (i : Nat) (v : Value) :
    (h.update a (Obj.mapFields (·.setIfInBounds i v))).get? a = some (ob.mapFields (·.setIfInBounds i v)) ∧ (ob.mapFields (·.setIfInBounds i v)).data = .fields (fs.setIfInBounds i v) :=
  have now := Obj.data_mapFields d (·.setIfInBounds i v)
  ⟨Heap.get?_update_self _ g (Obj.isFreed_of_fields now), now⟩
theorem causeFrom_at {h : Heap} {a : Addr} {ob : Obj} {fs : Array Value} {v : Value} (g : h.get? a = some ob) (d : ob.data = .fields fs) :
    (causeFrom h a v).get? a = some ((ob.mapFields (·.setIfInBounds 3 v)).mapFields (·.setIfInBounds 4 (.bool true))) ∧ ((ob.mapFields (·.setIfInBounds 3 v)).mapFields (·.setIfInBounds 4 (.bool true))).data = .fields ((fs.setIfInBounds 3 v).setIfInBounds 4 (.bool true)) :=
  have one := field_put g d 3 v
  field_put one.1 one.2 4 (.bool true)
theorem causeFrom_other {h : Heap} {a b : Addr} {v : Value} (far : a ≠ b) : (causeFrom h a v).get? b = h.get? b :=
  (Heap.get?_update_other _ _ far).trans (Heap.get?_update_other _ _ far)
/-- an exception is no class -/
theorem not_class {st : Shared} {a : Addr} {ob : Obj} {fs : Array Value} {R : Bool → Shared → Prop} (g : st.heap.get? a = some ob) (d : ob.data = .fields fs) (r : R false st) : wpAny (model prog w) A (isType (.ref a)) R Er st := by
  simp only [isType, loadHead]
  exact wpAny_bind (wpAny_loadPart g (by rw [d]; exact wpAny_pure r))
/-- .. its class told -/
theorem class_told {h : Heap} {a : Addr} {ob : Obj} {c : Value} (g : h.get? a = some ob) (k : ob.cls = c) : PySem.W.Looks (model prog w) h (typeOf (.ref a)) c :=
  fun _ _ _ _ kp r => wpAny_typeOf_ref (kp _ _ g) (by rw [k]; exact r)
theorem is_exc {h : Heap} {a : Addr} {ob : Obj} {c : Value} (g : h.get? a = some ob) (k : ob.cls = c) (sub : PySem.W.Looks (model prog w) h (isSubtype c (.type "BaseException")) true) :
    PySem.W.Looks (model prog w) h (isInstance (.ref a) (.type "BaseException")) true := (class_told g k).andThen sub
/-- an exception that is named is taken as it is -/
theorem exc_as_is {msg : String} {st : Shared} {a : Addr} {ob : Obj} {fs : Array Value} {c : Value} {R : Value → Shared → Prop} (g : st.heap.get? a = some ob) (d : ob.data = .fields fs) (k : ob.cls = c)
    (sub : PySem.W.Looks (model prog w) st.heap (isSubtype c (.type "BaseException")) true) (r : R (.ref a) st) : wpAny (model prog w) A (excFromValue (.ref a) msg) R Er st := by
  unfold excFromValue
  unfold isExcClass
  refine wpAny_bind (wpAny_bind (not_class g d (wpAny_pure ?_)))
  rw [if_neg (nofun : ¬ false = true)]
  refine wpAny_bind ((is_exc g k sub).here ?_)
  rw [if_pos rfl]
  exact wpAny_pure r
/-- the two fields of the cause are written, the exception is let go -/
theorem raise_cause {env : Env} {st : Shared} {ex ca : Sem Value} {R : Flow → Shared → Prop} {b : Addr}
    (h : wpAny (model prog w) A ex (fun v s1 => ∃ a ob fs c cb o1 f1, v = .ref a ∧ (s1.heap.get? a = some ob ∧ ob.cls = c ∧ ob.data = .fields fs ∧ fs[1]? = some .none ∧ 4 < fs.size) ∧ b ≠ a ∧ HotAt A b s1.heap ∧ (s1.heap.get? b = some o1 ∧ o1.cls = cb ∧ o1.data = .fields f1) ∧
      (∀ R' : Value → Shared → Prop, R' (.ref b) s1 → wpAny (model prog w) A ca R' Er s1) ∧
      PySem.W.Looks (model prog w) s1.heap (isSubtype c (.type "BaseException")) true ∧ PySem.W.Looks (model prog w) s1.heap (isSubtype cb (.type "BaseException")) true ∧ PySem.W.Looks (model prog w) (causeFrom s1.heap a (.ref b)) (typeOf c) (.type "type") ∧
      Er (.ref a) { s1 with heap := (causeFrom s1.heap a (.ref b)).update a (Obj.mapFields (·.setIfInBounds 2 (.ref b))) }) Er st) :
    wpAny (model prog w) A (raiseStmt env (some ex) (some ca)) R Er st := by
  unfold raiseStmt
  refine wpAny_bind (wpAny_mono h ?_ fun _ _ z => z)
  rintro v s1 ⟨a, ob, fs, c, cb, o1, f1, rfl, ⟨g, k, d, noTb, big⟩, far, hot, ⟨gb, kb, db⟩, told, sub, subB, meta_, wish⟩
  have put3 := field_put g d 3 (.ref b)
  have put4 := field_put put3.1 put3.2 4 (.bool true)
  refine wpAny_bind (wpAny_holding (told _ (wpAny_bind (wpAny_pure ?_))))
  refine wpAny_bind (wpAny_holding (exc_as_is g d k sub ?_))
  have some_ : ¬ ((Value.ref b == Value.none) = true) := by simp
  first
    | rw [if_neg some_]
    | (show wpAny _ _ (if (Value.ref b == Value.none) = true then _ else _) _ _ _; rw [if_neg some_])
  refine wpAny_bind (wpAny_holding (exc_as_is gb db kb subB ?_))
  refine wpAny_bind (wpAny_setField g d (by omega) (wpAny_bind (wpAny_setField put3.1 put3.2 (by rw [set_size]; exact big) ?_)))
  have now : (causeFrom s1.heap a (.ref b)).get? a = some ((ob.mapFields (·.setIfInBounds 3 (.ref b))).mapFields (·.setIfInBounds 4 (.bool true))) := put4.1
  have stillNo : ((fs.setIfInBounds 3 (Value.ref b)).setIfInBounds 4 (Value.bool true))[1]? = some Value.none := set_other (by decide) (set_other (by decide) noTb)
  have cls4 : ((ob.mapFields (·.setIfInBounds 3 (Value.ref b))).mapFields (·.setIfInBounds 4 (.bool true))).cls = c := by
    rw [Obj.cls_mapFields, Obj.cls_mapFields]
    exact k
  have hot4 : HotAt A b (causeFrom s1.heap a (.ref b)) := by
    obtain ⟨z1, oh, fh, z2, z3, z4⟩ := hot
    exact ⟨z1, oh, fh, (causeFrom_other (Ne.symm far)).trans z2, z3, z4⟩
  show wpAny (model prog w) A _ R Er { s1 with heap := causeFrom s1.heap a (.ref b) }
  refine wpAny_bind (not_class now put4.2 ?_)
  rw [if_neg (nofun : ¬ false = true)]
  unfold raisedInstance
  have one := class_told (prog := prog) (w := w) now cls4
  refine wpAny_bind (wpAny_bind (one.here (wpAny_bind (meta_.here ?_))))
  refine wpAny_pure ?_
  have flight : ∀ {R' : Unit → Shared → Prop}, R' () { s1 with heap := causeFrom s1.heap a (.ref b) } → wpAny (model prog w) A (setFlight (.ref a) none) R' Er { s1 with heap := causeFrom s1.heap a (.ref b) } := fun r => by
    unfold setFlight
    refine wpAny_bind (wpAny_field now put4.2 stillNo ?_)
    rw [if_neg (by decide)]
    exact wpAny_pure r
  exact wpAny_bind (flight (raiseNew_hot hot4 far now put4.2 (by rw [set_size, set_size]; omega) wish))
end
end Fg
namespace Fg
open PySem PySem.Spec PyProof.Rows L2 L2H HotX
/-- raise X(..) from why, in an except suite: why is the exception that is handled -/
theorem ps_raiseHF {Z : Cx} {W : WX} {ex : Expr} {t : L2.St → Hp → XK → Prop} {i : Nat} {n : Str} {b : Addr} {ob : Obj} {cb : Value} {db : Option Addr} {np pos : Pos} (hot : Z.A.handled = some (.ref b)) (pinned : (b, ob) ∈ Z.pn) (zn : L2N.Zn cb db ob) (flds : ∃ vs, ob.data = .fields vs)
    (tk : L2.Takes Z W) (made : PMk5 Z ex t) (slot : Z.N[i]? = some n) (kind : Z.env.scope.names.lookup n = some .local) (nd : (n == ("__debug__" : Str)) = false := by decide) :
    PS Z (.Raise (some ex) (some (.Name n np)) pos) (fun _ τ G => Raises Z cb ∧ τ[i]? = some (some (.ref b)) ∧ t τ G fun cls d G' => W cls d τ G') where
  run pn st τ G D J h := by
    obtain ⟨rb, there, want⟩ := h
    obtain ⟨fb, eb⟩ := flds
    have ctx := zn.2.2 fb eb
    show wpAny _ _ (do standAt pos; raiseStmt Z.env (some (do let v ← eval ex Z.env; standAt pos; pure v)) (some (do let v ← eval (.Name n np) Z.env; standAt pos; pure v))) _ _ _
    refine wpAny_bind (wpAny_standAt (raise_cause (b := b) (wpAny_bind (wpAny_mono (made pn st τ G _ J want) ?_ fun _ _ z => z))))
    rintro u s1 ⟨⟨a, oe, vs, sI, G', cls, d, rfl, J1, kp, fresh, g, z, dt, noTb, na, os, ag, r, q⟩, big⟩
    apply wpAny_bind
    apply wpAny_standAt
    apply wpAny_pure
    have size := big a oe vs rfl g dt
    have apart : ∀ y o, sI.heap.get? y = some o → a ≠ y := fun y o e same => by
      rw [← same, fresh] at e
      cases e
    have kp4 : ∀ y o, sI.heap.get? y = some o → (causeFrom s1.heap a (.ref b)).get? y = some o := fun y o e => (causeFrom_other (apart y o e)).trans (kp y o e)
    have atB := (J1.pin (b, ob) (List.mem_append_left _ pinned)).1
    have far : b ≠ a := (apart b ob atB).symm
    have put := causeFrom_at (v := .ref b) g dt
    have last := field_put put.1 put.2 2 (.ref b)
    refine ⟨a, oe, vs, cls, cb, ob, fb, rfl, ⟨g, z.1, dt, noTb, size⟩, far, ⟨hot, ob, fb, kp _ _ atB, eb, ctx⟩, ⟨kp _ _ atB, zn.1, eb⟩, fun R' q' => ?_,
      (r (model Z.prog Z.w) s1.heap (J1.kIn.keeps kp)).1, (rb (model Z.prog Z.w) s1.heap (J1.kIn.keeps kp)).1, (r (model Z.prog Z.w) (causeFrom s1.heap a (.ref b)) (J1.kIn.keeps kp4)).2, tk _ _ ?_⟩
    · obtain ⟨m, names, loc⟩ := J1.loc
      obtain ⟨u, rel, stands⟩ := loc i n _ slot there (.inl kind)
      rcases stands with ⟨_, held⟩ | ⟨cellK, _⟩
      · cases (rel : u = Value.ref b)
        exact wpAny_bind (wpAny_Name (wpAny_loadName_local J1.ok.kind kind (names.keeps kp) held (wpAny_bind (wpAny_standAt (wpAny_pure q')))) nd)
      · exfalso
        rcases cellK with y | y
        · have y : Z.env.scope.names.lookup n = some .cell := y
          rw [kind] at y; cases y
        · have y : Z.env.scope.names.lookup n = some .free := y
          rw [kind] at y; cases y
    · refine XE.new J1 (fun y o e => ?_) fresh last.1 ⟨?_, ?_⟩ last.2 (set_other (by decide) (set_other (by decide) (set_other (by decide) noTb))) na os ag q
      · exact (Heap.get?_update_other _ _ (apart y o e)).trans (kp4 y o e)
      · simp only [Obj.cls_mapFields]
        exact z.1
      · simp only [HandSPX.dict_mapFields]
        exact z.2.1
end Fg
namespace Fg
open PySem PySem.Spec PyProof.Rows L2 L2H HotX
section
variable {P : Program} {w : World} {K : PySem.W.Frag} {mg : Str → Option Value} {base : Heap} {C fI : Addr} {f g q x : Str}
/-- its __init__ while an error is handled -/
theorem ini_ok2H {sd : Stmt} {fd : FuncData} (F : Fun K "__init__" q sd fI fd) (S : FnScope ["self", f, g] ["self", f, g] (defScope sd))
    (ox : OexC K C) (noF : PySem.W.findIn K (.ref C) f = some none) (noG : PySem.W.findIn K (.ref C) g = some none)
    (body : ∀ (cdv : Value) (A : Around) (fs : List Env) (st : Shared) (G : Hp) (Er : XK) (p : Addr × Obj), PSs (cxH CX0 P w K mg base ["self", f, g] q (defScope sd) fI cdv A fs st G Er p) (defBody sd) (tSeq (tOst K f (tVar 0) (tVar 1)) (tOst K g (tVar 0) (tVar 2)))) :
    FnH P w K mg base CX0 1 fI fd ["self", f, g] (spIni2 C f g) := by
  obtain ⟨_, _, _, _, _, _, cdv, _, _, rfl, found, code⟩ := F.ex
  refine fn_ofH found code S (fun xs G R Er h => len3 xs G R Er h) fun A fs st G xs R Er p _ _ h => ⟨_, body cdv A fs st G Er p, ?_⟩
  obtain ⟨_, v, y, rfl, a, rfl, fresh, go⟩ := h
  refine ⟨v, rfl, .ref a, rfl, a, C, rfl, ox, noF, .inl ⟨fresh, fun dx free ne => ?_⟩⟩
  have atA : (upd (upd G dx (exd dx [(f, v)])) a (exo a C (some dx))) dx = some (exd dx [(f, v)]) := (upd_ne ne).trans upd_same
  refine ⟨y, rfl, .ref a, rfl, a, C, rfl, ox, noG, .inr ⟨dx, _, upd_same, atA, by show 1 ≤ 900; decide, ?_⟩⟩
  exact go dx _ free ne ((upd_ne ne.symm).trans upd_same) upd_same fun b n1 n2 => ((upd_ne n2).trans (upd_ne n1)).trans (upd_ne n2)
def OKx2H (P : Program) (w : World) (K : PySem.W.Frag) (mg : Str → Option Value) (base : Heap) (x f g : Str) (C : Addr) : Prop :=
  (mg x = some (.ref C) ∧ OexC K C) ∧ ∃ (fI : Addr) (fd : FuncData), (PySem.W.findIn K (.ref C) "__init__" = some (some (.ref fI)) ∧ PySem.W.typeIn K (.ref fI) = some (.type "function")) ∧
    FnH P w K mg base CX0 1 fI fd ["self", f, g] (spIni2 C f g) ∧ Binds K fd ["self", f, g] []
end
theorem pmk_E2H {Z : Cx} {x f g : Str} {C : Addr} {e : Expr} {es : List Expr} {ta : TA} {p pos : PySem.Pos} {k : Nat} (def_ : OKx2H Z.prog Z.w Z.K Z.mg Z.base x f g C) (room : RoomH (k + 2) Z.A) (hot : HotC Z) (args : PA Z (e :: es) ta) (gl : Gl Z x := by rfl)
    (nd : (x == ("__debug__" : Str)) = false := by decide)
    (plain : starEach (e :: es) Z.env = (false, eval e Z.env) :: starEach es Z.env := by rfl)
    (nost : (backTo pos (starEach es Z.env)).any (·.1) = false := by rfl) :
    PMk5 Z (.Call (.Name x p) (e :: es) [] pos) (tMkE2 C f g ta) := by
  obtain ⟨⟨here, ox⟩, fI, fd, ⟨find, ty⟩, F, binds⟩ := def_
  intro pn st τ G Q J h
  refine pmk5_oexH (k := 1) ox find ty F (room.mono (by omega)) hot binds pass0 gl here (pa_mono args) nd plain nost pn st τ G Q J ⟨_, h, ?_⟩
  rintro vs G1 ⟨v, y, rfl, go⟩
  refine ⟨by show 2 ≤ 1000; omega, fun a free => ⟨.ref a, v, y, rfl, a, rfl, upd_same, fun dx G2 nd2 ne at1 at2 same => ⟨rfl, dx, [(g, y), (f, v)], at1, at2, ?_, ?_⟩⟩⟩
  · rwa [upd_ne ne] at nd2
  · rw [upd_ne ne] at nd2
    have all : upd (del G2 a) dx (.xd [(g, y), (f, v)]) = upd G1 dx (.xd [(g, y), (f, v)]) := by
      funext b
      by_cases h1 : b = dx
      · rw [h1, upd_same, upd_same]
      · rw [upd_ne h1, upd_ne h1]
        by_cases h2 : b = a
        · rw [h2, del_same, free]
        · rw [del_ne h2, same b h2 h1, upd_ne h2]
    rw [all]
    exact go dx nd2
/-- a class that can be raised, told of the written part alone -/
def RsK (K : PySem.W.Frag) (cls : Value) : Prop := PySem.W.subIn K cls (.type "BaseException") = some true ∧ PySem.W.typeIn K cls = some (.type "type")
/-- ps_raiseHF, its reading free of the suite's own parts -/
theorem ps_raiseHK {Z : Cx} {W : WX} {ex : Expr} {t : L2.St → Hp → XK → Prop} {i : Nat} {n : Str} {b : Addr} {ob : Obj} {cb : Value} {db : Option Addr} {np pos : PySem.Pos} (K : PySem.W.Frag) (hot : Z.A.handled = some (.ref b)) (pinned : (b, ob) ∈ Z.pn) (zn : L2N.Zn cb db ob)
    (flds : ∃ vs, ob.data = .fields vs) (tk : L2.Takes Z W) (made : PMk5 Z ex t) (slot : Z.N[i]? = some n) (kind : Z.env.scope.names.lookup n = some .local) (same : Z.K = K := by rfl) (nd : (n == ("__debug__" : Str)) = false := by decide) :
    PS Z (.Raise (some ex) (some (.Name n np)) pos) (fun _ τ G => RsK K cb ∧ τ[i]? = some (some (.ref b)) ∧ t τ G fun cls d G' => W cls d τ G') := by
  subst same
  exact ⟨fun pn st τ G D J h => (ps_raiseHF hot pinned zn flds tk made slot kind nd).run pn st τ G D J ⟨raises_own h.1.1 h.1.2, h.2⟩⟩
end Fg
namespace Fg
open PySem PySem.Spec PyProof.Rows L2 L2H HotX
/-- the context of an except suite that may raise, with its own end of errors -/
abbrev suiteXE (Z : Cx) (a : Addr) (pl : List (Addr × Obj)) (xe : Value → Shared → Prop) : Cx := { Z with A := Z.A.mark (some (.ref a)), calm := false, pn := pl, xe := xe }
section
variable {Z : Cx} {pl : List (Addr × Obj)} {τ : L2.St} {G : Hp} {st : Shared} {a T : Addr} {oa oT : Obj} {fa fT : Array Value}
theorem suiteXE_of {a : Addr} {p1 p2 : List (Addr × Obj)} {xe : Value → Shared → Prop} (J : Inv (Z.suite a p1) p2 τ G st) : Inv (suiteXE Z a p1 xe) p2 τ G st := Inv.unwish (X := suiteXE Z a p1 xe) (E := fun _ _ => False) J
theorem unsuiteXE {a : Addr} {q : Addr × Obj} {p2 : List (Addr × Obj)} {xe : Value → Shared → Prop} (J : Inv (suiteXE Z a (q :: (Z.pn ++ pl)) xe) p2 τ G st) (ok : Z.Ok) : Inv Z pl τ G st := by
  have back : Inv (Z.suite a (q :: (Z.pn ++ pl))) p2 τ G st := J.wish fun _ _ => False
  exact Inv.unsuite (X := Z) (a := a) (q := q) (pn' := p2) back ok
/-- what has fields is no frame -/
theorem no_frame {B h : Heap} {l : List Env} (ff : h.FunFrames B l) (g : h.get? a = some oa) (d : oa.data = .fields fa) : a ∉ frs l := fun m => by
  obtain ⟨_, ob, gb, other⟩ := ff.mem m
  rw [g] at gb
  cases gb
  exact other _ d
theorem in_frs (hf : Z.env.frame = some Z.env.locals) : Z.env.locals ∈ frs (Z.env :: Z.outer) ∧ ∀ b ∈ Z.fs, b ∈ frs (Z.env :: Z.outer) :=
  ⟨List.mem_filterMap.mpr ⟨Z.env, List.mem_cons_self, hf⟩, fun b m => by
    obtain ⟨en, inn, eq⟩ := List.mem_filterMap.mp m
    exact List.mem_filterMap.mpr ⟨en, List.mem_cons_of_mem _ inn, eq⟩⟩
/-- a thing with fields may be pinned -/
theorem pin_one (hf : Z.env.frame = some Z.env.locals) (g : st.heap.get? a = some oa) (d : oa.data = .fields fa) (no : a ∉ frs (Z.env :: Z.outer)) (n : G a = none) :
    st.heap.get? a = some oa ∧ G a = none ∧ a ≠ Z.env.locals ∧ a ∉ Z.fs ∧ ∀ v, oa.data ≠ .cell v := by
  obtain ⟨f1, f2⟩ := in_frs hf
  refine ⟨g, n, fun y => no (y ▸ f1), fun m => no (f2 a m), fun v y => ?_⟩
  rw [d] at y
  cases y
theorem pins_two (ok : Z.Ok) (J : Inv Z pl τ G st) (p1 : st.heap.get? a = some oa ∧ G a = none ∧ a ≠ Z.env.locals ∧ a ∉ Z.fs ∧ ∀ v, oa.data ≠ .cell v) (p2 : st.heap.get? T = some oT ∧ G T = none ∧ T ≠ Z.env.locals ∧ T ∉ Z.fs ∧ ∀ v, oT.data ≠ .cell v) :
    Inv (Z.suite a ((a, oa) :: (T, oT) :: (Z.pn ++ pl))) [] τ G st := by
  refine ⟨J.ok.suite _ _, J.os, J.bare, J.base, J.loc, J.cell, J.free, J.freeC, ?_, J.hok, J.len⟩
  intro p m
  have m : p ∈ (a, oa) :: (T, oT) :: (Z.pn ++ pl) := by simpa using m
  simp only [List.mem_cons] at m
  rcases m with rfl | rfl | m
  · exact p1
  · exact p2
  · exact J.pin p m
/-- a heap without two things -/
theorem two_out (h : Heap) (a T : Addr) : ∃ g : Heap, (∀ b o, g.get? b = some o → h.get? b = some o ∧ b ≠ a ∧ b ≠ T) ∧ ∀ b o, b ≠ a → b ≠ T → h.get? b = some o → g.get? b = some o := by
  obtain ⟨g, keep, drop⟩ := restrict h fun b => decide (b ≠ a ∧ b ≠ T)
  refine ⟨g, fun b o e => ?_, fun b o n1 n2 e => ?_⟩
  · by_cases y : b ≠ a ∧ b ≠ T
    · exact ⟨by rw [← keep b (decide_eq_true y)]; exact e, y⟩
    · have := drop b (decide_eq_false y)
      rw [e] at this
      cases this
  · rw [keep b (decide_eq_true ⟨n1, n2⟩)]
    exact e
end
/-- behind the suite's name what flies across goes on -/
def wUn (i : Nat) (W : WX) : WX := fun cls d τ G => W cls d (τ.set i none) G
section
variable {Z : Cx} {a0 : Addr} {o0 : Obj} {pl : List (Addr × Obj)} {i : Nat} {n : Str} {upos : Pos} {W : WX} {xe R : Value → Shared → Prop}
/-- the suite's end when u flies out of it: the name goes, u goes on -/
abbrev goesOut (Z : Cx) (a0 : Addr) (n : Str) (upos : Pos) (R : Value → Shared → Prop) (u : Value) (s1 : Shared) : Prop :=
  wpAny (model Z.prog Z.w) (Z.A.mark (some (.ref a0))) (do bindName Z.env n .none; unbindBehindTheSuite Z.env n upos)
    (fun _ s2 => wpAny (model Z.prog Z.w) (Z.A.mark (some (.ref a0))) (PySem.passOn "try.except-as" u Z.env : Sem Flow) (fun _ _ => False) (notedBy (model Z.prog Z.w) (Z.A.mark (some (.ref a0))) Z.env R) s2)
    (fun y s2 => wpAny (model Z.prog Z.w) (Z.A.mark (some (.ref a0))) (setFlight u none) (fun _ s3 => notedBy (model Z.prog Z.w) (Z.A.mark (some (.ref a0))) Z.env R y s3) (notedBy (model Z.prog Z.w) (Z.A.mark (some (.ref a0))) Z.env R) s2) s1
/-- .. once it is noted -/
theorem held_goes {B : Heap} {a : Addr} {cls : Value} {d : Option Addr} {sI s' : Shared} {h3 : Heap} {τ : L2.St} {G : Hp} (hs : Z.stack = Z.env :: Z.outer) (hf : Z.env.frame = some Z.env.locals) (hex : Z.ex = []) (ok : Z.Ok)
    (nodup : Z.N.Nodup) (slot : Z.N[i]? = some n) (kind : Z.env.kindOf n = some .local) (tk : L2.Takes Z W) (note : ∀ x s, Z.xe x s → notedBy (model Z.prog Z.w) (Z.A.mark (some (.ref a0))) Z.env R x s)
    (J : Inv Z pl τ G sI) (ground : ∀ b o, sI.heap.get? b = some o → b ∉ frs Z.stack → B.get? b = some o) (fl : HandSPX.HeldZ B (Z.env :: Z.outer) a (Zc cls d) Z.env.locals h3) (J3 : Inv Z pl τ G { s' with heap := h3 }) (na : G a = none) (want : W cls d (τ.set i none) G) :
    goesOut Z a0 n upos R (.ref a) { s' with heap := h3 } := by
  have frames : (Z.A.mark (some (.ref a0))).frames = some (Z.env :: Z.outer) := (ok.frames).trans (by rw [hs])
  obtain ⟨_, aB, ff, oa, fa, T, oT, fT, ga, za, da, a1, TB, Tn, gT, dT, t3⟩ := id fl
  have nT : G T = none := (J.inGround ground).gone TB
  have aOff := no_frame ff ga da
  have tOff := no_frame ff gT dT
  have S3 := pins_two ok J3 (pin_one hf ga da aOff na) (pin_one hf gT dT tOff nT)
  refine gone_ok (X := Z.suite a ((a, oa) :: (T, oT) :: (Z.pn ++ pl))) S3 nodup slot kind fun s6 S6 => ?_
  generalize τ.set i none = τ6 at *
  have rest : ∀ p ∈ Z.pn ++ pl, p ∈ (Z.suite a ((a, oa) :: (T, oT) :: (Z.pn ++ pl))).pn ++ [] := fun p m => by
    rw [List.append_nil]
    exact List.mem_cons_of_mem _ (List.mem_cons_of_mem _ m)
  have J6 : Inv Z pl τ6 G s6 := ⟨ok, S6.os, S6.bare, S6.base, S6.loc, S6.cell, S6.free, S6.freeC, fun p m => S6.pin p (rest p m), S6.hok, S6.len⟩
  have ga6 := (S6.pin (a, oa) (List.mem_append_left [] List.mem_cons_self)).1
  have gT6 := (S6.pin (T, oT) (List.mem_append_left [] (List.mem_cons_of_mem (a, oa) List.mem_cons_self))).1
  have apart : ∀ b o, sI.heap.get? b = some o → b ≠ a ∧ b ≠ T := fun b o e => by
    by_cases m : b ∈ frs (Z.env :: Z.outer)
    · exact ⟨fun y => aOff (y ▸ m), fun y => tOff (y ▸ m)⟩
    · have inB := ground b o e (by rw [hs]; exact m)
      refine ⟨fun y => ?_, fun y => ?_⟩
      · rw [y, aB] at inB; cases inB
      · rw [y, TB] at inB; cases inB
  have apart0 : ∀ b o, Z.s_0.heap.get? b = some o → b ≠ a ∧ b ≠ T := fun b o e => by
    obtain ⟨o1, e1⟩ := J.base.there b o e (by simp [hex])
    exact apart b o1 e1
  obtain ⟨g, inG, ofG⟩ := two_out s6.heap a T
  have I6 : Inv Z pl τ6 G { s6 with heap := g } := J6.less (fun b o e => (inG b o e).1) ofG ⟨oa, fa, ga6, da⟩ ⟨oT, fT, gT6, dT⟩ na nT apart0 fun p m => apart p.1 p.2 (J.pin p m).1
  have hidden : ∀ b, b = a ∨ b = T → (PySem.W.hideAll g (frs Z.stack)).get? b = none := fun b y => by
    cases e : (PySem.W.hideAll g (frs Z.stack)).get? b with
    | none => rfl
    | some o =>
      have out := (inG b o (PySem.W.of_hideAll _ e)).2
      exact absurd y (by simp [out.1, out.2])
  have ff6 : s6.heap.FunFrames (PySem.W.hideAll g (frs Z.stack)) (Z.env :: Z.outer) := by
    rw [← hs]
    exact funFrames_none J6.stack fun b m => PySem.W.hideAll_none _ m
  have traced : HandSPX.TracedZ s6.heap (PySem.W.hideAll g (frs Z.stack)) a (Zc cls d) (rawInt Z.env.locals) := ⟨oa, fa, T, oT, fT, ga6, za, da, a1, hidden T (.inr rfl), Tn, gT6, dT, t3⟩
  have on : wpAny (model Z.prog Z.w) (Z.A.mark (some (.ref a0))) (setFlight (.ref a) Z.env.frame) (fun _ s7 => wpAny (model Z.prog Z.w) (Z.A.mark (some (.ref a0))) (throw (.ref a) : Sem Flow) (fun _ _ => False) (notedBy (model Z.prog Z.w) (Z.A.mark (some (.ref a0))) Z.env R) s7)
      (notedBy (model Z.prog Z.w) (Z.A.mark (some (.ref a0))) Z.env R) s6 := by
    rw [hf]
    refine HandSPX.setFlight_anyZ (fun b o e => (inG b o (PySem.W.of_hideAll _ e)).1) ff6 traced fun h7 m1 m2 m3 up7 => ?_
    have held7 : HandSPX.HeldZ (PySem.W.hideAll g (frs Z.stack)) (Z.env :: Z.outer) a (Zc cls d) Z.env.locals h7 := ⟨m1, hidden a (.inl rfl), m2, m3⟩
    rw [← hs] at held7
    have up : g.UpToSlots h7 := (Heap.UpToSlots.of_keeps fun b o e => (inG b o e).1).trans up7
    exact wpAny_throw (note _ _ (tk _ _ ⟨a, _, { s6 with heap := g }, pl, τ6, G, cls, d, rfl, I6, fun b o e m => PySem.W.hideAll_get _ e m, up, .inr (.inr held7), na, rfl, J6.bare, want⟩))
  unfold PySem.passOn
  refine wpAny_bind (wpAny_field ga6 da a1 ?_)
  have isRef : ¬ ((Value.ref T == Value.none) = true) := nofun
  rw [if_neg isRef]
  first
    | exact wpAny_bind (wpAny_pure (wpAny_bind on))
    | exact wpAny_bind on
theorem as_gone {u : Value} {s' : Shared} (hs : Z.stack = Z.env :: Z.outer) (hf : Z.env.frame = some Z.env.locals) (hex : Z.ex = []) (ok : Z.Ok)
    (nodup : Z.N.Nodup) (slot : Z.N[i]? = some n) (kind : Z.env.kindOf n = some .local) (tk : L2.Takes Z W) (note : ∀ x s, Z.xe x s → notedBy (model Z.prog Z.w) (Z.A.mark (some (.ref a0))) Z.env R x s)
    (out : L2.XE (suiteXE Z a0 ((a0, o0) :: (Z.pn ++ pl)) xe) (wUn i W) u s') :
    wpAny (model Z.prog Z.w) (Z.A.mark (some (.ref a0))) (noteFrame u Z.env) (fun _ s1 => goesOut Z a0 n upos R u s1) (notedBy (model Z.prog Z.w) (Z.A.mark (some (.ref a0))) Z.env R) s' := by
  have frames : (Z.A.mark (some (.ref a0))).frames = some (Z.env :: Z.outer) := (ok.frames).trans (by rw [hs])
  obtain ⟨a, B, sI, _, τ, G, cls, d, rfl, J1, ground, up, sky, na, os, ag, want⟩ := out
  have J : Inv Z pl τ G sI := unsuiteXE J1 ok
  replace sky : L2.Sky B (Z.env :: Z.outer) a (Zc cls d) Z.env.locals s'.heap := hs ▸ sky
  have fin : ∀ h3, HandSPX.HeldZ B (Z.env :: Z.outer) a (Zc cls d) Z.env.locals h3 → s'.heap.UpToSlots h3 → goesOut Z a0 n upos R (.ref a) { s' with heap := h3 } := fun h3 fl up3 =>
    held_goes hs hf hex ok nodup slot kind tk note J ground fl (J.landed ground fl.1 (up.trans up3) os ag) na want
  rcases sky with ⟨b1, b2, b3, ob, fs, b4, b5, b6, b7⟩ | fly | held
  · exact HandSPX.look_newZ Zc.steady frames b3 hf b4 b1 b2 b6 b7 b5 fin
  · exact HandSPX.looks_onZ Zc.steady frames hf fly fin
  · exact HandSPX.againZ hf held.2.2.2 (fin s'.heap held (Heap.UpToSlots.refl _))
end
/-- what the clause 'except (x1, x2) as n' wishes of an exception of the body: slot i is n's; the suite may raise -/
def wTA (K : PySem.W.Frag) (c1 c2 : Value) (i : Nat) (ts : Addr → Value → Option Addr → TS) (W : WX) (D : Ends) : WX := fun cls d τ G =>
  ∃ b, PySem.W.exmAny K cls [c1, c2] = some b ∧
    (b = true → ∀ a, G a = none → ts a cls d { nx := fun τ' G' => D.nx (τ'.set i none) G', rt := D.rt, bk := fun τ' G' => D.bk (τ'.set i none) G', ct := fun τ' G' => D.ct (τ'.set i none) G' } (τ.set i (some (.ref a))) G) ∧
    (b = false → W cls d τ G)
theorem fly_push {B h : Heap} {l : List Env} {a : Addr} {Zp : Obj → Prop} {o : Obj} (fl : HandSPX.FlyingZ B l a Zp h) : HandSPX.FlyingZ B l a Zp (h.push o) := by
  have more : ∀ {b : Addr} {u : Obj}, h.get? b = some u → (h.push o).get? b = some u := fun e => Heap.get?_push_of_some _ e
  obtain ⟨inB, aB, ff, oa, fa, T, oT, fT, ga, za, da, a1, TB, Tn, gT, dT, t3⟩ := fl
  exact ⟨fun b u e => more (inB b u e), aB, ff.of_keeps fun b u e _ => ⟨u, more e, rfl⟩, oa, fa, T, oT, fT, more ga, za, da, a1, TB, Tn, more gT, dT, t3⟩
section
variable {Z : Cx} {x1 x2 n : Str} {c1 c2 : Value} {i : Nat} {body suite : List Stmt} {b0 : Stmt} {np1 np2 pos hpos tpos : Pos} {tb : WX → TS} {ts : Addr → Value → Option Addr → TS} {W : WX}
theorem ps_try_tupAsX {cx0} (hs : Z.stack = Z.env :: Z.outer) (hf : Z.env.frame = some Z.env.locals) (hex : Z.ex = []) (nodup : Z.N.Nodup) (slot : Z.N[i]? = some n) (kind : Z.env.kindOf n = some .local)
    (gl1 : Gl Z x1) (nd1 : (x1 == ("__debug__" : Str)) = false) (m1 : Z.mg x1 = some c1) (gl2 : Gl Z x2) (nd2 : (x2 == ("__debug__" : Str)) = false) (m2 : Z.mg x2 = some c2)
    (pass : ∀ v : Option Value, PassesOwnAt (model Z.prog Z.w) (Z.A.mark v) Z.A Z.env Z.xe) (tk : L2.Takes Z W)
    (bodyOk : ∀ (V : WX) (pl : List (Addr × Obj)) (xe : Value → Shared → Prop), L2N.Takes (Z.tr pl xe) V → PassesOwn (model Z.prog Z.w) Z.A Z.env xe → PSs (Z.tr pl xe) body (tb V))
    (suiteOk : ∀ (a : Addr) (ob : Obj) (cls : Value) (d : Option Addr) (pl : List (Addr × Obj)) (xe : Value → Shared → Prop), L2N.Zn cls d ob → (∃ vs, ob.data = .fields vs) → L2.Takes (suiteXE Z a ((a, ob) :: pl) xe) (wUn i W) → HotC (suiteXE Z a ((a, ob) :: pl) xe) →
      PSs (suiteXE Z a ((a, ob) :: pl) xe) (b0 :: suite) (ts a cls d))
    (st1 : starEach [.Name x1 np1, .Name x2 np2] Z.env = (false, eval (.Name x1 np1) Z.env) :: starEach [.Name x2 np2] Z.env := by rfl)
    (st2 : starEach [.Name x2 np2] Z.env = (false, eval (.Name x2 np2) Z.env) :: starEach [] Z.env := by rfl) :
    PS Z (.Try body [.ExceptHandler (some (.Tuple [.Name x1 np1, .Name x2 np2] cx0 tpos)) (some n) (b0 :: suite) hpos] [] [] pos) (fun D τ G => tb (wTA Z.K c1 c2 i ts W D) D τ G) where
  run pl st τ G D J h := by
    have ok := J.ok
    have frames : Z.A.frames = some (Z.env :: Z.outer) := (ok.frames).trans (by rw [hs])
    have walk := bodyOk (wTA Z.K c1 c2 i ts W D) (Z.pn ++ pl) (fun e s1 => wpAny (model Z.prog Z.w) Z.A (noteFrame e Z.env) (fun _ s2 => wpAny (model Z.prog Z.w) Z.A (setFlight e none) (fun _ s3 =>
      wpAny (model Z.prog Z.w) Z.A (handleBy e Z.env [.ExceptHandler (some (.Tuple [.Name x1 np1, .Name x2 np2] cx0 tpos)) (some n) (b0 :: suite) hpos]) (SP Z pl D) Z.xe s3) Z.xe s2) Z.xe s1)
    refine wpAny_Try_except (wpAny_mono ((walk ?_ PassesOwn.looking).run [] st τ G D (J.toTry _) h) ?_ fun _ _ z => z)
    · rintro u s' ⟨a, B, sI, _, τ1, G1, cls, d, rfl, J1, ground, up, sky, na, os, ag, b, test, yes, no⟩
      have JI : Inv Z pl τ1 G1 sI := J1.ofTry ok
      replace sky : L2.Sky B (Z.env :: Z.outer) a (L2N.Zn cls d) Z.env.locals s'.heap := hs ▸ sky
      show wpAny (model Z.prog Z.w) Z.A (noteFrame (.ref a) Z.env) _ _ _
      refine L2N.Sky.land L2N.Zn.steady frames hf sky fun h3 fl3 up3 => ?_
      have J3 : Inv Z pl τ1 G1 { s' with heap := h3 } := JI.landed ground fl3.1 (up.trans up3) os ag
      obtain ⟨o3, f3, g3, z3, d3⟩ := fl3.there
      have off := no_frame fl3.2.2.1 g3 d3
      have pin := pin_one (st := { s' with heap := h3 }) hf g3 d3 off na
      have S3 := J3.suite g3 d3 na pin.2.2.1 pin.2.2.2.1
      have fl4 := fly_push (o := { cls := .type "tuple", data := .seq [c1, c2].toArray }) fl3
      have up4 : s'.heap.UpToSlots (h3.push { cls := .type "tuple", data := .seq [c1, c2].toArray }) := up3.trans (Heap.UpToSlots.of_keeps fun b o e => Heap.get?_push_of_some _ e)
      have J4 : Inv Z pl τ1 G1 { s' with heap := h3.push { cls := .type "tuple", data := .seq [c1, c2].toArray } } := JI.landed ground fl4.1 (up.trans up4) os ag
      have told : PySem.W.Looks (model Z.prog Z.w) (h3.push { cls := .type "tuple", data := .seq [c1, c2].toArray }) (typeOf (.ref a)) cls := class_told (Heap.get?_push_of_some _ g3) z3.1
      have asked := PySem.W.exm_tup2 (M := model Z.prog Z.w) (tp := h3.objs.size) J4.kIn told (Heap.get?_push_size _ rfl) test
      refine wpAny_handleBy_cons (codeAny_handlers_test (wpAny_Tuple_spliced ?_)) (by rintro ⟨⟩)
      rw [st1, st2]
      refine Calls.spliced_cons (ld_glob (X := Z.suite a ((a, o3) :: (Z.pn ++ pl))) S3 gl1 m1 ?_ nd1)
      refine Calls.spliced_cons (ld_glob (X := Z.suite a ((a, o3) :: (Z.pn ++ pl))) S3 gl2 m2 ?_ nd2)
      refine Calls.spliced_nil ⟨by show 2 ≤ sizeLine; decide, asked.here ?_⟩
      match b, yes, no with
      | true, yes, _ =>
        refine codeAny_handlers_suite_as (HandSPX.lands_againZ fl4 fun h5 fl5 up5 => ?_)
        have J5 : Inv Z pl τ1 G1 { s' with heap := h5 } := JI.landed ground fl5.1 ((up.trans up4).trans up5) os ag
        obtain ⟨o5, f5, g5, z5, d5⟩ := fl5.there
        have S5 := J5.suite g5 d5 na pin.2.2.1 pin.2.2.2.1
        refine store_ok (X := Z.suite a ((a, o5) :: (Z.pn ++ pl))) (v := .ref a) S5 nodup slot (.inl kind) rfl (fun s6 S6 => ?_) (.inr kind)
        have hot : ∀ xe, HotC (suiteXE Z a ((a, o5) :: (Z.pn ++ pl)) xe) := fun xe => ⟨(a, o5), ⟨rfl, f5, d5, z5.2.2 f5 d5⟩, List.mem_cons_self⟩
        refine wpAny_mono ((suiteOk a o5 cls d (Z.pn ++ pl) _ z5 ⟨f5, d5⟩ (fun u2 s2 out => as_gone (upos := hpos) hs hf hex ok nodup slot kind tk (pass (some (.ref a))) out) (hot _)).run [] s6 _ G1 _ (suiteXE_of S6) (yes rfl a na)) ?_ fun _ _ z => z
        intro f s7 reached
        match f, reached with
        | .next, ⟨τ6, G6, S6, q6⟩ => exact gone_ok (unsuiteXE S6 ok) nodup slot kind fun s8 J8 => ⟨_, G6, J8, q6⟩
        | .brk, ⟨τ6, G6, S6, q6⟩ => exact gone_ok (unsuiteXE S6 ok) nodup slot kind fun s8 J8 => ⟨_, G6, J8, q6⟩
        | .cont, ⟨τ6, G6, S6, q6⟩ => exact gone_ok (unsuiteXE S6 ok) nodup slot kind fun s8 J8 => ⟨_, G6, J8, q6⟩
        | .ret u, ⟨v6, τ6, G6, S6, r6, q6⟩ => exact gone_ok (unsuiteXE S6 ok) nodup slot kind fun s8 J8 => ⟨v6, _, G6, J8, r6, q6⟩
      | false, _, no =>
        show wpAny _ Z.A (handleBy (.ref a) Z.env []) _ _ _
        refine wpAny_handleBy_nil ?_
        obtain ⟨_, _, _, oa, fa, T, _, _, ga, _, da, a1, _⟩ := id fl4
        unfold PySem.passOn
        refine wpAny_bind (wpAny_field ga da a1 ?_)
        have isRef : ¬ ((Value.ref T == Value.none) = true) := nofun
        rw [if_neg isRef]
        have on : wpAny (model Z.prog Z.w) Z.A (setFlight (.ref a) Z.env.frame) (fun _ s4 => wpAny (model Z.prog Z.w) Z.A (throw (.ref a) : Sem Flow) (SP Z pl D) Z.xe s4) Z.xe { s' with heap := h3.push { cls := .type "tuple", data := .seq [c1, c2].toArray } } := by
          rw [hf]
          refine HandSPX.setFlight_upZ (flyingZ_imp (fun o z => z.zc) fl4) fun h5 held up5 => ?_
          rw [← hs] at held
          exact wpAny_throw (tk _ _ ⟨a, B, sI, pl, τ1, G1, cls, d, rfl, JI, ground, (up.trans up4).trans up5, .inr (.inr held), na, os, ag, no rfl⟩)
        first
          | exact wpAny_bind (wpAny_pure (wpAny_bind on))
          | exact wpAny_bind on
    · intro f s1 reached
      match f, reached with
      | .next, ⟨τ6, G6, J6, q⟩ => exact wpAny_execs_nil ⟨τ6, G6, J6.ofTry ok, q⟩
      | .brk, ⟨τ6, G6, J6, q⟩ => exact ⟨τ6, G6, J6.ofTry ok, q⟩
      | .cont, ⟨τ6, G6, J6, q⟩ => exact ⟨τ6, G6, J6.ofTry ok, q⟩
      | .ret u, ⟨v, τ6, G6, J6, r, q⟩ => exact ⟨v, τ6, G6, J6.ofTry ok, r, q⟩
end
end Fg
namespace Fg
open PySem PySem.Spec PyProof.Rows L2
inductive DRel : List DictEntry → List (List Nat × V) → Prop where
  | nil : DRel [] []
  | cons {h : Int} {x : Str} {t : Tok} {u : Value} {l : List Nat} {v : V} {r : List DictEntry} {kr : List (List Nat × V)} : x = ⟨l.toArray⟩ → RelV v u → DRel r kr → DRel (⟨h, .str x t, u⟩ :: r) ((l, v) :: kr)
theorem arr_inj {l m : List Nat} : ((⟨l.toArray⟩ : Str) == ⟨m.toArray⟩) = (l == m) := by
  rw [Bool.eq_iff_iff, beq_iff_eq, beq_iff_eq]
  constructor
  · intro h
    injection h with h
    simpa using congrArg Array.toList h
  · rintro rfl; rfl
theorem DRel.plain {es : List DictEntry} {kvs : List (List Nat × V)} (h : DRel es kvs) : es.any (·.refKey) = false := by
  induction h with
  | nil => rfl
  | cons _ _ _ ih =>
    rw [List.any_cons, ih]
    rfl
theorem DRel.find {es : List DictEntry} {kvs : List (List Nat × V)} (h : DRel es kvs) (l : List Nat) :
    (kvs.lookup l = none ∧ es.find? (·.key.isStr ⟨l.toArray⟩) = none) ∨ ∃ v e, kvs.lookup l = some v ∧ es.find? (·.key.isStr ⟨l.toArray⟩) = some e ∧ RelV v e.val := by
  induction h with
  | nil => exact .inl ⟨rfl, rfl⟩
  | @cons hh x t u m v r kr ex rv _ ih =>
    subst ex
    have e : (Value.str ⟨m.toArray⟩ t).isStr ⟨l.toArray⟩ = (l == m) := by
      show ((⟨m.toArray⟩ : Str) == ⟨l.toArray⟩) = _
      rw [arr_inj, Bool.eq_iff_iff, beq_iff_eq, beq_iff_eq]
      exact eq_comm
    cases hb : l == m with
    | true => exact .inr ⟨v, _, by rw [List.lookup_cons, hb], List.find?_cons_of_pos (by show (Value.str ⟨m.toArray⟩ t).isStr ⟨l.toArray⟩ = true; rw [e, hb]), rv⟩
    | false =>
      rw [List.lookup_cons, hb, List.find?_cons_of_neg (by show ¬ (Value.str ⟨m.toArray⟩ t).isStr ⟨l.toArray⟩ = true; rw [e, hb]; decide)]
      exact ih
section
variable {X : Cx} (K : PySem.W.Frag) (w : World)
variable {e o : Expr} {es : List Expr} {te to : TE} {ta : TA} {pos apos cpos : Pos}
end
section
variable {K : PySem.W.Frag} {w : World} {H : Hp} {Q : VK} {l : List Nat} {d : Addr} {kvs : List (List Nat × V)} {σ : L2.St} {te : TE} {ta : TA}
end
end Fg
namespace Fg
open PySem PySem.Spec PyProof.Rows L2
section
variable {X : Cx} {x : Str} {c : Value} {body suite : List Stmt} {b₀ : Stmt} {np pos pos' : Pos} {tb : WX → TS} {ts : Addr → Value → Option Addr → TS} {Wout : WX}
end
section
variable {P : Program} {w : World} {K : PySem.W.Frag} {mg : Str → Option Value} {base : Heap}
theorem fun_okXN {x qual : Str} {st : Stmt} {f : Addr} {fd : FuncData} {N ps : List Str} {k : Nat} {sp : Sp} (F : Fun K x qual st f fd) (S : FnScope N ps (defScope st)) (len : ∀ vs H Q E, sp vs H Q E → vs.length = ps.length)
    (hbody : ∀ (cdv : Value) (A : Around) (outer : List Env) (s : Shared) (H : Hp) (vs : List V) (Q : VK) (E : XK), Room k (A.deeper (envOfC qual (defScope st) s.heap.objs.size f cdv)) → sp vs H Q E →
      ∃ t, PSs (cxOf (L2N.CX P w) P w K mg base N qual (defScope st) f cdv A outer s H E) (defBody st) t ∧ t { nx := fun _ H' => Q .non H', rt := Q } (start N vs) H) : FnOk P w K mg base (L2N.CX P w) (k + 1) f fd ps sp := by
  obtain ⟨oc, od, kV, doc, pm, an, cdv, ct, osl, rfl, lk, hcd⟩ := F.ex
  exact fn_of lk hcd S len fun A outer s H vs Q E hr hsp => hbody cdv A outer s H vs Q E hr hsp
end
/-- C(e, ..) of an own class: the error's context is none -/
theorem pmk_oexN {X : Cx} {CX : CXT} {x : Str} {e : Expr} {es : List Expr} {ta : TA} {p pos : PySem.Pos} {C fI : Addr} {k : Nat} {fd : FuncData} {ps : List Str} {sp : Sp} {ds : List Value} {dvs : List V} (T : OexC X.K C) (iC : PySem.W.findIn X.K (.ref C) "__init__" = some (some (.ref fI))) (tI : PySem.W.typeIn X.K (.ref fI) = some (.type "function"))
    (F1 : FnOk X.prog X.w X.K X.mg X.base CX k fI fd ps sp) (hr : Room (k + 1) X.A) (hb : Binds X.K fd ps ds) (hd : Vals dvs ds) (hx : Passes CX X (fun _ _ _ => False)) (hg : Gl X x) (hm : X.mg x = some (.ref C)) (ha : PA X (e :: es) ta)
    (hdb : (x == ("__debug__" : Str)) = false := by decide) (he : starEach (e :: es) X.env = (false, eval e X.env) :: starEach es X.env := by rfl) (hpl : (backTo pos (starEach es X.env)).any (·.1) = false := by rfl) :
    L2N.PMk X (.Call (.Name x p) (e :: es) [] pos) (tMkO C sp dvs ta) := by
  intro pins s σ H Q I h
  obtain ⟨nm, q, N, bs, bm, sn, sub, ab, col, dd, k0, k1, k2, k3, k5, hC, hbm⟩ := T.cls
  refine wpAny_Call_Name_kw (ld_glob I hg hm ?_ hdb)
  refine PySem.W.callWith_K (h₀ := X.base) I.ok.mod.kin T.kC (thn (ha.run pos pins s σ H _ I h) fun us s1 ⟨vs, H1, I1, r1, hz, q1⟩ => ⟨I1.kIn, ?_⟩) he hpl
  show wpAny _ _ (call (.ref C) us) _ _ _
  obtain ⟨hp, g, dr, tk, os⟩ := s1
  generalize ha0 : hp.objs.size + 1 = a0
  have hsz : hp.objs.size ≤ a0 := by rw [← ha0]; exact Nat.le_succ _
  have hn : H1 a0 = none := I1.hok.fresh hsz
  have hq := q1 a0 hn
  generalize hh2 : (hp.push (PySem.W.kdv_tup us)).push (PySem.HandSPX.excO C hp.objs.size) = hp2
  have kk : ∀ b o, hp.get? b = some o → hp2.get? b = some o := fun b o e => by rw [← hh2]; exact Heap.get?_push_of_some _ (Heap.get?_push_of_some _ e)
  have hget : hp2.get? a0 = some (PySem.HandSPX.excO C hp.objs.size) := by rw [← hh2, ← ha0]; heap_get
  have I2 : Inv X pins σ (upd H1 a0 (exo a0 C none)) ⟨hp2, g, dr, tk, os⟩ := I1.laid (t' := tk) (a := a0) (o := exo a0 C none) (h' := hp2) kk hsz (exo_ok hget)
  have r2 : Vals (V.ref a0 :: (vs ++ dvs)) (Value.ref a0 :: (us ++ ds)) := .cons rfl (r1.append hd)
  have hl : (Value.ref a0 :: us ++ ds).length = ps.length := by
    have e := r2.length
    rw [F1.len _ _ _ _ hq] at e
    exact e.symm
  have hus : us.length ≤ sizeLine := by
    rw [← Paired.length r1, sizeLine_eq]
    omega
  refine wpAny_call ?_
  refine PySem.HandSPX.call_own F.excBase_ValueError (fun Y => PySem.HandSPX.refsVE_contains Y bm hbm) (I1.kIn _ _ hC) (PySem.W.looks_findIn I1.kIn iC) (fun self => PySem.W.bind_fn I1.kIn self tI) hus ?_
  rw [hh2, ha0]
  refine codeAny_mono (F1.run _ X.stack _ _ ⟨Value.ref a0 :: us, []⟩ (Value.ref a0 :: (us ++ ds)) _ _ (fun _ _ _ => False) (hr.make C us []) (I2.env0.make C us []) (hb _ (Value.ref a0 :: us) I2.kIn hl) r2 hq) fun r s' hq' => ?_
  cases r with
  | error er => exact hx pins σ _ _ er s' I2 hq'
  | ok fl =>
    cases fl with
    | ret u =>
      obtain ⟨v, H2, os2, bare2, un2, hok2, rv, ev, d, fs, ea, ed, hd1, q2⟩ := hq'
      subst ev
      obtain ⟨h2, g2, d2, t2, os'⟩ := s'
      obtain ⟨t0, G, J, kG, ge, hoe, na⟩ := mk_end0 (d2 := d2) (t2 := t2) I1 hsz kk un2 hok2 os2 bare2 ea ed hd1
      exact ⟨rv, a0, _, _, ⟨G, g2, d2, t2, os'⟩, _, .ref C, some d, rfl, J, kG, ge, hoe, ⟨rfl, rfl, fun vs hv => by cases hv; rfl⟩, rfl, rfl, na, rfl, bare2, raises_own T.exC T.tyC, q2⟩
    | next => exact False.elim hq'
    | brk => exact False.elim hq'
    | cont => exact False.elim hq'
end Fg
namespace Fg
open PySem PySem.Spec PyProof.Rows L2
section
variable {P : Program} {w : World} {K : PySem.W.Frag} {mg : Str → Option Value} {base : Heap} {x : Str} {st : Stmt} {N ps : List Str} {k : Nat} {sp : Sp}
theorem OK.mkXN (D : DefIn K mg x st ps) (S : FnScope N ps (defScope st)) (len : ∀ vs H Q E, sp vs H Q E → vs.length = ps.length)
    (body : ∀ (f : Addr) (cdv : Value) (A : Around) (outer : List Env) (s : Shared) (H : Hp) (vs : List V) (Q : VK) (E : XK), Room k (A.deeper (envOfC x (defScope st) s.heap.objs.size f cdv)) → sp vs H Q E →
      ∃ t, PSs (cxOf (L2N.CX P w) P w K mg base N x (defScope st) f cdv A outer s H E) (defBody st) t ∧ t { nx := fun _ H' => Q .non H', rt := Q } (start N vs) H) : OK P w K mg base (L2N.CX P w) (k + 1) x ps sp := by
  obtain ⟨f, fd, F, hm, hb⟩ := D
  exact ⟨f, fd, fun_okXN F S len fun cdv A outer s H vs Q E hr h => body f cdv A outer s H vs Q E hr h, hm, F.kp, hb⟩
end
theorem pmk_EN {X : Cx} {x f : Str} {C : Addr} {e : Expr} {ta : TA} {p pos : Pos} {k : Nat} (G : OKx X.prog X.w X.K X.mg X.base x f C) (hr : Room (k + 2) X.A) (ha : PA X [e] ta) (hg : Gl X x := by rfl) (hdb : (x == ("__debug__" : Str)) = false := by decide)
    (he : starEach [e] X.env = (false, eval e X.env) :: starEach [] X.env := by rfl) (hpl : (backTo pos (starEach [] X.env)).any (·.1) = false := by rfl) :
    L2N.PMk X (.Call (.Name x p) [e] [] pos) (tMkE C f ta) := by
  obtain ⟨hm, ox, noF, fI, fd, iC, tI, F, hb⟩ := G
  intro pins s σ H Q I h
  refine pmk_oexN (k := 1) (dvs := []) ox iC tI F (hr.mono (by omega)) hb .nil pass0 hg hm (pa_mono ha) hdb he hpl pins s σ H Q I ⟨_, h, fun vs H1 hq => ?_⟩
  obtain ⟨v, rfl, q⟩ := hq
  refine ⟨by show 1 ≤ 1000; omega, fun a na => ⟨.ref a, v, rfl, a, rfl, upd_same, fun dx nd ne => ⟨rfl, dx, [(f, v)], upd_same, ?_, ?_, ?_⟩⟩⟩
  · rw [upd_ne ne, upd_same]
  · rw [upd_ne ne] at nd; exact nd
  · have n2 : H1 dx = none := by rw [upd_ne ne] at nd; exact nd
    have e1 : upd (del (upd (upd (upd H1 a (exo a C none)) dx (exd dx [(f, v)])) a (exo a C (some dx))) a) dx (.xd [(f, v)]) = upd H1 dx (.xd [(f, v)]) := by
      funext b
      by_cases hb : b = dx
      · rw [hb, upd_same, upd_same]
      · rw [upd_ne hb, upd_ne hb]
        by_cases ha : b = a
        · rw [ha, del_same, na]
        · rw [del_ne ha, upd_ne ha, upd_ne hb, upd_ne ha]
    rw [e1]
    exact q dx n2
theorem ps_raisePN {X : Cx} {W : WX} {e : Expr} {t : L2.St → Hp → XK → Prop} {pos : Pos} (hc : X.calm = true) (tk : L2N.Takes X W) (he : L2N.PMk X e t) : PS X (.Raise (some e) none pos) (tRaiseP t W) := L2N.ps_raise hc tk he
end Fg
namespace Fg
open PySem PySem.Spec PyProof.Rows L2
def sp0 (p : Hp → VK → XK → Prop) : Sp := fun vs H Q E => vs = [] ∧ p H Q E
theorem i_sp0 {p : Hp → VK → XK → Prop} {H : Hp} {Q : VK} {E : XK} (q : p H Q E) : sp0 p ([] ++ []) H Q E := ⟨rfl, q⟩
theorem len0 {p : Hp → VK → XK → Prop} : ∀ vs H Q E, sp0 p vs H Q E → vs.length = ([] : List Str).length := by
  rintro vs H Q E ⟨rfl, _⟩; rfl
theorem pe_f0 {X : Cx} {CX : CXT} {k : Nat} {x : Str} {ps : List Str} {sp : Sp} {E : XK} {p pos : PySem.Pos} (G : OK X.prog X.w X.K X.mg X.base CX k x ps sp) (hr : Room k X.A) (hx : Passes CX X E) (hg : Gl X x := by rfl) (hd : (x == ("__debug__" : Str)) = false := by decide) :
    PE X (.Call (.Name x p) [] [] pos) (tCall sp [] E tNil) := by
  obtain ⟨f, fd, F, hm, hk, hb⟩ := G
  exact pe_call0 F hr hg hm hk hb .nil hx hd
section
variable {K : PySem.W.Frag} {σ : L2.St} {H G A : Hp} {Q : VK} {te tb tl : TE} {g : TG} {tt : TT} {vs : List Nat} {a : Addr} {xs : List V} {j : Nat}
/-- the list at Dl holds these data, beside what is known -/
structure Hid (A G : Hp) (Dl : Addr) (ds : List PyData) (G1 : Hp) : Prop where
  n : G Dl = none
  ex : ∃ A1 l, Ext A G A1 G1 ∧ A1 Dl = none ∧ G1 Dl = some (.lst l) ∧ AtAll A1 l ds
theorem Hid.new (sa : Same A G) (n : G a = none) : Hid A G a [] (upd G a (.lst [])) := by
  obtain ⟨h, A1, l, x, na, e, al⟩ := cw_start (f := fun _ => PyData.none) sa n
  exact ⟨h, A1, l, x, na, e, al⟩
/-- opened, then closed by what it holds now -/
theorem Hid.op {ds : List PyData} {Dl : Addr} {G1 : Hp} (h : Hid A G Dl ds G1) : ∃ A1 l, Ext A G A1 G1 ∧ G1 Dl = some (.lst l) ∧ AtAll A1 l ds ∧ l.length = ds.length ∧
    ∀ A2 G2, Ext A1 G1 A2 G2 → G2 Dl = some (.lst l) ∧ Hid A G Dl ds G2 ∧ ∀ es zs, AtAll A2 zs es → Hid A G Dl es (upd G2 Dl (.lst zs)) := by
  obtain ⟨n, A1, l, x, na, e, al⟩ := h
  refine ⟨A1, l, x, e, al, al.len, fun A2 G2 y => ⟨y.gg _ _ e, ⟨n, A2, l, x.trans y, y.free na (by rw [e]; simp), y.gg _ _ e, al.same y.aa⟩, fun es zs hz => ⟨n, A2, zs, (x.trans y).put n (y.free na (by rw [e]; simp)), y.free na (by rw [e]; simp), upd_same, hz⟩⟩⟩
theorem Hid.hid {ds : List PyData} {Dl p : Addr} {o : HO} {G1 : Hp} (h : Hid A G Dl ds G1) (n : G1 p = none) : Hid A G Dl ds (upd G1 p o) := by
  obtain ⟨A6, l6, x6, _, _, _, k6⟩ := h.op
  exact (k6 A6 _ ((Ext.refl x6.ag).hid n)).2.1
theorem Hid.cl {ds : List PyData} {Dl : Addr} {G1 : Hp} (h : Hid A G Dl ds G1) (sa : Same A G) (hl : ds.length ≤ 10000) : ∃ A1 l, Ext A G A1 G1 ∧ G1 Dl = some (.lst l) ∧ A1 Dl = some (.lst l) ∧ AtAll A1 l ds ∧ At A1 (.ref Dl) (.list ds) ∧ l.length = ds.length := by
  obtain ⟨n, A1, l, x, na, e, al⟩ := h
  have al2 := al.same (same_upd (o := .lst l) na)
  exact ⟨_, l, x.show n sa e, e, upd_same, al2, At.mkLst upd_same al2 hl, al.len⟩
end
end Fg
namespace Fg
open PySem PySem.Spec PyProof.Rows L2
/-- the entries of a dict after another one's are put into it -/
def allPut (kvs more : List (Key × V)) : List (Key × V) := more.foldl (fun acc e => putK acc e.1 e.2) kvs
theorem allPut_rel : ∀ {more : List (Key × V)} {ms : List (Key × Value)}, KV more ms → ∀ {kvs : List (Key × V)} {vs : List (Key × Value)}, KV kvs vs → KV (allPut kvs more) (merged vs ms)
  | [], _, m, _, _, r => by
    cases m
    exact r
  | (k, y) :: more, _, m, _, _, r => by
    cases m with
    | cons one rest =>
      rename_i q qs
      obtain ⟨k', u⟩ := q
      obtain ⟨e, ru⟩ := one
      have e : k = k' := e
      subst e
      exact allPut_rel rest (r.put k ru)
theorem allPut_len : ∀ (more kvs : List (Key × V)), (allPut kvs more).length ≤ kvs.length + more.length
  | [], _ => Nat.le_refl _
  | (k, y) :: more, kvs => by
    have one := length_putK kvs k y
    have rest := allPut_len more (putK kvs k y)
    show (allPut (putK kvs k y) more).length ≤ kvs.length + (more.length + 1)
    omega
section
variable {X : Cx} {pins : List (Addr × Obj)} {σ : L2.St} {H : Hp} {s : Shared} {a b : Addr} {kvs more : List (Key × V)} {A : Around} {E : Value → Shared → Prop}
theorem d_update {Q : Value → Shared → Prop} (I : Inv X pins σ H s) (ea : H a = some (.dK kvs)) (eb : H b = some (.dK more)) (ne : a ≠ b) (few : kvs.length + more.length ≤ sizeLine) (go : ∀ s', Inv X pins σ (upd H a (.dK (allPut kvs more))) s' → Q .none s') :
    wpAny (model X.prog X.w) A (call (.builtin "dict.update") [.ref a, .ref b]) Q E s := by
  obtain ⟨la, na, vs, relA, atA⟩ := dk_of I.hok ea
  obtain ⟨lb, nb, ms, relB, atB⟩ := dk_of I.hok eb
  have room : vs.length + ms.length ≤ sizeLine := by rw [← relA.length, ← relB.length]; exact few
  have size : (allPut kvs more).length ≤ sizeLine := Nat.le_trans (allPut_len more kvs) few
  refine call_meetsIn PySem.F.slot_dict_update atA.typeIs PySem.F.entry_dict_update (PySem.F.args_dict_update_2 _ _) (meets_dict_update (mixKind X.prog X.w) a b ne nb) ⟨vs, ms, atA, atB, room, fun h' now _ same => ?_⟩
  obtain ⟨o, _, _, there, _⟩ := id now
  exact go _ (d_write (t' := s.toks) I (by rw [ea]; trivial) same ⟨o, there⟩ (dk_new size na (allPut_rel relB relA) now))
end
def tDUp (td te : TE) : TE := fun σ H Q => td σ H fun x H1 => ∃ a, x = .ref a ∧ IsD H1 a ∧ te σ H1 fun y H2 => ∃ b kvs more, y = .ref b ∧ H2 a = some (.dK kvs) ∧ H2 b = some (.dK more) ∧ a ≠ b ∧ kvs.length + more.length ≤ sizeLine ∧ Q .non (upd H2 a (.dK (allPut kvs more)))
def rRst : V → List V → Hp → VK → Prop := fun x xs H Q => ∃ a b, x = .str a ∧ xs = [.str b] ∧ a.length ≤ sizeLine ∧ Q (.str (Txt.rstripChars a b)) H
def tRst (K : PySem.W.Frag) (to : TE) (t : TA) : TE := tBM K "str" rRst to t
section
variable {X : Cx} (K : PySem.W.Frag) {e o : Expr} {es : List Expr} {td te to : TE} {ta : TA} {pos apos cpos : Pos}
theorem peRst (ho : PE X o to) (ha : PA X (e :: es) ta) (h : X.K = K := by rfl) (base_ : attributeBase o "rstrip" X.env (eval o X.env) = eval o X.env := by rfl)
    (few : ((backTo cpos (starEach (e :: es) X.env)).all (fun x => !x.1) && (backToKw cpos (keywordEach [] X.env)).all (fun x => x.1.isSome) && decide ((e :: es).length + ([] : List Keyword).length + (if ([] : List Keyword).isEmpty then 0 else 1) < 30)) = true := by rfl)
    (line : (apos.endLine == cpos.line) = true := by rfl) (st : starEach (e :: es) X.env = (false, eval e X.env) :: starEach es X.env := by rfl) (plain : (backTo cpos (starEach es X.env)).any (·.1) = false := by rfl) :
    PE X (.Call (.Attribute o "rstrip" apos) (e :: es) [] cpos) (tRst K to ta) := h ▸ pe_bm PySem.F.plainAttrs_str PySem.F.slot_str_rstrip PySem.F.type_str_rstrip mt_rstripChars ho ha base_ few line st plain
end
section
variable {X : Cx} {e o : Expr} {td te : TE} {pos apos cpos : Pos}
theorem pe_dUp (ho : PE X o td) (he : PE X e te) (m : M1 X o "update" apos e cpos) : PE X (.Call (.Attribute o "update" apos) [e] [] cpos) (tDUp td te) := by
  refine ⟨fun pl s0 τ G Q J want => ?_⟩
  refine wpAny_Call_method m.base m.few m.line PySem.F.plainAttrs_dict PySem.F.slot_dict_update PySem.F.type_dict_update (thn (ho.run pl s0 τ G _ J want) fun u s1 ⟨x, H1, I1, rx, a, ex, d, more⟩ => ?_)
  cases ex
  cases (rx : u = Value.ref a)
  have kind := isD_at I1 d
  refine ⟨kind.1, kind.2.1, ?_⟩
  rw [m.trees]
  refine Calls.callWith_builtin rfl (Calls.evalArgs_plain (Calls.spliced_cons (thn (he.run pl s1 τ H1 _ I1 more) fun v s2 ⟨y, H2, I2, ry, b, kvs, ms, ey, ea, eb, ne, few, done⟩ => Calls.spliced_nil ?_)))
  cases ey
  cases (ry : v = Value.ref b)
  exact d_update I2 ea eb ne few fun s3 I3 => ⟨.non, _, I3, rfl, done⟩
end
section
variable {σ : L2.St} {H : Hp}
theorem i_pr {tk tv : TE} {r : List (TE × TE)} {Q : List (V × V) → Hp → Prop} (q : tk σ H fun x H1 => tv σ H1 fun y H2 => tPairs r σ H2 fun ps H3 => Q ((x, y) :: ps) H3) : tPairs ((tk, tv) :: r) σ H Q := q
theorem i_pr0 {Q : List (V × V) → Hp → Prop} (q : Q [] H) : tPairs [] σ H Q := q
theorem i_dispP {trs : List (TE × TE)} {Q : VK} (q : ∀ p, H p = none → tPairs trs σ (upd H p (.dK [])) fun ps H2 => H2 p = some (.dK []) ∧ ∃ kvs : List (Key × V), ps = kvs.map (fun kv => (kV kv.1, kv.2)) ∧ kvs.length ≤ 15 ∧ Q (.ref p) (upd H2 p (.dK (mergeK [] kvs)))) : tDisp trs σ H Q := q
theorem i_dup {td te : TE} {Q : VK} (q : td σ H fun x H1 => ∃ a, x = .ref a ∧ IsD H1 a ∧ te σ H1 fun y H2 => ∃ b kvs more, y = .ref b ∧ H2 a = some (.dK kvs) ∧ H2 b = some (.dK more) ∧ a ≠ b ∧ kvs.length + more.length ≤ sizeLine ∧ Q .non (upd H2 a (.dK (allPut kvs more)))) : tDUp td te σ H Q := q
end
end Fg
namespace Fg
open PySem PySem.Spec PyProof.Rows L2
section
variable {K : PySem.W.Frag} {σ : L2.St} {H : Hp} {Q : VK} {te tl : TE} {tt : TT} {j : Nat} {z : List Nat} {vs : List Nat}
theorem c_str (ha : ∀ R : VK, R (S z) H → tl σ H R) (hn : z.length ≤ 100000) (f : Nat → Bool) (v : Nat → V) (hw : ∀ x, wipe ((wipe σ vs).set j (some x)) vs = wipe σ vs)
    (ht : ∀ i c H2, z[i]? = some c → Same H H2 → ∀ QB : Bool → Hp → Prop, (∀ H3, Same H2 H3 → QB (f i) H3) → tt ((wipe σ vs).set j (some (S [c]))) H2 QB)
    (he : ∀ i c H2, z[i]? = some c → Same H H2 → f i = true → ∀ QV : VK, (∀ H3, Same H2 H3 → QV (v i) H3) → te ((wipe σ vs).set j (some (S [c]))) H2 QV)
    (q : ∀ Dl H2, H Dl = none → Same H H2 → H2 Dl = some (.lst (kept f v z.length)) → Q (.ref Dl) H2) : tLc (iAny K tl) (gName j) tt te vs σ H Q := by
  have e : (⟨z.toArray⟩ : Str).cps.size = z.length := str_len z
  refine ha _ (.inr (.inr ⟨_, rfl, fun Dl nD => ?_⟩))
  refine lc_it walk_str (Lw H Dl (kept f v)) ⟨nD, same_upd nD, upd_same⟩ (fun _ _ _ _ => True.intro) (fun i x H' H2 hi p y => ?_) (fun H' p => q Dl H' p.1 p.2.1 (by rw [e] at p; exact p.2.2))
  obtain ⟨rfl, c, hc, rfl⟩ := y
  have hc' : z[i]? = some c := by simpa using hc
  have hlt := (List.getElem?_eq_some_iff.mp hc').1
  exact ⟨hw _, lw_turn p (by omega) (fun H2 s2 => ht i c H2 hc' s2) (fun H2 s2 => he i c H2 hc' s2)⟩
/-- the signs that are kept -/
theorem c_strF (P : Nat → Bool) (ha : ∀ R : VK, R (S z) H → tl σ H R) (hn : z.length ≤ 100000) (hw : ∀ x, wipe ((wipe σ vs).set j (some x)) vs = wipe σ vs)
    (ht : ∀ c H2, c ∈ z → Same H H2 → ∀ QB : Bool → Hp → Prop, (∀ H3, Same H2 H3 → QB (P c) H3) → tt ((wipe σ vs).set j (some (S [c]))) H2 QB)
    (he : ∀ c H2, c ∈ z → Same H H2 → ∀ QV : VK, (∀ H3, Same H2 H3 → QV (S [c]) H3) → te ((wipe σ vs).set j (some (S [c]))) H2 QV)
    (q : ∀ Dl H2, H Dl = none → Same H H2 → H2 Dl = some (.lst ((z.filter P).map fun c => S [c])) → Q (.ref Dl) H2) : tLc (iAny K tl) (gName j) tt te vs σ H Q := by
  have key : ∀ n, n ≤ z.length → kept (fun i => P (z.getD i 0)) (fun i => S [z.getD i 0]) n = ((z.take n).filter P).map fun c => S [c] := fun n => by
    induction n with
    | zero => intro _; rfl
    | succ n ih =>
      intro hn
      have hg : z[n]? = some (z.getD n 0) := by rw [List.getD_eq_getElem?_getD, List.getElem?_eq_getElem (by omega)]; rfl
      have tk : z.take (n + 1) = z.take n ++ [z.getD n 0] := by rw [List.take_succ, hg]; rfl
      rw [tk, List.filter_append, List.map_append, ← ih (by omega)]
      cases hp : P (z.getD n 0) with
      | true => rw [kept_yes (f := fun i => P (z.getD i 0)) hp, List.filter_cons_of_pos hp]; rfl
      | false => rw [kept_no (f := fun i => P (z.getD i 0)) hp, List.filter_cons_of_neg (by rw [hp]; decide)]; simp
  have gd : ∀ {i c}, z[i]? = some c → z.getD i 0 = c := fun h => by rw [List.getD_eq_getElem?_getD, h]; rfl
  refine c_str ha hn (fun i => P (z.getD i 0)) (fun i => S [z.getD i 0]) hw (fun i c H2 hc s QB k => ht c H2 (List.mem_of_getElem? hc) s QB (by rw [gd hc] at k; exact k))
    (fun i c H2 hc s _ QV k => he c H2 (List.mem_of_getElem? hc) s QV (by rw [gd hc] at k; exact k)) fun Dl H2 n s e => q Dl H2 n s ?_
  rw [key _ (Nat.le_refl _), List.take_length] at e
  exact e
end
end Fg
namespace Fg
open PySem PySem.Spec PyProof.Rows L2
inductive Fin where
  | bad (k : Nat)
  | done (s : Stv)
abbrev Fr := Nat × List Stv × Stv
theorem items_fuel {z : List Nat} {ri : Nat → Res} (hi : Gd z ri) : ∀ (f f' a : Nat) (p : Stv), a ≤ z.length → z.length + 1 ≤ f + a → z.length + 1 ≤ f' + a → items ri z f a p = items ri z f' a p
  | 0, _, a, _, ha, h, _ => by omega
  | _ + 1, 0, a, _, ha, _, h => by omega
  | f + 1, f' + 1, a, p, ha, h, h' => by
    unfold items
    split
    · rfl
    · split
      · cases hr : ri a with
        | error k => rfl
        | ok se =>
          obtain ⟨s, e⟩ := se
          obtain ⟨g1, g2, _, _⟩ := hi a s e ha hr
          exact items_fuel hi f f' e (beh p s) g2 (by omega) (by omega)
      · rfl
theorem more_fuel {z : List Nat} {rq : Nat → Res} (hi : Gd z rq) : ∀ (f f' a : Nat) (ps : List Stv), a ≤ z.length → z.length + 1 ≤ f + a → z.length + 1 ≤ f' + a → more rq z f a ps = more rq z f' a ps
  | 0, _, a, _, ha, h, _ => by omega
  | _ + 1, 0, a, _, ha, _, h => by omega
  | f + 1, f' + 1, a, ps, ha, h, h' => by
    unfold more
    split
    · rename_i h38
      have hl := (List.getElem?_eq_some_iff.mp h38).1
      cases hr : rq (a + 1) with
      | error k => rfl
      | ok se =>
        obtain ⟨s, e⟩ := se
        obtain ⟨g1, g2, _, _⟩ := hi (a + 1) s e (by omega) hr
        exact more_fuel hi f f' e (ps ++ [s]) g2 (by omega) (by omega)
    · rfl
theorem items_succ (ri : Nat → Res) (z : List Nat) (f a : Nat) (p : Stv) : items ri z (f + 1) a p = match z[a]? with
    | none => .ok (p, a)
    | some c => if isStart c = true then goOn (fun s e => items ri z f e (beh p s)) (ri a) else .ok (p, a) := by
  conv => lhs; unfold items
  try (generalize z[a]? = o; cases o <;> rfl)
theorem more_succ (rq : Nat → Res) (z : List Nat) (f a : Nat) (ps : List Stv) : more rq z (f + 1) a ps = if z[a]? = some 38 then goOn (fun s e => more rq z f e (ps ++ [s])) (rq (a + 1)) else .ok (shown ps, a) := by
  conv => lhs; unfold more
  try rfl
def F (z : List Nat) (a : Nat) : Nat := z.length + 1 - a
def rItems (z : List Nat) (d a : Nat) (p : Stv) : Res := items (rdItem z d) z (F z a) a p
def rMore (z : List Nat) (d a : Nat) (ps : List Stv) : Res := more (Fg.part (rdItem z d) z) z (F z a) a ps
theorem rItems_eq {z : List Nat} {d a : Nat} {p : Stv} (ha : a ≤ z.length) : rItems z d a p = match z[a]? with
    | none => .ok (p, a)
    | some c => if isStart c = true then goOn (fun s e => rItems z d e (beh p s)) (rdItem z d a) else .ok (p, a) := by
  have e : F z a = z.length - a + 1 := by unfold F; omega
  unfold rItems
  rw [e, items_succ]
  cases hz : z[a]? with
  | none => rfl
  | some c =>
    dsimp only
    by_cases hs : isStart c = true
    · rw [if_pos hs, if_pos hs]
      cases hr : rdItem z d a with
      | error k => rfl
      | ok se =>
        obtain ⟨s, e'⟩ := se
        obtain ⟨g1, g2, _, _⟩ := rdItem_gd z d a s e' ha hr
        exact items_fuel (rdItem_gd z d) (z.length - a) (F z e') e' _ g2 (by omega) (by unfold F; omega)
    · rw [if_neg hs, if_neg hs]
theorem rMore_eq {z : List Nat} {d a : Nat} {ps : List Stv} (ha : a ≤ z.length) : rMore z d a ps = if z[a]? = some 38 then goOn (fun s e => rMore z d e (ps ++ [s])) (Fg.part (rdItem z d) z (a + 1)) else .ok (shown ps, a) := by
  have e : F z a = z.length - a + 1 := by unfold F; omega
  unfold rMore
  rw [e, more_succ]
  by_cases hs : z[a]? = some 38
  · rw [if_pos hs, if_pos hs]
    have hl := (List.getElem?_eq_some_iff.mp hs).1
    cases hr : Fg.part (rdItem z d) z (a + 1) with
    | error k => rfl
    | ok se =>
      obtain ⟨s, e'⟩ := se
      obtain ⟨g1, g2, _, _⟩ := part_gd (rdItem_gd z d) (a + 1) s e' (by omega) hr
      exact more_fuel (part_gd (rdItem_gd z d)) (z.length - a) (F z e') e' _ g2 (by omega) (by unfold F; omega)
  · rw [if_neg hs, if_neg hs]
theorem rPart_eq (z : List Nat) (d a : Nat) : Fg.part (rdItem z d) z a = goOn (partEnd z) (rItems z d a (0, [])) := rfl
theorem rd_more (z : List Nat) (d a : Nat) : rd z d a = goOn (fun s e => rMore z d e [s]) (Fg.part (rdItem z d) z a) := by rw [rd_eq]; rfl
/-- what the whole text tells -/
def told (z : List Nat) : Fin := match rd z 6 0 with
  | .error k => .bad k
  | .ok (s, e) => if e < z.length then .bad e else .done s
end Fg
namespace Fg
open PySem PySem.Spec PyProof.Rows L2
abbrev Sg := Nat × Nat
/-- what stands in a group, of items of a level -/
def Gr : Nat → Type
  | 0 => Empty
  | d + 1 => List (List (Sg ⊕ (Nat × Gr d)) × Nat)
abbrev ItG (G : Type) := Sg ⊕ (Nat × G)
abbrev PtG (G : Type) := List (ItG G) × Nat
section
variable {G : Type} (sg : G → Stv) (wg : G → List Nat) (vg : G → Prop)
def stI : ItG G → Stv
  | .inl (t, c) => rep (1, [c]) (max 1 t)
  | .inr (t, g) => rep (sg g) (max 1 t)
def stIs (is : List (ItG G)) : Stv := is.foldl (fun p i => beh p (stI sg i)) (0, [])
def stP (p : PtG G) : Stv := if 0 < p.2 then fillTo (stIs sg p.1) p.2 else stIs sg p.1
def stPs (ps : List (PtG G)) : Stv := shown (ps.map (stP sg))
def wN (t : Nat) : List Nat := if 0 < t then dec t else []
def wI : ItG G → List Nat
  | .inl (t, c) => wN t ++ [c]
  | .inr (t, g) => wN t ++ ([40] ++ (wg g ++ [41]))
def wIs (is : List (ItG G)) : List Nat := (is.map (wI wg)).flatten
def wF (f : Nat) : List Nat := if 0 < f then 64 :: dec f else []
def wP (p : PtG G) : List Nat := wIs wg p.1 ++ wF p.2
def wPs (ps : List (PtG G)) : List Nat := TL.joinL [38] (ps.map (wP wg))
def vI : ItG G → Prop
  | .inl (t, c) => c ∈ SG ∧ (t = 0 ∨ (2 ≤ t ∧ t ≤ 24))
  | .inr (t, g) => 2 ≤ t ∧ t ≤ 24 ∧ vg g
def vP (p : PtG G) : Prop := p.1 ≠ [] ∧ (∀ i ∈ p.1, vI vg i) ∧ (p.2 = 0 ∨ ((stIs sg p.1).1 ≤ p.2 ∧ p.2 ≤ 24))
def vPs (ps : List (PtG G)) : Prop := ps ≠ [] ∧ ∀ p ∈ ps, vP sg vg p
end
def stG : (d : Nat) → Gr d → Stv
  | 0, _ => (0, [])
  | d + 1, ps => stPs (stG d) ps
def wG : (d : Nat) → Gr d → List Nat
  | 0, _ => []
  | d + 1, ps => wPs (wG d) ps
def vG : (d : Nat) → Gr d → Prop
  | 0, _ => False
  | d + 1, ps => vPs (stG d) (vG d) ps
def Pos (s : Stv) : Prop := 1 ≤ s.1 ∧ (s.1 ≤ 24 → s.2.length = s.1)
section
variable {G : Type} {sg : G → Stv} {wg : G → List Nat} {vg : G → Prop}
theorem Pos.rep {s : Stv} {t : Nat} (h : Pos s) (ht : 1 ≤ t) : Pos (rep s t) := by
  refine ⟨Nat.mul_pos h.1 ht, fun e => ?_⟩
  have e : s.1 * t ≤ 24 := e
  have : s.1 ≤ s.1 * t := Nat.le_mul_of_pos_right _ ht
  show (rpt t s.2).length = s.1 * t
  rw [rpt_len, h.2 (by omega), Nat.mul_comm]
theorem stI_pos (hg : ∀ g, vg g → Pos (sg g)) {i : ItG G} (h : vI vg i) : Pos (stI sg i) := by
  cases i with
  | inl x => exact Pos.rep (s := (1, [x.2])) ⟨Nat.le_refl _, fun _ => rfl⟩ (by omega)
  | inr x => exact (hg _ h.2.2).rep (by omega)
theorem foldl_beh (is : List (ItG G)) : ∀ p : Stv, is.foldl (fun p i => beh p (stI sg i)) p = beh p (stIs sg is) := by
  induction is with
  | nil => intro p; show p = beh p (0, []); simp [beh]
  | cons i r ih =>
    intro p
    unfold stIs
    rw [List.foldl_cons, List.foldl_cons, ih, ih]
    simp [beh, Nat.add_assoc]
theorem stIs_cons (i : ItG G) (r : List (ItG G)) : stIs sg (i :: r) = beh (stI sg i) (stIs sg r) := by
  conv => lhs; unfold stIs
  rw [List.foldl_cons, foldl_beh]
  simp [beh]
theorem stIs_len (hg : ∀ g, vg g → Pos (sg g)) : ∀ {is : List (ItG G)}, (∀ i ∈ is, vI vg i) → ((stIs sg is).1 ≤ 24 → (stIs sg is).2.length = (stIs sg is).1) ∧ (is ≠ [] → 1 ≤ (stIs sg is).1)
  | [], _ => ⟨fun _ => rfl, fun h => absurd rfl h⟩
  | i :: r, h => by
    rw [stIs_cons]
    have h1 := stI_pos hg (h i List.mem_cons_self)
    have h2 := stIs_len hg (is := r) fun i hi => h i (List.mem_cons_of_mem _ hi)
    refine ⟨fun e => ?_, fun _ => Nat.le_trans h1.1 (Nat.le_add_right _ _)⟩
    have e : (stI sg i).1 + (stIs sg r).1 ≤ 24 := e
    show ((stI sg i).2 ++ (stIs sg r).2).length = (stI sg i).1 + (stIs sg r).1
    rw [List.length_append, h1.2 (by omega), h2.1 (by omega)]
theorem stP_pos (hg : ∀ g, vg g → Pos (sg g)) {p : PtG G} (h : vP sg vg p) : Pos (stP sg p) := by
  obtain ⟨h1, h2, h3⟩ := h
  have hs := stIs_len hg h2
  unfold stP
  by_cases hf : 0 < p.2
  · rw [if_pos hf]
    have h4 : (stIs sg p.1).1 ≤ p.2 ∧ p.2 ≤ 24 := h3.resolve_left (by omega)
    refine ⟨hf, fun _ => ?_⟩
    show ((stIs sg p.1).2 ++ List.replicate _ 46).length = p.2
    rw [List.length_append, List.length_replicate, hs.1 (by omega)]
    omega
  · rw [if_neg hf]
    exact ⟨hs.2 h1, hs.1⟩
theorem stPs_pos (hg : ∀ g, vg g → Pos (sg g)) {ps : List (PtG G)} (h : vPs sg vg ps) : Pos (stPs sg ps) := by
  refine ⟨lcmL_pos fun p hp => ?_, fun _ => showN_len _ _⟩
  obtain ⟨q, hq, rfl⟩ := List.mem_map.mp hp
  exact (stP_pos hg (h.2 q hq)).1
end
theorem stG_pos : ∀ d (g : Gr d), vG d g → Pos (stG d g)
  | 0, g, h => nomatch g
  | d + 1, ps, h => stPs_pos (stG_pos d) h
def Tx (z : List Nat) (a : Nat) (w : List Nat) : Prop := ∀ i < w.length, z[a + i]? = w[i]?
theorem Tx.left {z u v : List Nat} {a : Nat} (h : Tx z a (u ++ v)) : Tx z a u := fun i hi => by
  rw [h i (by rw [List.length_append]; omega), List.getElem?_append_left hi]
theorem Tx.right {z u v : List Nat} {a : Nat} (h : Tx z a (u ++ v)) : Tx z (a + u.length) v := fun i hi => by
  rw [Nat.add_assoc, h (u.length + i) (by rw [List.length_append]; omega), List.getElem?_append_right (by omega)]
  congr 1
  omega
theorem Tx.head {z r : List Nat} {a c : Nat} (h : Tx z a (c :: r)) : z[a]? = some c := h 0 (by rw [List.length_cons]; omega)
theorem Tx.tail {z r : List Nat} {a c : Nat} (h : Tx z a (c :: r)) : Tx z (a + 1) r := fun i hi => by
  rw [Nat.add_assoc, Nat.add_comm 1 i, h (i + 1) (by rw [List.length_cons]; omega)]
  rfl
theorem Tx.le {z w : List Nat} {a : Nat} (h : Tx z a w) (ha : a ≤ z.length) : a + w.length ≤ z.length := by
  by_cases hw : w.length = 0
  · omega
  · have := h (w.length - 1) (by omega)
    rw [List.getElem?_eq_getElem (show w.length - 1 < w.length by omega)] at this
    have := (List.getElem?_eq_some_iff.mp this).1
    omega
theorem run_tx {z : List Nat} : ∀ {u : List Nat} {a : Nat}, (∀ c ∈ u, c ∈ DG) → Tx z a u → (∀ c, z[a + u.length]? = some c → c ∉ DG) → run z a = u
  | [], a, _, _, h => run_stop (by simpa using h)
  | c :: r, a, hd, ht, h => by
    rw [run_step ht.head (hd c List.mem_cons_self), run_tx (fun c hc => hd c (List.mem_cons_of_mem _ hc)) ht.tail (by
      intro c' hc'
      exact h c' (by rw [List.length_cons, ← hc']; congr 1; omega))]
theorem dec_facts : ∀ t : Nat, t ≤ 24 → (∀ c ∈ dec t, c ∈ DG) ∧ (1 ≤ t → (dec t).take 1 ≠ [48]) ∧ num (dec t) = t ∧ 1 ≤ (dec t).length ∧ (dec t).length ≤ 2 := by decide
section
variable {G : Type} {sg : G → Stv} {wg : G → List Nat} {vg : G → Prop} {z : List Nat} {k : Nat}
/-- groups are read -/
def GrOk (sg : G → Stv) (wg : G → List Nat) (vg : G → Prop) (z : List Nat) (k : Nat) : Prop := ∀ g, vg g → ∀ a, Tx z a (wg g) → z[a + (wg g).length]? = some 41 → ∃ f, rpOf z k = some f ∧ f a = .ok (sg g, a + (wg g).length)
theorem item_tx (hg : GrOk sg wg vg z k) {i : ItG G} {a : Nat} (hv : vI vg i) (ht : Tx z a (wI wg i)) : rdItem z k a = .ok (stI sg i, a + (wI wg i).length) := by
  rw [rdItem_item]
  -- the number ahead
  have numb : ∀ (t c : Nat) (r : List Nat), (t = 0 ∨ (2 ≤ t ∧ t ≤ 24)) → c ∉ DG → Tx z a (wN t ++ (c :: r)) → run z a = wN t ∧ bd z a = a + (wN t).length ∧ z[bd z a]? = some c ∧ Tx z (bd z a + 1) r ∧ ¬ (run z a).take 1 = [48] ∧ ¬ (run z a ≠ [] ∧ within (run z a) 2 24 = false) ∧ timesOf (run z a) = max 1 t := fun t c r h hc htx => by
    have h0 : z[a + (wN t).length]? = some c := htx.right.head
    have hr : run z a = wN t := by
      refine run_tx (fun x hx => ?_) htx.left (fun x hx => by rw [h0] at hx; cases hx; exact hc)
      unfold wN at hx
      split at hx
      · exact (dec_facts t (by omega)).1 x hx
      · simp at hx
    have hb : bd z a = a + (wN t).length := by unfold bd; rw [hr]
    refine ⟨hr, hb, by rw [hb, h0], by rw [hb]; exact htx.right.tail, ?_, ?_, ?_⟩
    · rw [hr]
      unfold wN
      split
      · exact (dec_facts t (by omega)).2.1 (by omega)
      · simp
    · rw [hr]
      unfold wN
      split
      · obtain ⟨_, _, h3, h4, h5⟩ := dec_facts t (by omega)
        have : within (dec t) 2 24 = true := within_iff.mpr ⟨h4, h5, by omega, by omega⟩
        rw [this]; simp
      · simp
    · rw [hr]
      unfold wN timesOf
      split
      · obtain ⟨_, _, h3, h4, h5⟩ := dec_facts t (by omega)
        rw [if_neg (fun e => by rw [e] at h4; exact absurd h4 (by decide)), h3]
        omega
      · rw [if_pos rfl]; omega
  cases i with
  | inl x =>
    obtain ⟨t, c⟩ := x
    obtain ⟨hc, h⟩ := hv
    have hd : c ∉ DG := by
      revert hc
      simp only [List.mem_cons, List.not_mem_nil, or_false]
      omega
    have h40 : c ≠ 40 := fun e => by subst e; revert hc; decide
    obtain ⟨n1, n2, n3, n4, n5, n6, n7⟩ := numb t c [] h hd ht
    unfold item
    rw [if_neg n5, n3]
    dsimp only
    rw [if_neg (fun z => z.1 hc), if_neg n6, if_pos h40, n7, n2]
    show Except.ok (stI sg (.inl (t, c)), _) = _
    have : (wI wg (.inl (t, c))).length = (wN t).length + 1 := by show (wN t ++ [c]).length = _; rw [List.length_append]; rfl
    rw [this, Nat.add_assoc]
  | inr x =>
    obtain ⟨t, g⟩ := x
    obtain ⟨h1, h2, h3⟩ := hv
    obtain ⟨n1, n2, n3, n4, n5, n6, n7⟩ := numb t 40 (wg g ++ [41]) (.inr ⟨h1, h2⟩) (by decide) ht
    obtain ⟨f, e1, e2⟩ := hg g h3 (bd z a + 1) n4.left n4.right.head
    unfold item
    rw [if_neg n5, n3]
    dsimp only
    rw [if_neg (fun z => z.2 rfl), if_neg n6, if_neg (fun z => z rfl), n7, e1]
    dsimp only
    rw [e2]
    unfold close
    dsimp only
    rw [if_pos n4.right.head]
    have : (wI wg (.inr (t, g))).length = (wN t).length + 1 + (wg g).length + 1 := by
      show (wN t ++ ([40] ++ (wg g ++ [41]))).length = _
      simp only [List.length_append, List.length_singleton]
      omega
    rw [this, n2]
    show Except.ok (stI sg (.inr (t, g)), _) = _
    congr 2
    omega
theorem wI_start {i : ItG G} (hv : vI vg i) : ∃ c r, wI wg i = c :: r ∧ isStart c = true := by
  have key : ∀ (t : Nat) (x : Nat) (r : List Nat), (t = 0 ∨ (2 ≤ t ∧ t ≤ 24)) → (t = 0 → isStart x = true) → ∃ c r', wN t ++ (x :: r) = c :: r' ∧ isStart c = true := fun t x r h hx => by
    unfold wN
    split
    · obtain ⟨d1, _, _, h4, _⟩ := dec_facts t (by omega)
      cases hd : dec t with
      | nil => rw [hd] at h4; exact absurd h4 (by decide)
      | cons c r' =>
        refine ⟨c, _, rfl, ?_⟩
        have := d1 c (by rw [hd]; exact List.mem_cons_self)
        unfold isStart
        rw [decide_eq_true this, Bool.or_true]
    · exact ⟨x, r, rfl, hx (by omega)⟩
  cases i with
  | inl x =>
    refine key x.1 x.2 [] hv.2 fun _ => ?_
    unfold isStart
    rw [decide_eq_true hv.1]
    rfl
  | inr x => exact key x.1 40 _ (.inr ⟨hv.1, hv.2.1⟩) fun e => by have := hv.1; omega
theorem items_tx (hg : GrOk sg wg vg z k) : ∀ {is : List (ItG G)} {a : Nat} (p : Stv), a ≤ z.length → (∀ i ∈ is, vI vg i) → Tx z a (wIs wg is) → rItems z k a p = rItems z k (a + (wIs wg is).length) (is.foldl (fun p i => beh p (stI sg i)) p)
  | [], a, p, ha, _, _ => rfl
  | i :: r, a, p, ha, hv, ht => by
    have hi := hv i List.mem_cons_self
    have e : wIs wg (i :: r) = wI wg i ++ wIs wg r := by unfold wIs; rw [List.map_cons, List.flatten_cons]
    rw [e] at ht ⊢
    obtain ⟨c, r', hc, hs⟩ := wI_start (wg := wg) hi
    have hz : z[a]? = some c := by have := ht.left; rw [hc] at this; exact this.head
    rw [rItems_eq ha, hz]
    dsimp only
    rw [if_pos hs, item_tx hg hi ht.left]
    show rItems z k (a + (wI wg i).length) (beh p (stI sg i)) = _
    rw [items_tx hg _ (Tx.le ht.left ha) (fun i hi => hv i (List.mem_cons_of_mem _ hi)) ht.right, List.length_append, List.foldl_cons, Nat.add_assoc]
/-- what may stand behind a part -/
def Beh (o : Option Nat) : Prop := o = none ∨ o = some 38 ∨ o = some 41
theorem part_tx (hg : GrOk sg wg vg z k) (hpos : ∀ g, vg g → Pos (sg g)) {p : PtG G} {a : Nat} (ha : a ≤ z.length) (hv : vP sg vg p) (ht : Tx z a (wP wg p)) (hb : Beh z[a + (wP wg p).length]?) : Fg.part (rdItem z k) z a = .ok (stP sg p, a + (wP wg p).length) := by
  obtain ⟨h1, h2, h3⟩ := hv
  have hs := stIs_len hpos h2
  have hne := hs.2 h1
  rw [rPart_eq]
  unfold wP at ht hb ⊢
  have he : a + (wIs wg p.1).length ≤ z.length := Tx.le ht.left ha
  rw [items_tx hg (0, []) ha h2 ht.left]
  have eI : p.1.foldl (fun p i => beh p (stI sg i)) (0, []) = stIs sg p.1 := rfl
  rw [eI, rItems_eq he]
  have htr := ht.right
  unfold stP
  unfold wF at htr hb ⊢
  by_cases hf : 0 < p.2
  · rw [if_pos hf] at htr hb ⊢
    have hz := htr.head
    rw [hz]
    dsimp only
    rw [if_neg (by decide)]
    show partEnd z (stIs sg p.1) (a + (wIs wg p.1).length) = _
    unfold partEnd
    rw [if_neg (by omega), hz, if_pos rfl]
    have h4 : (stIs sg p.1).1 ≤ p.2 ∧ p.2 ≤ 24 := h3.resolve_left (by omega)
    obtain ⟨d1, d2, d3, d4, d5⟩ := dec_facts p.2 h4.2
    have hr : run z (a + (wIs wg p.1).length + 1) = dec p.2 := run_tx d1 htr.tail (fun c hc => by
      have e : a + (wIs wg p.1).length + 1 + (dec p.2).length = a + (wIs wg p.1 ++ 64 :: dec p.2).length := by rw [List.length_append, List.length_cons]; omega
      rw [e] at hc
      rcases hb with hb | hb | hb <;> rw [hb] at hc <;> cases hc <;> decide)
    unfold filled
    have w1 : within (dec p.2) (max 1 (stIs sg p.1).1) 24 = true := within_iff.mpr ⟨d4, d5, by omega, by omega⟩
    rw [hr, if_neg (fun e => by rw [e] at d4; exact absurd d4 (by decide)), if_neg (fun e => e.elim (d2 hf) (fun e => by rw [w1] at e; cases e)), d3, if_pos hf]
    have e : bd z (a + (wIs wg p.1).length + 1) = a + (wIs wg p.1 ++ 64 :: dec p.2).length := by unfold bd; rw [hr, List.length_append, List.length_cons]; omega
    rw [e]
  · rw [if_neg hf] at hb ⊢
    rw [if_neg hf, List.append_nil] at *
    rcases hb with hb | hb | hb
    all_goals
      rw [hb]
      show partEnd z (stIs sg p.1) (a + (wIs wg p.1).length) = _
      unfold partEnd
      rw [if_neg (by omega), hb, if_neg (by decide)]
theorem more_tx (hg : GrOk sg wg vg z k) (hpos : ∀ g, vg g → Pos (sg g)) : ∀ {ps : List (PtG G)} {a : Nat} (acc : List Stv), a ≤ z.length → (∀ p ∈ ps, vP sg vg p) → Tx z a (ps.flatMap fun p => 38 :: wP wg p) → (z[a + (ps.flatMap fun p => 38 :: wP wg p).length]? = none ∨ z[a + (ps.flatMap fun p => 38 :: wP wg p).length]? = some 41) →
    rMore z k a acc = .ok (shown (acc ++ ps.map (stP sg)), a + (ps.flatMap fun p => 38 :: wP wg p).length)
  | [], a, acc, ha, _, _, he => by
    rw [rMore_eq ha, if_neg (fun e => by
      have he : z[a]? = none ∨ z[a]? = some 41 := he
      rcases he with h | h <;> rw [h] at e <;> cases e), List.map_nil, List.append_nil]
    rfl
  | p :: r, a, acc, ha, hv, ht, he => by
    rw [List.flatMap_cons] at ht he ⊢
    have h0 := ht.left
    have hr := ht.right
    rw [rMore_eq ha, if_pos h0.head]
    have hl := Tx.le h0 ha
    rw [List.length_cons] at hl
    have e1 : a + 1 + (wP wg p).length = a + (38 :: wP wg p).length := by rw [List.length_cons]; omega
    have hb : Beh z[a + 1 + (wP wg p).length]? := by
      rw [e1]
      cases r with
      | nil =>
        rw [List.flatMap_nil, List.append_nil] at he
        rcases he with h | h
        · exact .inl h
        · exact .inr (.inr h)
      | cons p' r' =>
        rw [List.flatMap_cons] at hr
        exact .inr (.inl hr.left.head)
    rw [part_tx hg hpos (by omega) (hv p List.mem_cons_self) h0.tail hb]
    show rMore z k (a + 1 + (wP wg p).length) (acc ++ [stP sg p]) = _
    rw [e1]
    have e2 : a + ((38 :: wP wg p) ++ r.flatMap fun p => 38 :: wP wg p).length = a + (38 :: wP wg p).length + (r.flatMap fun p => 38 :: wP wg p).length := by rw [List.length_append]; omega
    rw [e2] at he ⊢
    rw [more_tx hg hpos (acc ++ [stP sg p]) (by rw [← e1]; omega) (fun p hp => hv p (List.mem_cons_of_mem _ hp)) hr he, List.append_assoc]
    rfl
theorem wPs_cons (p : PtG G) (r : List (PtG G)) : wPs wg (p :: r) = wP wg p ++ r.flatMap fun p => 38 :: wP wg p := by
  induction r generalizing p with
  | nil => show wP wg p = _; rw [List.flatMap_nil, List.append_nil]
  | cons q r ih =>
    have : wPs wg (p :: q :: r) = wP wg p ++ ([38] ++ wPs wg (q :: r)) := rfl
    rw [this, ih, List.flatMap_cons]
    rfl
theorem parts_tx (hg : GrOk sg wg vg z k) (hpos : ∀ g, vg g → Pos (sg g)) {ps : List (PtG G)} {a : Nat} (ha : a ≤ z.length) (hv : vPs sg vg ps) (ht : Tx z a (wPs wg ps)) (he : z[a + (wPs wg ps).length]? = none ∨ z[a + (wPs wg ps).length]? = some 41) : rd z k a = .ok (stPs sg ps, a + (wPs wg ps).length) := by
  obtain ⟨h1, h2⟩ := hv
  cases ps with
  | nil => exact absurd rfl h1
  | cons p r =>
    rw [wPs_cons] at ht he ⊢
    have hr := ht.right
    have hb : Beh z[a + (wP wg p).length]? := by
      cases r with
      | nil =>
        rw [List.flatMap_nil, List.append_nil] at he
        rcases he with h | h
        · exact .inl h
        · exact .inr (.inr h)
      | cons p' r' =>
        rw [List.flatMap_cons] at hr
        exact .inr (.inl hr.left.head)
    rw [rd_more, part_tx hg hpos ha (h2 p List.mem_cons_self) ht.left hb]
    show rMore z k (a + (wP wg p).length) [stP sg p] = _
    rw [List.length_append, ← Nat.add_assoc] at he ⊢
    exact more_tx hg hpos [stP sg p] (Tx.le ht.left ha) (fun p hp => h2 p (List.mem_cons_of_mem _ hp)) hr he
end
/-- the reader reads what is written -/
theorem read_ok : ∀ (d k : Nat), d ≤ k → ∀ (ps : Gr (d + 1)), vG (d + 1) ps → ∀ (z : List Nat) (a : Nat), a ≤ z.length → Tx z a (wG (d + 1) ps) → (z[a + (wG (d + 1) ps).length]? = none ∨ z[a + (wG (d + 1) ps).length]? = some 41) → rd z k a = .ok (stG (d + 1) ps, a + (wG (d + 1) ps).length)
  | 0, k, hk, ps, hv, z, a, ha, ht, he => parts_tx (sg := stG 0) (wg := wG 0) (vg := vG 0) (fun g => nomatch g) (fun g => nomatch g) ha hv ht he
  | d + 1, k, hk, ps, hv, z, a, ha, ht, he => by
    obtain ⟨k', rfl⟩ : ∃ k', k = k' + 1 := ⟨k - 1, by omega⟩
    refine parts_tx (sg := stG (d + 1)) (wg := wG (d + 1)) (vg := vG (d + 1)) (fun g hg b hb hc => ⟨rd z k', rfl, ?_⟩) (stG_pos (d + 1)) ha hv ht he
    have hbl : b ≤ z.length := by
      have := (List.getElem?_eq_some_iff.mp hc).1
      omega
    exact read_ok d k' (by omega) g hg z b hbl hb (.inr hc)
theorem told_ok (d : Nat) (hd : d ≤ 6) (ps : Gr (d + 1)) (hv : vG (d + 1) ps) : told (wG (d + 1) ps) = .done (stG (d + 1) ps) := by
  unfold told
  rw [read_ok d 6 hd ps hv _ 0 (by omega) (fun i hi => by rw [Nat.zero_add]) (.inl (List.getElem?_eq_none (by omega)))]
  dsimp only
  rw [if_neg (by omega)]
end Fg
namespace Fg
open PySem PySem.Spec PyProof.Rows L2
def Wf (ps : List Stv) (p : Stv) : Prop := (∀ x ∈ ps, 1 ≤ x.1 ∧ (x.1 ≤ 24 → x.2.length = x.1)) ∧ (p.1 ≤ 24 → p.2.length = p.1)
def wt (ps : List Stv) (p : Stv) : Nat := (lcmL ps + 1) * (p.1 + 1)
def WS : List Fr → Nat
  | [] => 1
  | (t, ps, p) :: r => t * wt ps p * WS r
structure WB (st : List Fr) (ps : List Stv) (p : Stv) (a : Nat) : Prop where
  wf : Wf ps p
  fr : ∀ f ∈ st, Wf f.2.1 f.2.2 ∧ 1 ≤ f.1 ∧ f.1 ≤ 24
  le : WS st * wt ps p ≤ 2 ^ (5 * a + 1)
theorem WS_pos {st : List Fr} (h : ∀ f ∈ st, Wf f.2.1 f.2.2 ∧ 1 ≤ f.1 ∧ f.1 ≤ 24) : 1 ≤ WS st := by
  induction st with
  | nil => exact Nat.le_refl _
  | cons f r ih =>
    obtain ⟨t, ps, p⟩ := f
    have h1 := (h _ List.mem_cons_self).2.1
    have h2 := ih fun f hf => h f (List.mem_cons_of_mem _ hf)
    have h3 : 1 ≤ wt ps p := Nat.mul_pos (Nat.succ_pos _) (Nat.succ_pos _)
    exact Nat.mul_pos (Nat.mul_pos h1 h3) h2
theorem pow_step {a b : Nat} (h : a < b) : 2 ^ (5 * a + 1) * 32 ≤ 2 ^ (5 * b + 1) := by
  have : 2 ^ (5 * a + 1) * 32 = 2 ^ (5 * (a + 1) + 1) := by rw [show 5 * (a + 1) + 1 = (5 * a + 1) + 5 by omega, Nat.pow_add _ _ 5]
  rw [this]
  exact Nat.pow_le_pow_right (by decide) (by omega)
/-- the weight grows by no more than the text -/
theorem WB.grow {st st' : List Fr} {ps ps' : List Stv} {p p' : Stv} {a b : Nat} (h : WB st ps p a) (hab : a < b) (h1 : Wf ps' p') (h2 : ∀ f ∈ st', Wf f.2.1 f.2.2 ∧ 1 ≤ f.1 ∧ f.1 ≤ 24)
    (h3 : WS st' * wt ps' p' ≤ WS st * wt ps p * 32) : WB st' ps' p' b :=
  ⟨h1, h2, Nat.le_trans h3 (Nat.le_trans (Nat.mul_le_mul_right _ h.le) (pow_step hab))⟩
theorem lcm_snoc_le {ps : List Stv} {p : Stv} (h : ∀ x ∈ ps, 1 ≤ x.1 ∧ (x.1 ≤ 24 → x.2.length = x.1)) (hp : p.1 ≠ 0) : lcmL (ps ++ [p]) + 1 ≤ wt ps p := by
  rw [lcmL_snoc]
  have := lcm_le_mul (lcmL_pos fun x hx => (h x hx).1) (show 1 ≤ p.1 by omega)
  unfold wt
  rw [Nat.add_mul, Nat.mul_add]
  omega
theorem beh_len {p s : Stv} (hp : p.1 ≤ 24 → p.2.length = p.1) (hs : s.1 ≤ 24 → s.2.length = s.1) : (beh p s).1 ≤ 24 → (beh p s).2.length = (beh p s).1 := fun h => by
  have h : p.1 + s.1 ≤ 24 := h
  show (p.2 ++ s.2).length = p.1 + s.1
  rw [List.length_append, hp (by omega), hs (by omega)]
theorem rep_lenS {s : Stv} {t : Nat} (hs : s.1 ≤ 24 → s.2.length = s.1) (t1 : 1 ≤ t) : (rep s t).1 ≤ 24 → (rep s t).2.length = (rep s t).1 := fun h => by
  have h : s.1 * t ≤ 24 := h
  have : s.1 ≤ s.1 * t := Nat.le_mul_of_pos_right _ t1
  show (rpt t s.2).length = s.1 * t
  rw [rpt_len, hs (by omega), Nat.mul_comm]
theorem WB.close {rest : List Fr} {ps ps' : List Stv} {p p' : Stv} {t a : Nat} (h : WB ((t, ps', p') :: rest) ps p a) (hp : p.1 ≠ 0) : WB rest ps' (beh p' (rep (shown (ps ++ [p])) t)) (a + 1) := by
  obtain ⟨f1, f2, f3⟩ := h.fr _ List.mem_cons_self
  refine h.grow (Nat.lt_succ_self _) ⟨f1.1, beh_len f1.2 (rep_lenS (fun _ => showN_len _ _) f2)⟩ (fun f hf => h.fr f (List.mem_cons_of_mem _ hf)) ?_
  have h1 := lcm_snoc_le h.wf.1 hp
  show WS rest * ((lcmL ps' + 1) * (p'.1 + lcmL (ps ++ [p]) * t + 1)) ≤ t * ((lcmL ps' + 1) * (p'.1 + 1)) * WS rest * wt ps p * 32
  generalize lcmL (ps ++ [p]) = L at *
  generalize wt ps p = W at *
  generalize WS rest = R
  generalize lcmL ps' + 1 = M
  have h2 : p'.1 + L * t + 1 ≤ t * (p'.1 + 1) * W := by
    have a1 : L * t + t ≤ t * W := by
      have := Nat.mul_le_mul_left t h1
      rw [Nat.mul_add, Nat.mul_one, Nat.mul_comm t L] at this
      exact this
    have a2 : t * W ≤ (p'.1 + 1) * (t * W) := Nat.le_mul_of_pos_left _ (Nat.succ_pos _)
    have a3 : (p'.1 + 1) * (t * W) = p'.1 * (t * W) + t * W := by rw [Nat.add_mul, Nat.one_mul]
    have a4 : p'.1 ≤ p'.1 * (t * W) := Nat.le_mul_of_pos_right _ (by have : t ≤ t * W := by omega
                                                                     omega)
    have a5 : t * (p'.1 + 1) * W = (p'.1 + 1) * (t * W) := by rw [Nat.mul_comm t, Nat.mul_assoc]
    rw [a5, a3]
    omega
  calc R * (M * (p'.1 + L * t + 1)) ≤ R * (M * (t * (p'.1 + 1) * W)) := Nat.mul_le_mul_left _ (Nat.mul_le_mul_left _ h2)
    _ = t * (M * (p'.1 + 1)) * R * W := by simp only [Nat.mul_comm, Nat.mul_left_comm, Nat.mul_assoc]
    _ ≤ t * (M * (p'.1 + 1)) * R * W * 32 := Nat.le_mul_of_pos_right _ (by decide)
theorem WB.part {st : List Fr} {ps : List Stv} {p p' : Stv} {a b : Nat} (h : WB st ps p a) (hab : a < b) (hl : p'.1 ≤ 24 → p'.2.length = p'.1) (h1 : p'.1 + 1 ≤ (p.1 + 1) * 32) : WB st ps p' b := by
  refine h.grow hab ⟨h.wf.1, hl⟩ h.fr ?_
  unfold wt
  calc WS st * ((lcmL ps + 1) * (p'.1 + 1)) ≤ WS st * ((lcmL ps + 1) * ((p.1 + 1) * 32)) := Nat.mul_le_mul_left _ (Nat.mul_le_mul_left _ h1)
    _ = WS st * ((lcmL ps + 1) * (p.1 + 1)) * 32 := by simp only [Nat.mul_assoc]
theorem WB.sign {st : List Fr} {ps : List Stv} {p : Stv} {a b c t : Nat} (h : WB st ps p a) (hab : a < b) (t1 : 1 ≤ t) (t2 : t ≤ 24) : WB st ps (beh p (rep (1, [c]) t)) b := by
  refine h.part hab (beh_len h.wf.2 (rep_lenS (fun _ => rfl) t1)) ?_
  show p.1 + 1 * t + 1 ≤ _
  rw [Nat.add_mul]; omega
theorem WB.big {st : List Fr} {ps : List Stv} {p : Stv} {a : Nat} (h : WB st ps p a) (hp : p.1 ≠ 0) (ha : a ≤ 1700) : Big (lcmL (ps ++ [p])) := by
  have h1 := lcm_snoc_le h.wf.1 hp
  have h2 : wt ps p ≤ WS st * wt ps p := Nat.le_mul_of_pos_left _ (WS_pos h.fr)
  have h3 : 2 ^ (5 * a + 1) ≤ 2 ^ 8600 := Nat.pow_le_pow_right (by decide) (by omega)
  exact Nat.lt_of_lt_of_le (Nat.lt_of_succ_le (Nat.le_trans h1 (Nat.le_trans h2 h.le))) h3
theorem WB.start : WB [] [] (0, []) 0 := ⟨⟨by simp, fun _ => rfl⟩, by simp, by decide⟩
def PL (H : Hp) (D : Addr) (ps : List Stv) : Prop := ∃ qs : List Addr, H D = some (.lst (qs.map V.ref)) ∧ PartsAt H qs ps
theorem PL.mono {H H' : Hp} {D : Addr} {ps : List Stv} (h : PL H D ps) (s : Same H H') : PL H' D ps := by
  obtain ⟨qs, h1, h2⟩ := h
  exact ⟨qs, s _ _ h1, h2.mono s⟩
theorem PartsAt.snoc {H : Hp} {qs : List Addr} {ps : List Stv} {q : Addr} {p : Stv} (h : PartsAt H qs ps) (hq : H q = some (Sv p.1 p.2)) : PartsAt H (qs ++ [q]) (ps ++ [p]) := by
  have hl := h.1
  refine ⟨by rw [List.length_append, List.length_append, hl]; rfl, fun i x y h1 h2 => ?_⟩
  by_cases hi : i < qs.length
  · rw [List.getElem?_append_left hi] at h1
    rw [List.getElem?_append_left (by omega)] at h2
    exact h.2 i x y h1 h2
  · rw [List.getElem?_append_right (by omega)] at h1
    rw [List.getElem?_append_right (by omega)] at h2
    have e0 : i - qs.length = 0 := by
      have := (List.getElem?_eq_some_iff.mp h1).1
      rw [List.length_singleton] at this
      omega
    rw [e0] at h1
    rw [show i - ps.length = 0 by omega] at h2
    cases h1; cases h2
    exact hq
def FA (H : Hp) (a : Addr) (f : Fr) : Prop := ∃ D q, H a = some (.tup [.int (f.1 : Int), .ref D, .ref q]) ∧ PL H D f.2.1 ∧ H q = some (Sv f.2.2.1 f.2.2.2)
theorem FA.mono {H H' : Hp} {a : Addr} {f : Fr} (h : FA H a f) (s : Same H H') : FA H' a f := by
  obtain ⟨D, q, h1, h2, h3⟩ := h
  exact ⟨D, q, s _ _ h1, h2.mono s, s _ _ h3⟩
/-- the frames of a stack, the last opened one last -/
inductive FS (H : Hp) : List Addr → List Fr → Prop where
  | nil : FS H [] []
  | cons {as : List Addr} {st : List Fr} {a : Addr} {f : Fr} : FS H as st → FA H a f → FS H (as ++ [a]) (f :: st)
theorem FS.mono {H H' : Hp} {as : List Addr} {st : List Fr} (h : FS H as st) (s : Same H H') : FS H' as st := by
  induction h with
  | nil => exact .nil
  | cons _ h2 ih => exact .cons ih (h2.mono s)
theorem FS.len {H : Hp} {as : List Addr} {st : List Fr} (h : FS H as st) : as.length = st.length := by
  induction h with
  | nil => rfl
  | cons _ _ ih => rw [List.length_append, ih]; rfl
def SL (H : Hp) (D : Addr) (st : List Fr) : Prop := ∃ as : List Addr, H D = some (.lst (as.map V.ref)) ∧ FS H as st
theorem SL.mono {H H' : Hp} {D : Addr} {st : List Fr} (h : SL H D st) (s : Same H H') : SL H' D st := by
  obtain ⟨as, h1, h2⟩ := h
  exact ⟨as, s _ _ h1, h2.mono s⟩
end Fg
namespace Fg
open PySem PySem.Spec PyProof.Rows L2
inductive F2 {α β : Type} (R : α → β → Prop) : List α → List β → Prop where
  | nil : F2 R [] []
  | cons {a : α} {b : β} {as : List α} {bs : List β} : R a b → F2 R as bs → F2 R (a :: as) (b :: bs)
theorem F2.imp {α β : Type} {R R' : α → β → Prop} (h : ∀ a b, R a b → R' a b) : ∀ {as : List α} {bs : List β}, F2 R as bs → F2 R' as bs
  | _, _, .nil => .nil
  | _, _, .cons h1 h2 => .cons (h _ _ h1) (h2.imp h)
theorem F2.len {α β : Type} {R : α → β → Prop} : ∀ {as : List α} {bs : List β}, F2 R as bs → as.length = bs.length
  | _, _, .nil => rfl
  | _, _, .cons _ h2 => by rw [List.length_cons, List.length_cons, h2.len]
theorem F2.get {α β : Type} {R : α → β → Prop} : ∀ {as : List α} {bs : List β}, F2 R as bs → ∀ (i : Nat) (a : α), as[i]? = some a → ∃ b, bs[i]? = some b ∧ R a b
  | _, _, .nil, i, a, h => by simp at h
  | _, _, .cons h1 h2, 0, a, h => by cases h; exact ⟨_, rfl, h1⟩
  | _, _, .cons h1 h2, i + 1, a, h => h2.get i a h
theorem F2.snoc {α β : Type} {R : α → β → Prop} {a : α} {b : β} : ∀ {as : List α} {bs : List β}, F2 R as bs → R a b → F2 R (as ++ [a]) (bs ++ [b])
  | _, _, .nil, h => .cons h .nil
  | _, _, .cons h1 h2, h => .cons h1 (h2.snoc h)
theorem F2.app {α β : Type} {R : α → β → Prop} : ∀ {as : List α} {bs : List β} {cs : List α} {ds : List β}, F2 R as bs → F2 R cs ds → F2 R (as ++ cs) (bs ++ ds)
  | _, _, _, _, .nil, h => h
  | _, _, _, _, .cons h1 h2, h => .cons h1 (h2.app h)
section
variable {G : Type} (rg : Hp → V → G → Prop)
def RI (H : Hp) (v : V) : ItG G → Prop
  | .inl (t, c) => ∃ a, v = .ref a ∧ H a = some (.tup [.int (t : Int), S [c]])
  | .inr (t, g) => ∃ a w, v = .ref a ∧ H a = some (.tup [.int (t : Int), w]) ∧ rg H w g
def RIs (H : Hp) (v : V) (is : List (ItG G)) : Prop := ∃ a vs, v = .ref a ∧ H a = some (.lst vs) ∧ F2 (RI rg H) vs is
def RP (H : Hp) (v : V) (p : PtG G) : Prop := ∃ a w, v = .ref a ∧ H a = some (.tup [w, .int (p.2 : Int)]) ∧ RIs rg H w p.1
def RPs (H : Hp) (v : V) (ps : List (PtG G)) : Prop := ∃ a vs, v = .ref a ∧ H a = some (.lst vs) ∧ F2 (RP rg H) vs ps
def Mn : Prop := ∀ H H' v g, rg H v g → Same H H' → rg H' v g
end
section
variable {G : Type} {rg : Hp → V → G → Prop} {H H' : Hp} {v : V}
theorem RI.mono (m : Mn rg) {i : ItG G} (h : RI rg H v i) (s : Same H H') : RI rg H' v i := by
  cases i with
  | inl x => obtain ⟨a, h1, h2⟩ := h; exact ⟨a, h1, s _ _ h2⟩
  | inr x => obtain ⟨a, w, h1, h2, h3⟩ := h; exact ⟨a, w, h1, s _ _ h2, m _ _ _ _ h3 s⟩
theorem RIs.mono (m : Mn rg) {is : List (ItG G)} (h : RIs rg H v is) (s : Same H H') : RIs rg H' v is := by
  obtain ⟨a, vs, h1, h2, h3⟩ := h
  exact ⟨a, vs, h1, s _ _ h2, h3.imp fun _ _ h => h.mono m s⟩
theorem RP.mono (m : Mn rg) {p : PtG G} (h : RP rg H v p) (s : Same H H') : RP rg H' v p := by
  obtain ⟨a, w, h1, h2, h3⟩ := h
  exact ⟨a, w, h1, s _ _ h2, h3.mono m s⟩
theorem RPs.mono (m : Mn rg) {ps : List (PtG G)} (h : RPs rg H v ps) (s : Same H H') : RPs rg H' v ps := by
  obtain ⟨a, vs, h1, h2, h3⟩ := h
  exact ⟨a, vs, h1, s _ _ h2, h3.imp fun _ _ h => h.mono m s⟩
end
section
variable {G : Type} {sg : G → Stv} {wg : G → List Nat}
end
end Fg
namespace Fg
open PySem PySem.Spec PyProof.Rows L2
/-- the shorter one, or the one ahead by its signs -/
def slt (i : Int) (l : List Nat) (j : Int) (m : List Nat) : Bool := if i = j then decide (l < m) else decide (i < j)
theorem str_beq (l m : List Nat) : ((⟨l.toArray⟩ : Str) == ⟨m.toArray⟩) = decide (l = m) := by
  rw [Bool.eq_iff_iff, beq_iff_eq, decide_eq_true_eq]
  constructor
  · intro h
    exact List.toArray_inj (congrArg PySem.Str.cps h)
  · rintro rfl; rfl
theorem int_beq (i j : Int) : (i == j) = decide (i = j) := by rw [Bool.eq_iff_iff, beq_iff_eq, decide_eq_true_eq]
theorem rc_pair_lt {A : Around} {s : Shared} {a b : Addr} {i j : Int} {l m : List Nat} {its its2 : List Value} (r1 : Vals [V.int i, S l] its) (r2 : Vals [V.int j, S m] its2) (h1 : s.heap.IsTuple a its.toArray) (h2 : s.heap.IsTuple b its2.toArray) (hu : A.units < cLine) :
    Ob.RcOp .Lt A s (.ref a) (.ref b) (slt i l j m) := by
  obtain ⟨x1, x2, rfl, ⟨t1, rfl⟩, ⟨t2, rfl⟩⟩ := vals2 r1
  obtain ⟨y1, y2, rfl, ⟨u1, rfl⟩, ⟨u2, rfl⟩⟩ := vals2 r2
  have R := Ob.RcOp.tuples_lt (A := A) (s := s) (e := fun n => if n = 0 then decide (i = j) else decide (l = m)) (r := fun n => if n = 0 then decide (i < j) else decide (l < m)) h1 h2 hu
    (fun n g1 g2 => by
      match n, g1, g2 with
      | 0, _, _ =>
        show SeqAt.EqAt A.in1 s (.int i t1) (.int j u1) (decide (i = j))
        rw [← int_beq]; exact SeqAt.EqAt.int_int _ _ _ _
      | 1, _, _ =>
        show SeqAt.EqAt A.in1 s (.str ⟨l.toArray⟩ t2) (.str ⟨m.toArray⟩ u2) (decide (l = m))
        rw [← str_beq]; exact SeqAt.EqAt.str_str _ _ _ _)
    (fun n g1 g2 _ => by
      match n, g1, g2 with
      | 0, _, _ => exact Ob.RcOp.lt_int _ _ _ _
      | 1, _, _ =>
        show Ob.RcOp .Lt A.in1 s (.str ⟨l.toArray⟩ t2) (.str ⟨m.toArray⟩ u2) (decide (l < m))
        exact fun prog w E Q h => lt_str (by simpa using h))
  have e : Ob.lexAt (fun n => if n = 0 then decide (i = j) else decide (l = m)) (fun n => if n = 0 then decide (i < j) else decide (l < m)) (decide (2 < 2)) 0 2 = slt i l j m := by
    rw [Ob.lexAt_succ, Ob.lexAt_succ, Ob.lexAt_zero]
    unfold slt
    by_cases hij : i = j <;> by_cases hs : l = m <;> simp [hij, hs, List.lt_irrefl]
  rw [← e]
  exact R
structure Tmp (X : Cx) (pins : List (Addr × Obj)) (it : Addr) : Prop where
  loc : it ≠ X.env.locals
  fs : it ∉ X.fs
  sz : X.s_0.heap.objs.size ≤ it
  cell : ∀ x c, X.env.cells.lookup x = some c → c ≠ it
  pin : ∀ p ∈ X.pn ++ pins, p.1 ≠ it
section
variable {X : Cx} {pins ps : List (Addr × Obj)} {σ : L2.St} {H : Hp} {s : Shared} {it : Addr} {o o' : Obj} {h' : Heap}
theorem Tmp.new (I : Inv X pins σ H s) (h : s.heap.objs.size ≤ it) : Tmp X pins it := by
  refine ⟨Nat.ne_of_gt (Nat.lt_of_lt_of_le I.lt h), I.nofs h, Nat.le_trans I.sz h, fun x c e => ?_, fun p hp => ?_⟩
  · obtain ⟨v, o, ho, _⟩ := I.cell x c e
    exact Nat.ne_of_lt (Nat.lt_of_lt_of_le (Heap.lt_size ho) h)
  · exact Nat.ne_of_lt (Nat.lt_of_lt_of_le (Heap.lt_size (I.pin p hp).1) h)
theorem Tmp.more (t : Tmp X ps it) (h : ∀ p ∈ pins, p.1 ≠ it) : Tmp X (pins ++ ps) it := ⟨t.loc, t.fs, t.sz, t.cell, fun p hp => by
  rcases List.mem_append.mp hp with hp | hp
  · exact t.pin p (List.mem_append_left _ hp)
  · rcases List.mem_append.mp hp with hp | hp
    · exact h p hp
    · exact t.pin p (List.mem_append_right _ hp)⟩
/-- a temporary has changed -/
theorem inv_tmp {t' : Nat} (I : Inv X ((it, o) :: ps) σ H s) (t : Tmp X ps it) (k : ∀ b u, b ≠ it → s.heap.get? b = some u → h'.get? b = some u) (hn : h'.get? it = some o') (hd : ∀ v, o'.data ≠ .cell v) : Inv X ((it, o') :: ps) σ H { s with heap := h', toks := t' } := by
  have e0 := I.pin (it, o) (List.mem_append_right _ List.mem_cons_self)
  have I1 : Inv X ps σ H s := I.pins_of fun p hp => I.pin p (List.mem_append_right _ (List.mem_cons_of_mem _ hp))
  have I2 : Inv X ps σ H { s with heap := h', toks := t' } := I1.turned k e0.2.1 t.loc (.inr t.sz) t.cell t.pin
  refine I2.pins_of fun p hp => ?_
  rcases List.mem_cons.mp hp with rfl | hp
  · exact ⟨hn, e0.2.1, t.loc, t.fs, hd⟩
  · exact I2.pin p (List.mem_append_right _ hp)
theorem inv_unpin (I : Inv X ((it, o) :: ps) σ H s) : Inv X ps σ H s := I.pins_of fun p hp => I.pin p (List.mem_append_right _ (List.mem_cons_of_mem _ hp))
theorem inv_swap {q : Addr × Obj} (I : Inv X ((it, o) :: q :: ps) σ H s) : Inv X (q :: (it, o) :: ps) σ H s := I.pins_of fun p hp => I.pin p (List.mem_append_right _ (by
  rcases List.mem_cons.mp hp with rfl | hp
  · exact List.mem_cons_of_mem _ List.mem_cons_self
  · rcases List.mem_cons.mp hp with rfl | hp
    · exact List.mem_cons_self
    · exact List.mem_cons_of_mem _ (List.mem_cons_of_mem _ hp)))
end
/-- m is ahead of all -/
def lt2 (a b : List Nat) : Prop := slt (a.length : Int) a (b.length : Int) b = true
def KeyOk (p : P1) (H : Hp) (xs : List (List Nat)) : Prop := ∀ H' x, Same H H' → x ∈ xs → ∀ Q' : VK, (∀ q, H' q = none → Q' (.ref q) (upd H' q (.tup [.int (x.length : Int), S x]))) → p (S x) H' Q' E0
section
variable {X : Cx} {pins : List (Addr × Obj)} {σ : L2.St} {H : Hp} {f a I S' : Addr} {fd : FuncData} {px : Str} {p : P1} {k : Nat} {xs : List (List Nat)} {R : Result → Shared → Prop}
theorem mk_loop (F : FnOk X.prog X.w X.K X.mg X.base CX0 k f fd [px] (sp1 p)) (hb : Binds X.K fd [px] []) (hr : Room (k + 1) X.A) (hs : SqL X.K H a (xs.map S)) (hk : KeyOk p H xs) (tI : Tmp X pins I) (tS : Tmp X pins S') (hIS : I ≠ S') (hIa : I ≠ a)
    (hR : ∀ (m : List Nat) (v : Value) H' s', m ∈ xs → (∀ y ∈ xs, ¬ lt2 y m) → RelV (S m) v → Inv X pins σ H' s' → Same H H' → R (.ok (.ret v)) s') :
    ∀ (r j i : Nat) (s : Shared) (H1 : Hp) (m : List Nat) (vb : Value) (q : Addr) (c : Nat) (oI : Obj), xs.length - (j + 1) = r → j + 1 ≤ xs.length → Inv X ((S', seqObj "list" #[vb, .ref q] c) :: (I, oI) :: pins) σ H1 s → Same H H1 → RelV (S m) vb → H1 q = some (.tup [.int (m.length : Int), S m]) →
      s.heap.IsListIter I a (j + 1) → xs[i]? = some m → i ≤ j → (∀ j' y, j' ≤ j → xs[j']? = some y → ¬ lt2 y m) →
      codeAny (model X.prog X.w) X.A (.builtin "min.loop" ⟨[.ref I, .ref f, .ref S'], []⟩) R s := by
  have hname : (toString "min" ++ toString ".loop" : String) = "min.loop" := by decide
  intro r
  induction r with
  | zero =>
    intro j i s H1 m vb q c oI hr' hj J sm rv hq hit hm hij hbest
    obtain ⟨its, rvs, pl, hz⟩ := J.list (sm.seq hs)
    have hlen : its.length = xs.length := by have := rvs.length; rw [List.length_map] at this; exact this.symm
    have W := Walks.list (prog := X.prog) (w := X.w) (A := X.A.in1) hr.hd I a (Ne.symm hIa) its.toArray
    have hsz : its.toArray.size = xs.length := by rw [List.size_toArray]; exact hlen
    have nS := J.pin _ (List.mem_append_right _ List.mem_cons_self)
    refine codeAny_builtin PySem.F.entry_min_loop ?_
    rw [Around.under_plainId PySem.F.plain_min_loop _]
    show wpAny _ X.A.in1 (seqItems? (.ref S') >>= _) _ _ _
    refine wpAny_bind (wpAny_seqItems nS.1 rfl ?_)
    show wpAny _ X.A.in1 (tryCatch (pyNext (.ref I)) _ >>= _) _ _ _
    refine wpAny_bind (wpAny_tryCatch (W.done _ _ _ ⟨by rw [hsz, show xs.length = j + 1 by omega]; exact hit, pl.isList⟩ fun h' tk' hk' => ?_))
    have J1 : Inv X pins σ H1 { s with heap := h', toks := tk' } := (inv_unpin (inv_unpin J)).turned (fun b u hb e => hk' b u (fun z => hb (by simpa using z)) e) (J.pin (I, oI) (List.mem_append_right _ (List.mem_cons_of_mem _ List.mem_cons_self))).2.1 tI.loc (.inr tI.sz) tI.cell tI.pin
    have hS1 := hk' S' _ (by simpa using Ne.symm hIS) nS.1
    have s1 := Heap.SameBut.update h' S' (Obj.mapSeq fun _ => (#[] : Array Value))
    show wpAny _ X.A.in1 (updateSeq S' (fun _ => #[]) >>= _) _ _ _
    refine wpAny_bind ?_
    refine wpAny_updateSeq hS1 rfl (wpAny_bind (wpAny_letGo (wpAny_pure ?_)))
    refine hR m vb H1 _ (List.mem_of_getElem? hm) (fun y hy => ?_) rv (J1.turned (fun b u hb e => (s1.2 b hb).trans e) nS.2.1 tS.loc (.inr tS.sz) tS.cell tS.pin) sm
    obtain ⟨j', hj', e⟩ := List.mem_iff_getElem.mp hy
    exact hbest j' y (by omega) (by rw [List.getElem?_eq_getElem hj', e])
  | succ r ih =>
    intro j i s H1 m vb q c oI hr' hj J sm rv hq hit hm hij hbest
    obtain ⟨its, rvs, pl, hz⟩ := J.list (sm.seq hs)
    have hlen : its.length = xs.length := by have := rvs.length; rw [List.length_map] at this; exact this.symm
    have W := Walks.list (prog := X.prog) (w := X.w) (A := X.A.in1) hr.hd I a (Ne.symm hIa) its.toArray
    have hsz : its.toArray.size = xs.length := by rw [List.size_toArray]; exact hlen
    have nS := J.pin _ (List.mem_append_right _ List.mem_cons_self)
    have hlt : j + 1 < xs.length := by omega
    refine codeAny_builtin PySem.F.entry_min_loop ?_
    rw [Around.under_plainId PySem.F.plain_min_loop _]
    show wpAny _ X.A.in1 (seqItems? (.ref S') >>= _) _ _ _
    refine wpAny_bind (wpAny_seqItems nS.1 rfl ?_)
    show wpAny _ X.A.in1 (tryCatch (pyNext (.ref I)) _ >>= _) _ _ _
    refine wpAny_bind (wpAny_tryCatch (W.item (j + 1) _ _ _ (by rw [hsz]; exact hlt) ⟨hit, pl.isList⟩ fun v h' tk' hP hst' hk' => ?_))
    have hv : its[j + 1]? = some v := by simpa using hP
    obtain ⟨oI', hoI', hoc, hod⟩ := id hst'.1
    obtain ⟨x, hx⟩ : ∃ x, xs[j + 1]? = some x := ⟨_, List.getElem?_eq_getElem hlt⟩
    have rx : RelV (S x) v := by
      obtain ⟨u, hu, ru⟩ := rvs.get (i := j + 1) (x := S x) (by rw [List.getElem?_map, hx]; rfl)
      rw [hv] at hu
      cases hu
      exact ru
    have J1 : Inv X ((I, oI') :: (S', seqObj "list" #[vb, .ref q] c) :: pins) σ H1 { s with heap := h', toks := tk' } :=
      inv_tmp (inv_swap J) (tI.more (pins := [(S', seqObj "list" #[vb, .ref q] c)]) (fun p hp => by rw [List.mem_singleton.mp hp]; exact Ne.symm hIS)) (fun b u hb e => hk' b u (fun z => hb (by simpa using z)) e) hoI' (fun v z => by rw [hod] at z; cases z)
    show wpAny _ X.A.in1 (tryCatch (holding [v] (call (.ref f) [v])) _ >>= _) _ _ _
    have hmx : x ∈ xs := List.mem_of_getElem? hx
    have turn : wpAny (model X.prog X.w) X.A.in1 (call (.ref f) [v]) (EP X ((I, oI') :: (S', seqObj "list" #[vb, .ref q] c) :: pins) σ (fun y H2 => ∃ q2, H1 q2 = none ∧ y = .ref q2 ∧ H2 = upd H1 q2 (.tup [.int (x.length : Int), S x]))) (fun _ _ => False) { s with heap := h', toks := tk' } := by
      refine wpAny_call (codeAny_mono (F.run X.A.in1 X.stack _ H1 ⟨[v], []⟩ [v] [S x] _ E0 hr.in1 J1.env0.in1 (hb _ [v] J1.kIn rfl) (.cons rx .nil) ⟨S x, rfl, hk H1 x sm hmx (fun y H2 => ∃ q2, H1 q2 = none ∧ y = .ref q2 ∧ H2 = upd H1 q2 (.tup [.int (x.length : Int), S x])) fun q2 n2 => ⟨q2, n2, rfl, rfl⟩⟩) fun r' s' hq' => ?_)
      cases r' with
      | error e => exact False.elim hq'
      | ok fl =>
        cases fl with
        | ret u => exact J1.after hq'
        | next => exact False.elim hq'
        | brk => exact False.elim hq'
        | cont => exact False.elim hq'
    refine wpAny_bind (wpAny_tryCatch (wpAny_holding (wpAny_mono turn (fun u s2 he => ?_) fun _ _ hF => hF.elim)))
    obtain ⟨y, H2, J2, ry, q2, n2, rfl, rfl⟩ := he
    obtain rfl : u = Value.ref q2 := ry
    have hq2 : (upd H1 q2 (.tup [.int (x.length : Int), S x])) q = some (.tup [.int (m.length : Int), S m]) := (upd_ne (ne_of_none hq n2)).trans hq
    have nS2 := J2.pin (S', seqObj "list" #[vb, .ref q] c) (List.mem_append_right _ (List.mem_cons_of_mem _ List.mem_cons_self))
    have nI2 := J2.pin (I, oI') (List.mem_append_right _ List.mem_cons_self)
    have hit2 : s2.heap.IsListIter I a (j + 1 + 1) := ⟨oI', nI2.1, hoc, hod⟩
    obtain ⟨i1, r1, p1, _⟩ := J2.tuple (xs := [.int (x.length : Int), S x]) (SqT.of upd_same)
    obtain ⟨i2, r2, p2, _⟩ := J2.tuple (xs := [.int (m.length : Int), S m]) (SqT.of hq2)
    have hu : X.A.in1.units < cLine := hr.in1.units0
    have sm2 : Same H (upd H1 q2 (.tup [.int (x.length : Int), S x])) := sm.trans (same_upd n2)
    have irr : ∀ y : List Nat, ¬ lt2 y y := fun y h => by
      unfold lt2 slt at h
      rw [if_pos rfl] at h
      exact List.lt_irrefl _ (of_decide_eq_true h)
    show wpAny _ X.A.in1 (tryCatch (holding [v, .ref q2] (richCompare .Lt (.ref q2) (.ref q) >>= _)) _ >>= _) _ _ _
    refine wpAny_bind (wpAny_tryCatch (wpAny_holding (wpAny_bind (rc_pair_lt r1 r2 p1 p2 hu X.prog X.w _ _ ?_))))
    refine wpAny_bind (wpAny_holding (wpAny_truthy_bool ?_))
    refine wpAny_bind (wpAny_letGo (wpAny_pure ?_))
    by_cases hb' : slt (x.length : Int) x (m.length : Int) m = true
    · have s1 := Heap.SameBut.update s2.heap S' (Obj.mapSeq fun _ => #[v, .ref q2])
      obtain ⟨c2, hc2⟩ : ∃ c2, (s2.heap.update S' (Obj.mapSeq fun _ => #[v, .ref q2])).get? S' = some (seqObj "list" #[v, .ref q2] c2) := ⟨_, get?_update_seq nS2.1 fun _ => #[v, .ref q2]⟩
      rw [hb']
      simp only [if_true]
      refine wpAny_bind ?_
      refine wpAny_updateSeq nS2.1 rfl (wpAny_bind (wpAny_letGo ?_))
      rw [hname]
      refine wpAny_pure ⟨plainId_quiet PySem.F.plain_min_loop _, ih (j + 1) (j + 1) _ _ x v q2 c2 oI' (by omega) hlt (inv_tmp (inv_swap J2) (t' := s2.toks) (tS.more (pins := [(I, oI')]) (fun p hp => by rw [List.mem_singleton.mp hp]; exact hIS)) (fun b u hb e => (s1.2 b hb).trans e) hc2 (fun v z => by cases z)) sm2 rx upd_same ⟨oI', (s1.2 I hIS).trans nI2.1, hoc, hod⟩ hx (Nat.le_refl _) fun j' y hj' hy => ?_⟩
      by_cases e : j' = j + 1
      · subst e
        rw [hx] at hy
        cases hy
        exact irr x
      · have h1 := hbest j' y (by omega) hy
        intro h2
        refine h1 ?_
        unfold lt2 slt at h2 h1 ⊢
        unfold slt at hb'
        split at h2 <;> split at hb' <;> (try rw [decide_eq_true_eq] at *)
        · rw [if_pos (by omega), decide_eq_true_eq]; exact List.lt_trans h2 hb'
        · rw [if_neg (by omega), decide_eq_true_eq]; omega
        · rw [if_neg (by omega), decide_eq_true_eq]; omega
        · rw [if_neg (by omega), decide_eq_true_eq]; omega
    · simp only [Bool.not_eq_true] at hb'
      rw [hb']
      simp only [Bool.false_eq_true, if_false]
      refine wpAny_bind (wpAny_letGo ?_)
      rw [hname]
      refine wpAny_pure ⟨plainId_quiet PySem.F.plain_min_loop _, ih (j + 1) i _ _ m vb q c oI' (by omega) hlt (inv_swap J2) sm2 rv hq2 hit2 hm (by omega) fun j' y hj' hy => ?_⟩
      by_cases e : j' = j + 1
      · subst e
        rw [hx] at hy
        cases hy
        unfold lt2
        rw [hb']
        decide
      · exact hbest j' y (by omega) hy
end
section
variable {X : Cx} {f : Addr} {fd : FuncData} {px : Str} {p : P1} {k : Nat}
/-- what is asked of the list -/
def rMinV (K : PySem.W.Frag) (p : P1) : V → Hp → VK → Prop := fun v H Q => ∃ (a : Addr) (xs : List (List Nat)), v = .ref a ∧ SqL K H a (xs.map S) ∧ xs ≠ [] ∧ KeyOk p H xs ∧ ∀ m H', m ∈ xs → (∀ y ∈ xs, ¬ lt2 y m) → Same H H' → Q (S m) H'
theorem min_run (F : FnOk X.prog X.w X.K X.mg X.base CX0 k f fd [px] (sp1 p)) (hb : Binds X.K fd [px] []) (hr : Room (k + 1) X.A) {pins : List (Addr × Obj)} {σ : L2.St} {H : Hp} {s : Shared} {Q : VK} {v : V} {u : Value} (I : Inv X pins σ H s) (ru : RelV v u) (h : rMinV X.K p v H Q) :
    wpAny (model X.prog X.w) X.A (call (.builtin "min") [u] [(Str.ofString "key", .ref f)]) (EP X pins σ Q) X.xe s := by
  obtain ⟨a, xs, rfl, hs, hne, hk, q⟩ := h
  obtain rfl : u = Value.ref a := ru
  have hname : (toString "min" ++ toString ".loop" : String) = "min.loop" := by decide
  obtain ⟨its, rvs, pl, hz⟩ := I.list hs
  have hlen : its.length = xs.length := by have := rvs.length; rw [List.length_map] at this; exact this.symm
  have hpos : 0 < xs.length := List.length_pos_iff.mpr hne
  have hL := pl.isList
  obtain ⟨ol, hol, _⟩ := id hL
  have hll : a < s.heap.objs.size := Heap.lt_size hol
  refine kmk_tree PySem.F.kind_min PySem.F.plain_min PySem.F.entry_min (kmk_min_key _ _) ?_
  show wpAny _ X.A.in1 (Builtin.Builtins.bindParams "min" ["key", "default"] 0 ⟨[], [(Str.ofString "key", .ref f)]⟩ >>= _) _ _ s
  refine wpAny_bind (wpAny_of_eq (show Builtin.Builtins.bindParams "min" ["key", "default"] 0 ⟨[], [(Str.ofString "key", .ref f)]⟩ = pure [some (.ref f), none] from rfl) ?_)
  refine wpAny_bind (wpAny_pure ?_)
  refine wpAny_bind (wpAny_pyIter_list hL ?_)
  refine wpAny_bind (wpAny_newList ?_ (Nat.zero_le _))
  rw [hname]
  have e1 : (s.heap.push { cls := .type "list_iterator", data := .fields #[.ref a, .int 0 0] }).objs.size = s.heap.objs.size + 1 := Heap.size_push ..
  -- the two temporaries
  have tI : Tmp X pins s.heap.objs.size := Tmp.new I (Nat.le_refl _)
  have tS : Tmp X pins (s.heap.push { cls := .type "list_iterator", data := .fields #[.ref a, .int 0 0] }).objs.size := Tmp.new I (by rw [e1]; exact Nat.le_succ _)
  have hIS : s.heap.objs.size ≠ (s.heap.push { cls := .type "list_iterator", data := .fields #[.ref a, .int 0 0] }).objs.size := by rw [e1]; exact Nat.ne_of_lt (Nat.lt_succ_self _)
  have gI : ((s.heap.push { cls := .type "list_iterator", data := .fields #[.ref a, .int 0 0] }).push (seqObj "list" #[] 0)).get? s.heap.objs.size = some { cls := .type "list_iterator", data := .fields #[.ref a, .int 0 0] } :=
    Heap.get?_push_of_some _ (Heap.get?_push_size _ rfl)
  have gS : ((s.heap.push { cls := .type "list_iterator", data := .fields #[.ref a, .int 0 0] }).push (seqObj "list" #[] 0)).get? (s.heap.push { cls := .type "list_iterator", data := .fields #[.ref a, .int 0 0] }).objs.size = some (seqObj "list" #[] 0) := Heap.get?_push_size _ rfl
  have kp : ∀ b u, s.heap.get? b = some u → ((s.heap.push { cls := .type "list_iterator", data := .fields #[.ref a, .int 0 0] }).push (seqObj "list" #[] 0)).get? b = some u := fun b u e => Heap.get?_push_of_some _ (Heap.get?_push_of_some _ e)
  have J0 : Inv X pins σ H { s with heap := (s.heap.push { cls := .type "list_iterator", data := .fields #[.ref a, .int 0 0] }).push (seqObj "list" #[] 0) } := I.kept (t' := s.toks) kp
  generalize hSd : (s.heap.push { cls := .type "list_iterator", data := .fields #[.ref a, .int 0 0] }).objs.size = S' at *
  generalize hId : s.heap.objs.size = It at *
  have J : Inv X ((S', seqObj "list" #[] 0) :: (It, { cls := .type "list_iterator", data := .fields #[.ref a, .int 0 0] }) :: pins) σ H { s with heap := (s.heap.push { cls := .type "list_iterator", data := .fields #[.ref a, .int 0 0] }).push (seqObj "list" #[] 0) } := by
    refine J0.pins_of fun p hp => ?_
    rcases List.mem_cons.mp hp with rfl | hp
    · exact ⟨gS, I.hok.fresh (by rw [hId, e1]; exact Nat.le_succ _), tS.loc, tS.fs, fun v z => by cases z⟩
    · rcases List.mem_cons.mp hp with rfl | hp
      · exact ⟨gI, I.hok.fresh (by rw [hId]; exact Nat.le_refl _), tI.loc, tI.fs, fun v z => by cases z⟩
      · exact J0.pin p (List.mem_append_right _ hp)
  have hIa : It ≠ a := Nat.ne_of_gt hll
  refine wpAny_pure ⟨plainId_quiet PySem.F.plain_min_loop _, ?_⟩
  obtain ⟨its2, rvs2, pl2, hz2⟩ := J.list hs
  have hlen2 : its2.length = xs.length := by have := rvs2.length; rw [List.length_map] at this; exact this.symm
  have W := Walks.list (prog := X.prog) (w := X.w) (A := X.A.in1) hr.hd It a (Ne.symm hIa) its2.toArray
  have hsz : its2.toArray.size = xs.length := by rw [List.size_toArray]; exact hlen2
  refine codeAny_builtin PySem.F.entry_min_loop ?_
  rw [Around.under_plainId PySem.F.plain_min_loop _]
  show wpAny _ X.A.in1 (seqItems? (.ref S') >>= _) _ _ _
  refine wpAny_bind (wpAny_seqItems gS rfl ?_)
  show wpAny _ X.A.in1 (tryCatch (pyNext (.ref It)) _ >>= _) _ _ _
  refine wpAny_bind (wpAny_tryCatch (W.item 0 _ _ _ (by rw [hsz]; exact hpos) ⟨⟨_, gI, rfl, rfl⟩, pl2.isList⟩ fun v h' tk' hP hst' hk' => ?_))
  have hv : its2[0]? = some v := by simpa using hP
  obtain ⟨oI', hoI', hoc, hod⟩ := id hst'.1
  obtain ⟨x, hx⟩ : ∃ x, xs[0]? = some x := ⟨_, List.getElem?_eq_getElem hpos⟩
  have rx : RelV (S x) v := by
    obtain ⟨u, hu, ru⟩ := rvs2.get (i := 0) (x := S x) (by rw [List.getElem?_map, hx]; rfl)
    rw [hv] at hu
    cases hu
    exact ru
  have J1 := inv_tmp (t' := tk') (h' := h') (o' := oI') (inv_swap J) (tI.more (pins := [(S', seqObj "list" #[] 0)]) (fun p hp => by rw [List.mem_singleton.mp hp]; exact Ne.symm hIS)) (fun b u hb e => hk' b u (fun z => hb (by simpa using z)) e) hoI' (fun v z => by rw [hod] at z; cases z)
  show wpAny _ X.A.in1 (tryCatch (holding [v] (call (.ref f) [v])) _ >>= _) _ _ _
  have turn : wpAny (model X.prog X.w) X.A.in1 (call (.ref f) [v]) (EP X ((It, oI') :: (S', seqObj "list" #[] 0) :: pins) σ (fun y H2 => ∃ q2, H q2 = none ∧ y = .ref q2 ∧ H2 = upd H q2 (.tup [.int (x.length : Int), S x]))) (fun _ _ => False) { s with heap := h', toks := tk' } := by
    refine wpAny_call (codeAny_mono (F.run X.A.in1 X.stack _ H ⟨[v], []⟩ [v] [S x] _ E0 hr.in1 J1.env0.in1 (hb _ [v] J1.kIn rfl) (.cons rx .nil) ⟨S x, rfl, hk H x (Same.refl H) (List.mem_of_getElem? hx) (fun y H2 => ∃ q2, H q2 = none ∧ y = .ref q2 ∧ H2 = upd H q2 (.tup [.int (x.length : Int), S x])) fun q2 n2 => ⟨q2, n2, rfl, rfl⟩⟩) fun r' s' hq' => ?_)
    cases r' with
    | error e => exact False.elim hq'
    | ok fl =>
      cases fl with
      | ret u => exact J1.after hq'
      | next => exact False.elim hq'
      | brk => exact False.elim hq'
      | cont => exact False.elim hq'
  refine wpAny_bind (wpAny_tryCatch (wpAny_holding (wpAny_mono turn (fun u s2 he => ?_) fun _ _ hF => hF.elim)))
  obtain ⟨y, H2, J2, ry, q2, n2, rfl, rfl⟩ := he
  obtain rfl : u = Value.ref q2 := ry
  have nS2 := J2.pin (S', seqObj "list" #[] 0) (List.mem_append_right _ (List.mem_cons_of_mem _ List.mem_cons_self))
  have nI2 := J2.pin (It, oI') (List.mem_append_right _ List.mem_cons_self)
  have s1 := Heap.SameBut.update s2.heap S' (Obj.mapSeq fun _ => #[v, .ref q2])
  obtain ⟨c2, hc2⟩ : ∃ c2, (s2.heap.update S' (Obj.mapSeq fun _ => #[v, .ref q2])).get? S' = some (seqObj "list" #[v, .ref q2] c2) := ⟨_, get?_update_seq nS2.1 fun _ => #[v, .ref q2]⟩
  show wpAny _ X.A.in1 (updateSeq S' (fun _ => #[v, .ref q2]) >>= _) _ _ _
  refine wpAny_bind ?_
  refine wpAny_updateSeq nS2.1 rfl ?_
  rw [hname]
  refine wpAny_pure ⟨plainId_quiet PySem.F.plain_min_loop _, mk_loop F hb hr hs hk tI tS hIS hIa (fun m v H' s' hm hb rv J' sm => ⟨S m, H', J', rv, q m H' hm hb sm⟩) _ 0 0 _ _ x v q2 c2 oI' rfl hpos (inv_tmp (inv_swap J2) (t' := s2.toks) (tS.more (pins := [(It, oI')]) (fun p hp => by rw [List.mem_singleton.mp hp]; exact hIS)) (fun b u hb e => (s1.2 b hb).trans e) hc2 (fun v z => by cases z)) (same_upd n2) rx upd_same ⟨oI', (s1.2 _ hIS).trans nI2.1, hoc, hod⟩ hx (Nat.le_refl _) fun j' y hj' hy => ?_⟩
  have e : j' = 0 := by omega
  subst e
  rw [hx] at hy
  cases hy
  intro h
  unfold lt2 slt at h
  rw [if_pos rfl] at h
  exact List.lt_irrefl _ (of_decide_eq_true h)
/-- min(e, key=x) -/
def tMinK (K : PySem.W.Frag) (p : P1) (te : TE) : TE := fun σ H Q => te σ H fun v H1 => rMinV K p v H1 Q
theorem pe_minK (K : PySem.W.Frag) {x : Str} {e : Expr} {te : TE} {pp px' kpos pos : PySem.Pos} (G : OK X.prog X.w X.K X.mg X.base CX0 k x [px] (sp1 p)) (hr : Room (k + 1) X.A) (hmin : X.mg "min" = none) (he : PE X e te) (hK : X.K = K := by rfl) (hg : Gl X "min" := by rfl) (hx : Gl X x := by rfl) (hd : (x == ("__debug__" : Str)) = false := by decide)
    (hse : starEach [e] X.env = (false, eval e X.env) :: starEach [] X.env := by rfl) (hes : backTo pos (starEach [e] X.env) = (false, eval e X.env) :: backTo pos (starEach [] X.env) := by rfl) (hpl : (backTo pos (starEach [e] X.env)).any (·.1) = false := by rfl)
    (hall : (backToKw pos (keywordEach [⟨some "key", .Name x px', kpos⟩] X.env)).all (·.1.isSome) = true := by rfl) (hnone : (backToKw pos (keywordEach [⟨some "key", .Name x px', kpos⟩] X.env)).any (·.1.isNone) = false := by rfl)
    (hks : (backToKw pos (keywordEach [⟨some "key", .Name x px', kpos⟩] X.env)).filterMap (·.1) = [Str.ofString "key"] := by rfl) :
    PE X (.Call (.Name "min" pp) [e] [⟨some "key", .Name x px', kpos⟩] pos) (tMinK K p te) := by
  subst hK
  obtain ⟨f, fd, F, hm, hk, hb⟩ := G
  refine ⟨fun pins s σ H Q I h => ?_⟩
  refine wpAny_Call_Name_kw (ld_blt I hg hmin boot_min ?_)
  have kf : PK X [⟨some "key", .Name x px', kpos⟩] (tCons (tC (.ref f)) tNil) := pk_cons (pe_glob hx hm rfl hd) pk_nil
  refine PyProof.Rows.callWith_kw (thn ((pa_cons (hs := hse) he pa_nil).run pos pins s σ H (fun vs H1 => match vs with | [v] => rMinV X.K p v H1 Q | _ => False) I h) fun us s1 ⟨vs, H1, I1, r1, q1⟩ => thn (kf.run pos pins s1 σ H1 (fun zs H2 => zs = [.ref f] ∧ H2 = H1) I1 ⟨rfl, rfl⟩) fun ws s2 ⟨zs, H2, I2, r2, ez, eh⟩ => ?_) hes hpl hall hnone
  subst ez eh
  rw [hks]
  match vs, q1, r1 with
  | [v], q1, r1 =>
    cases r1 with
    | cons ru rn =>
      cases rn
      cases r2 with
      | cons rf rn2 =>
        cases rn2
        cases rf
        exact min_run F hb hr I2 ru q1
end
theorem i_minK {K : PySem.W.Frag} {p : P1} {σ : L2.St} {H : Hp} {Q : VK} {te : TE} (q : te σ H fun v H1 => rMinV K p v H1 Q) : tMinK K p te σ H Q := q
end Fg
namespace Fg
open PySem PySem.Spec PyProof.Rows L2
theorem lt2_iff {a b : List Nat} : lt2 a b ↔ a.length < b.length ∨ (a.length = b.length ∧ a < b) := by
  unfold lt2 slt
  by_cases h : a.length = b.length
  · rw [if_pos (by omega), decide_eq_true_eq]
    constructor
    · exact fun x => .inr ⟨h, x⟩
    · rintro (x | x)
      · omega
      · exact x.2
  · rw [if_neg (by omega), decide_eq_true_eq]
    constructor
    · exact fun x => .inl (by omega)
    · rintro (x | x)
      · omega
      · exact absurd x.1 h
theorem lt2_irrefl (a : List Nat) : ¬ lt2 a a := fun h => by
  rcases lt2_iff.mp h with h | h
  · exact Nat.lt_irrefl _ h
  · exact List.lt_irrefl _ h.2
theorem lt2_trans {a b c : List Nat} (h : lt2 a b) (h' : lt2 b c) : lt2 a c := by
  rw [lt2_iff] at *
  rcases h with h | h <;> rcases h' with h' | h'
  · exact .inl (by omega)
  · exact .inl (by omega)
  · exact .inl (by omega)
  · exact .inr ⟨by omega, List.lt_trans h.2 h'.2⟩
theorem lt2_tri {a b : List Nat} (h : ¬ lt2 a b) (h' : ¬ lt2 b a) : a = b := by
  rw [lt2_iff] at *
  have e : a.length = b.length := by omega
  exact List.le_antisymm (fun z => h' (.inr ⟨e.symm, z⟩)) (fun z => h (.inr ⟨e, z⟩))
/-- not ahead, then not ahead -/
theorem le2_trans {a b c : List Nat} (h : ¬ lt2 b a) (h' : ¬ lt2 c b) : ¬ lt2 c a := fun z => by
  by_cases e : lt2 a b
  · exact h' (lt2_trans z e)
  · have := lt2_tri e h
    subst this
    exact h' z
theorem lt_app_left {a b : List Nat} : ∀ c : List Nat, c ++ a < c ++ b ↔ a < b
  | [] => Iff.rfl
  | x :: c => by
    rw [List.cons_append, List.cons_append, List.cons_lt_cons_iff]
    simp [lt_app_left c]
theorem lt_app_right {c : List Nat} : ∀ {a b : List Nat}, a.length = b.length → (a ++ c < b ++ c ↔ a < b)
  | [], [], _ => by simp [List.lt_irrefl]
  | [], b :: r, h => by simp at h
  | a :: r, [], h => by simp at h
  | a :: r, b :: t, h => by
    rw [List.cons_append, List.cons_append, List.cons_lt_cons_iff, List.cons_lt_cons_iff, lt_app_right (by simpa using h)]
theorem lt2_left {a b c : List Nat} : lt2 (c ++ a) (c ++ b) ↔ lt2 a b := by
  rw [lt2_iff, lt2_iff, lt_app_left, List.length_append, List.length_append]
  constructor
  · rintro (h | ⟨h, h'⟩)
    · exact .inl (by omega)
    · exact .inr ⟨by omega, h'⟩
  · rintro (h | ⟨h, h'⟩)
    · exact .inl (by omega)
    · exact .inr ⟨by omega, h'⟩
theorem lt2_right {a b c : List Nat} : lt2 (a ++ c) (b ++ c) ↔ lt2 a b := by
  rw [lt2_iff, lt2_iff, List.length_append, List.length_append]
  constructor
  · rintro (h | ⟨h, h'⟩)
    · exact .inl (by omega)
    · exact .inr ⟨by omega, (lt_app_right (by omega)).mp h'⟩
  · rintro (h | ⟨h, h'⟩)
    · exact .inl (by omega)
    · exact .inr ⟨by omega, (lt_app_right (by omega)).mpr h'⟩
def IsL (A : List Nat → Prop) (m : List Nat) : Prop := A m ∧ ∀ y, A y → ¬ lt2 y m
theorem IsL.uniq {A : List Nat → Prop} {m n : List Nat} (h : IsL A m) (h' : IsL A n) : m = n := lt2_tri (h'.2 m h.1) (h.2 n h'.1)
open Classical in
noncomputable def least (A : List Nat → Prop) : Option (List Nat) := if h : ∃ m, IsL A m then some h.choose else none
theorem least_eq {A : List Nat → Prop} {m : List Nat} (h : IsL A m) : least A = some m := by
  unfold least
  have hx : ∃ m, IsL A m := ⟨m, h⟩
  rw [dif_pos hx, hx.choose_spec.uniq h]
theorem least_mem {A : List Nat → Prop} {m : List Nat} (h : least A = some m) : IsL A m := by
  unfold least at h
  split at h
  · rename_i hx
    have := hx.choose_spec
    rw [Option.some.inj h] at this
    exact this
  · cases h
theorem least_none {A : List Nat → Prop} (h : ∀ t, ¬ A t) : least A = none := by
  unfold least
  rw [dif_neg (fun ⟨m, hm⟩ => h m hm.1)]
theorem least_congr {A B : List Nat → Prop} (h : ∀ t, A t ↔ B t) : least A = least B := by
  have : A = B := funext fun t => propext (h t)
  rw [this]
theorem fin_min : ∀ {xs : List (List Nat)}, xs ≠ [] → ∃ m ∈ xs, ∀ y ∈ xs, ¬ lt2 y m
  | [], h => absurd rfl h
  | [x], _ => ⟨x, List.mem_cons_self, fun y hy => by rw [List.mem_singleton.mp hy]; exact lt2_irrefl x⟩
  | x :: z :: r, _ => by
    obtain ⟨m, hm, hb⟩ := fin_min (xs := z :: r) (by simp)
    by_cases h : lt2 x m
    · refine ⟨x, List.mem_cons_self, fun y hy => ?_⟩
      rcases List.mem_cons.mp hy with rfl | hy
      · exact lt2_irrefl y
      · exact fun z => hb y hy (lt2_trans z h)
    · refine ⟨m, List.mem_cons_of_mem _ hm, fun y hy => ?_⟩
      rcases List.mem_cons.mp hy with rfl | hy
      · exact h
      · exact hb y hy
inductive Comp (f : List Nat → Option (List Nat)) : List Nat → List Nat → Prop where
  | nil : Comp f [] []
  | cons {a b s t : List Nat} : a ≠ [] → f a = some s → Comp f b t → Comp f (a ++ b) (s ++ t)
section
variable {f g : List Nat → Option (List Nat)} {p t a b s : List Nat}
theorem Comp.congr (h : Comp f p t) (e : ∀ a, a ≠ [] → a.length ≤ p.length → f a = g a) : Comp g p t := by
  induction h with
  | nil => exact .nil
  | cons ha hs hb ih =>
    refine .cons ha (by rw [← e _ ha (by rw [List.length_append]; omega)]; exact hs) (ih fun a ha hl => e a ha (by rw [List.length_append]; omega))
theorem Comp.snoc (h : Comp f b t) (ha : a ≠ []) (hs : f a = some s) : Comp f (b ++ a) (t ++ s) := by
  induction h with
  | nil =>
    have := Comp.cons ha hs .nil
    rw [List.append_nil, List.append_nil] at this
    exact this
  | cons ha' hs' hb ih =>
    rw [List.append_assoc, List.append_assoc]
    exact .cons ha' hs' ih
theorem Comp.first (h : Comp f p t) (hp : p ≠ []) : ∃ a b s t', p = a ++ b ∧ a ≠ [] ∧ f a = some s ∧ Comp f b t' ∧ t = s ++ t' := by
  cases h with
  | nil => exact absurd rfl hp
  | cons ha hs hb => exact ⟨_, _, _, _, rfl, ha, hs, hb, rfl⟩
theorem Comp.empty (h : Comp f p t) (hp : p = []) : t = [] := by
  induction h with
  | nil => rfl
  | cons ha _ _ _ => exact absurd (List.append_eq_nil_iff.mp hp).1 ha
theorem Comp.last (h : Comp f p t) (hp : p ≠ []) : ∃ b a t' s, p = b ++ a ∧ a ≠ [] ∧ f a = some s ∧ Comp f b t' ∧ t = t' ++ s := by
  induction h with
  | nil => exact absurd rfl hp
  | cons ha hs hb ih =>
    rename_i a b s t
    by_cases hb0 : b = []
    · have ht := hb.empty hb0
      subst ht
      subst hb0
      exact ⟨[], a, [], s, by simp, ha, hs, .nil, by simp⟩
    · obtain ⟨b', a', t', s', rfl, ha', hs', hb', rfl⟩ := ih hb0
      exact ⟨a ++ b', a', s ++ t', s', by simp, ha', hs', .cons ha hs hb', by simp⟩
end
def Cand (C : List Nat → List Nat) (p t : List Nat) : Prop := ∃ k u, u ≠ [] ∧ 2 ≤ k ∧ p = rpt k u ∧ ((u.length = 1 ∧ t = dec k ++ u) ∨ t = dec k ++ ([40] ++ (C u ++ [41])))
noncomputable def itS (C : List Nat → List Nat) (p : List Nat) : Option (List Nat) := if p.length = 1 then some p else least (Cand C p)
noncomputable def txS (f : List Nat → Option (List Nat)) (p : List Nat) : List Nat := (least (Comp f p)).getD []
def ClC (T : List Nat → List Nat) (p t : List Nat) : Prop := t = T p ∨ ∃ a j, a ≠ [] ∧ 1 ≤ j ∧ p = a ++ List.replicate j 46 ∧ t = T a ++ (64 :: dec p.length)
noncomputable def clS (f : List Nat → Option (List Nat)) (p : List Nat) : List Nat := (least (ClC (txS f) p)).getD []
noncomputable def cl : Nat → List Nat → List Nat
  | 0 => fun _ => []
  | n + 1 => fun p => if p.length ≤ n then cl n p else clS (itS (cl n)) p
noncomputable def fC (p : List Nat) : List Nat := cl p.length p
noncomputable def fI (p : List Nat) : Option (List Nat) := itS fC p
noncomputable def fT (p : List Nat) : List Nat := txS fI p
theorem cl_stable (p : List Nat) : ∀ n, p.length ≤ n → cl n p = fC p
  | 0, h => by
    unfold fC
    rw [show p.length = 0 by omega]
  | n + 1, h => by
    by_cases e : p.length ≤ n
    · rw [show cl (n + 1) p = cl n p from if_pos e]
      exact cl_stable p n e
    · unfold fC
      rw [show p.length = n + 1 by omega]
theorem itS_congr {C D : List Nat → List Nat} {p : List Nat} (h : ∀ u, u.length < p.length → C u = D u) : itS C p = itS D p := by
  unfold itS
  split
  · rfl
  · refine least_congr fun t => ?_
    have key : ∀ {C D : List Nat → List Nat}, (∀ u, u.length < p.length → C u = D u) → Cand C p t → Cand D p t := fun {C D} h ⟨k, u, hu, hk, hp, ht⟩ => by
      refine ⟨k, u, hu, hk, hp, ht.imp id fun ht => ?_⟩
      rw [ht, h u]
      rw [hp, rpt_len]
      have : 1 ≤ u.length := List.length_pos_iff.mpr hu
      have : 2 * u.length ≤ k * u.length := Nat.mul_le_mul_right _ hk
      omega
    exact ⟨key h, key fun u hu => (h u hu).symm⟩
theorem txS_congr {f g : List Nat → Option (List Nat)} {p : List Nat} (h : ∀ a, a ≠ [] → a.length ≤ p.length → f a = g a) : txS f p = txS g p := by
  unfold txS
  rw [least_congr (B := Comp g p) fun t => ⟨fun x => x.congr h, fun x => x.congr fun a h1 h2 => (h a h1 h2).symm⟩]
theorem fC_eq {p : List Nat} (hp : p ≠ []) : fC p = clS fI p := by
  obtain ⟨n, hn⟩ : ∃ n, p.length = n + 1 := ⟨p.length - 1, by have := List.length_pos_iff.mpr hp; omega⟩
  unfold fC
  rw [hn, show cl (n + 1) p = clS (itS (cl n)) p from if_neg (by omega)]
  have hi : ∀ a : List Nat, a ≠ [] → a.length ≤ p.length → itS (cl n) a = fI a := fun a _ ha => itS_congr fun u hu => cl_stable u n (by omega)
  unfold clS
  have key : ∀ t, ClC (txS (itS (cl n))) p t ↔ ClC (txS fI) p t := fun t => by
    unfold ClC
    rw [txS_congr hi]
    refine or_congr Iff.rfl ⟨?_, ?_⟩
    · rintro ⟨a, j, ha, hj, he, ht⟩
      refine ⟨a, j, ha, hj, he, ?_⟩
      rw [ht, txS_congr (p := a) fun b h1 h2 => hi b h1 (by rw [he, List.length_append]; omega)]
    · rintro ⟨a, j, ha, hj, he, ht⟩
      refine ⟨a, j, ha, hj, he, ?_⟩
      rw [ht, txS_congr (p := a) fun b h1 h2 => hi b h1 (by rw [he, List.length_append]; omega)]
  rw [least_congr key]
theorem fI_one {c : Nat} : fI [c] = some [c] := by
  unfold fI itS
  exact if_pos rfl
theorem fT_nil : fT [] = [] := by
  unfold fT txS
  have : IsL (Comp fI []) [] := ⟨.nil, fun y hy => by
    cases h : y with
    | nil => exact lt2_irrefl []
    | cons a r => rw [lt2_iff]; simp⟩
  rw [least_eq this]
  rfl
/-- a stretch has its least text -/
theorem fT_least : ∀ (n : Nat) (p : List Nat), p.length ≤ n → IsL (Comp fI p) (fT p)
  | n, [], _ => by
    rw [fT_nil]
    exact ⟨.nil, fun y hy => by
      cases h : y with
      | nil => exact lt2_irrefl []
      | cons a r => rw [lt2_iff]; simp⟩
  | 0, c :: r, h => by simp at h
  | n + 1, c :: r, h => by
    have ih := fT_least n
    have hl : r.length ≤ n := by simpa using h
    -- by the first one
    let xs : List (List Nat) := (List.range (r.length + 1)).filterMap fun i => (fI ((c :: r).take (i + 1))).map (· ++ fT ((c :: r).drop (i + 1)))
    have mem : ∀ a b s, c :: r = a ++ b → a ≠ [] → fI a = some s → s ++ fT b ∈ xs := fun a b s e ha hs => by
      have h1 : 1 ≤ a.length := List.length_pos_iff.mpr ha
      have h2 : a.length ≤ r.length + 1 := by
        have := congrArg List.length e
        rw [List.length_append, List.length_cons] at this
        omega
      refine List.mem_filterMap.mpr ⟨a.length - 1, List.mem_range.mpr (by omega), ?_⟩
      rw [show a.length - 1 + 1 = a.length by omega, e, List.take_left, List.drop_left, hs]
      rfl
    have hne : xs ≠ [] := fun z => by
      have := mem [c] r [c] rfl (by simp) fI_one
      rw [z] at this
      simp at this
    obtain ⟨m, hm, hb⟩ := fin_min hne
    have hL : IsL (Comp fI (c :: r)) m := by
      constructor
      · obtain ⟨i, hi, e⟩ := List.mem_filterMap.mp hm
        have hi := List.mem_range.mp hi
        cases hs : fI ((c :: r).take (i + 1)) with
        | none => rw [hs] at e; cases e
        | some s =>
          rw [hs] at e
          have e : s ++ fT ((c :: r).drop (i + 1)) = m := Option.some.inj e
          rw [← e]
          conv => rw [← List.take_append_drop (i + 1) (c :: r)]
          refine .cons (by simp) hs ?_
          have : ((c :: r).drop (i + 1)).length ≤ n := by rw [List.length_drop, List.length_cons]; omega
          rw [List.take_append_drop]
          exact (ih _ this).1
      · intro t ht
        obtain ⟨a, b, s, t', e, ha, hs, hbt, rfl⟩ := ht.first (by simp)
        have h1 : 1 ≤ a.length := List.length_pos_iff.mpr ha
        have hbl : b.length ≤ n := by
          have := congrArg List.length e
          rw [List.length_append, List.length_cons] at this
          omega
        refine le2_trans (b := s ++ fT b) (hb _ (mem a b s e ha hs)) ?_
        rw [lt2_left]
        exact (ih b hbl).2 t' hbt
    have : fT (c :: r) = m := by
      unfold fT txS
      rw [least_eq hL]
      rfl
    rw [this]
    exact hL
theorem fT_isL (p : List Nat) : IsL (Comp fI p) (fT p) := fT_least p.length p (Nat.le_refl _)
theorem fT_first {p m : List Nat} (hp : p ≠ []) (h1 : ∃ a b s, p = a ++ b ∧ a ≠ [] ∧ fI a = some s ∧ m = s ++ fT b) (h2 : ∀ a b s, p = a ++ b → a ≠ [] → fI a = some s → ¬ lt2 (s ++ fT b) m) : fT p = m := by
  refine (fT_isL p).uniq ⟨?_, fun t ht => ?_⟩
  · obtain ⟨a, b, s, rfl, ha, hs, rfl⟩ := h1
    exact .cons ha hs (fT_isL b).1
  · obtain ⟨a, b, s, t', e, ha, hs, hbt, rfl⟩ := ht.first hp
    refine le2_trans (h2 a b s e ha hs) ?_
    rw [lt2_left]
    exact (fT_isL b).2 t' hbt
theorem fC_isL {p m : List Nat} (hp : p ≠ []) (h : IsL (ClC fT p) m) : fC p = m := by
  rw [fC_eq hp]
  unfold clS
  rw [show ClC (txS fI) p = ClC fT p from rfl, least_eq h]
  rfl
theorem fI_isL {p m : List Nat} (hp : p.length ≠ 1) (h : IsL (Cand fC p) m) : fI p = some m := by
  unfold fI itS
  rw [if_neg hp, least_eq h]
theorem fI_none {p : List Nat} (hp : p.length ≠ 1) (h : ∀ t, ¬ Cand fC p t) : fI p = none := by
  unfold fI itS
  rw [if_neg hp, least_none h]
/-- the dark beats behind -/
theorem fC_exists {p : List Nat} (hp : p ≠ []) : IsL (ClC fT p) (fC p) := by
  -- finitely many
  let xs : List (List Nat) := fT p :: ((List.range p.length).filterMap fun i => if p.drop (i + 1) ≠ [] ∧ p.drop (i + 1) = List.replicate (p.length - (i + 1)) 46 then some (fT (p.take (i + 1)) ++ (64 :: dec p.length)) else none)
  have iff : ∀ t, ClC fT p t ↔ t ∈ xs := fun t => by
    constructor
    · rintro (rfl | ⟨a, j, ha, hj, e, rfl⟩)
      · exact List.mem_cons_self
      · refine List.mem_cons_of_mem _ (List.mem_filterMap.mpr ⟨a.length - 1, ?_, ?_⟩)
        · have h1 : 1 ≤ a.length := List.length_pos_iff.mpr ha
          have := congrArg List.length e
          rw [List.length_append, List.length_replicate] at this
          exact List.mem_range.mpr (by omega)
        · have h1 : 1 ≤ a.length := List.length_pos_iff.mpr ha
          have hl := congrArg List.length e
          rw [List.length_append, List.length_replicate] at hl
          have ed : p.drop (a.length - 1 + 1) = List.replicate j 46 := by rw [show a.length - 1 + 1 = a.length by omega, e, List.drop_left]
          have et : p.take (a.length - 1 + 1) = a := by rw [show a.length - 1 + 1 = a.length by omega, e, List.take_left]
          rw [if_pos ⟨by rw [ed]; intro z; have := congrArg List.length z; simp at this; omega, by rw [ed]; congr 1; omega⟩, et]
    · intro h
      rcases List.mem_cons.mp h with rfl | h
      · exact .inl rfl
      · obtain ⟨i, hi, e⟩ := List.mem_filterMap.mp h
        have hi := List.mem_range.mp hi
        split at e
        · rename_i hc
          refine .inr ⟨p.take (i + 1), p.length - (i + 1), ?_, ?_, ?_, (Option.some.inj e).symm⟩
          · intro z
            have h1 : (p.take (i + 1)).length = i + 1 := by rw [List.length_take]; omega
            rw [z] at h1
            cases h1
          · have := List.length_pos_iff.mpr hc.1
            rw [List.length_drop] at this
            omega
          · rw [← hc.2, List.take_append_drop]
        · cases e
  obtain ⟨m, hm, hb⟩ := fin_min (xs := xs) (by simp [xs])
  have : IsL (ClC fT p) m := ⟨(iff m).mpr hm, fun y hy => hb y ((iff y).mp hy)⟩
  rw [fC_isL hp this]
  exact this
end Fg
namespace Fg
open PySem PySem.Spec PyProof.Rows L2
theorem wN_dec {k : Nat} (h : 2 ≤ k) : wN k = dec k := by unfold wN; rw [if_pos (by omega)]
theorem no38_dec {k : Nat} (h : k ≤ 24) : (38 : Nat) ∉ dec k := fun z => by
  have := (dec_facts k h).1 38 z
  revert this; decide
theorem showN_one {n : Nat} {r : List Nat} (h : r.length = n) (hn : 1 ≤ n) : showN [(n, r)] n = r := by
  unfold showN
  refine List.ext_getElem? fun i => ?_
  rw [List.getElem?_map]
  by_cases hi : i < n
  · rw [List.getElem?_range hi, List.getElem?_eq_getElem (by omega)]
    show some (firstLit [(rpt (n / n) r).getD i 0]) = _
    rw [Nat.div_self (by omega)]
    have e : rpt 1 r = r := by show ([r] : List (List Nat)).flatten = r; simp
    rw [e, List.getD_eq_getElem?_getD, List.getElem?_eq_getElem (by omega)]
    show some (if r[i] = 46 then 46 else r[i]) = _
    split
    · rename_i h46; rw [h46]
    · rfl
  · rw [List.getElem?_eq_none (by simpa using hi), List.getElem?_eq_none (by omega)]
    rfl
theorem stPs_single {G : Type} {sg : G → Stv} {p : PtG G} {n : Nat} {r : List Nat} (h : stP sg p = (n, r)) (hl : r.length = n) (hn : 1 ≤ n) : stPs sg [p] = (n, r) := by
  show shown ([p].map (stP sg)) = _
  rw [List.map_cons, List.map_nil, h]
  have e : lcmL [(n, r)] = n := by show Nat.lcm 1 n = n; simp [Nat.lcm]
  unfold shown
  rw [e, showN_one hl hn]
/-- an item of a stretch, as a tree -/
def TrI (d : Nat) : Prop := ∀ p t, p.length < 2 ^ (d + 1) → p.length ≤ 24 → Row p → p ≠ [] → fI p = some t → ∃ i : ItG (Gr d), vI (vG d) i ∧ wI (wG d) i = t ∧ stI (stG d) i = (p.length, p) ∧ (38 : Nat) ∉ t
def TrP (d : Nat) : Prop := ∀ p, p.length < 2 ^ (d + 1) → p.length ≤ 24 → Row p → p ≠ [] → ∃ q : PtG (Gr d), vP (stG d) (vG d) q ∧ wP (wG d) q = fC p ∧ stP (stG d) q = (p.length, p) ∧ (38 : Nat) ∉ fC p
theorem tr_items {d : Nat} (h : TrI d) : ∀ {p t : List Nat}, Comp fI p t → p.length < 2 ^ (d + 1) → p.length ≤ 24 → Row p → ∃ is : List (ItG (Gr d)), (∀ i ∈ is, vI (vG d) i) ∧ wIs (wG d) is = t ∧ stIs (stG d) is = (p.length, p) ∧ (38 : Nat) ∉ t := by
  intro p t hc
  induction hc with
  | nil => exact fun _ _ _ => ⟨[], by simp, rfl, rfl, by simp⟩
  | cons ha hs hb ih =>
    rename_i a b s t
    intro h1 h2 h3
    rw [List.length_append] at h1 h2
    obtain ⟨i, i1, i2, i3, i4⟩ := h a s (by omega) (by omega) (fun c hc => h3 c (List.mem_append_left _ hc)) ha hs
    obtain ⟨is, j1, j2, j3, j4⟩ := ih (by omega) (by omega) (fun c hc => h3 c (List.mem_append_right _ hc))
    refine ⟨i :: is, fun x hx => ?_, ?_, ?_, ?_⟩
    · rcases List.mem_cons.mp hx with rfl | hx
      · exact i1
      · exact j1 x hx
    · show (wI (wG d) i :: is.map (wI (wG d))).flatten = _
      rw [List.flatten_cons, i2]
      unfold wIs at j2
      rw [j2]
    · rw [stIs_cons, i3, j3, List.length_append]
      rfl
    · intro hx
      rcases List.mem_append.mp hx with hx | hx
      · exact i4 hx
      · exact j4 hx
theorem tr_part {d : Nat} (h : TrI d) : TrP d := by
  intro p h1 h2 h3 hp
  have hl : 1 ≤ p.length := List.length_pos_iff.mpr hp
  obtain ⟨hc, _⟩ := fC_exists hp
  rcases hc with e | ⟨a, j, ha, hj, e, et⟩
  · obtain ⟨is, i1, i2, i3, i4⟩ := tr_items h (fT_isL p).1 h1 h2 h3
    refine ⟨(is, 0), ⟨?_, i1, .inl rfl⟩, ?_, ?_, by rw [e]; exact i4⟩
    · intro z
      have z : is = [] := z
      rw [z] at i3
      have := congrArg Prod.fst i3
      have this : 0 = p.length := this
      omega
    · show wIs (wG d) is ++ wF 0 = _
      rw [e, i2]
      show fT p ++ [] = _
      rw [List.append_nil]
    · show (if 0 < 0 then _ else stIs (stG d) is) = _
      rw [if_neg (by decide)]
      exact i3
  · have hla : a.length < p.length := by
      rw [e, List.length_append, List.length_replicate]; omega
    obtain ⟨is, i1, i2, i3, i4⟩ := tr_items h (fT_isL a).1 (by omega) (by omega) (fun c hc => h3 c (by rw [e]; exact List.mem_append_left _ hc))
    have ha1 : 1 ≤ a.length := List.length_pos_iff.mpr ha
    refine ⟨(is, p.length), ⟨?_, i1, .inr ⟨?_, h2⟩⟩, ?_, ?_, ?_⟩
    · intro z
      have z : is = [] := z
      rw [z] at i3
      have := congrArg Prod.fst i3
      have this : 0 = a.length := this
      omega
    · show (stIs (stG d) is).1 ≤ p.length
      rw [i3]; exact Nat.le_of_lt hla
    · show wIs (wG d) is ++ wF p.length = _
      rw [i2, et]
      unfold wF
      rw [if_pos (by omega)]
    · show (if 0 < p.length then fillTo (stIs (stG d) is) p.length else _) = _
      rw [if_pos (by omega), i3]
      show (p.length, a ++ List.replicate (p.length - a.length) 46) = _
      have : p.length - a.length = j := by rw [e, List.length_append, List.length_replicate]; omega
      rw [this, ← e]
    · rw [et]
      intro hx
      rcases List.mem_append.mp hx with hx | hx
      · exact i4 hx
      · rcases List.mem_cons.mp hx with hx | hx
        · cases hx
        · exact no38_dec h2 hx
theorem tr_step (d : Nat) (sub : ∀ d', d = d' + 1 → TrI d') : TrI d := by
    intro p t h1 h2 h3 hp hI
    have hl : 1 ≤ p.length := List.length_pos_iff.mpr hp
    by_cases e1 : p.length = 1
    · obtain ⟨c, rfl⟩ : ∃ c, p = [c] := List.length_eq_one_iff.mp e1
      rw [fI_one] at hI
      cases hI
      refine ⟨.inl (0, c), ⟨h3 c List.mem_cons_self, .inl rfl⟩, rfl, rfl, ?_⟩
      intro hx
      rw [List.mem_singleton] at hx
      have := h3 c List.mem_cons_self
      rw [← hx] at this
      revert this; decide
    · unfold fI itS at hI
      rw [if_neg e1] at hI
      obtain ⟨⟨k, u, hu, hk, hpu, ht⟩, _⟩ := least_mem hI
      have hul : 1 ≤ u.length := List.length_pos_iff.mpr hu
      have hlen : p.length = k * u.length := by rw [hpu, rpt_len]
      have hku : k ≤ k * u.length := Nat.le_mul_of_pos_right _ hul
      have h2u : 2 * u.length ≤ k * u.length := Nat.mul_le_mul_right _ hk
      have hk24 : k ≤ 24 := by omega
      rcases ht with ⟨hu1, ht⟩ | ht
      · obtain ⟨c, rfl⟩ : ∃ c, u = [c] := List.length_eq_one_iff.mp hu1
        have hcm : c ∈ p := by
          rw [hpu]
          obtain ⟨k', rfl⟩ : ∃ k', k = k' + 1 := ⟨k - 1, by omega⟩
          rw [rpt_succ]
          exact List.mem_append_left _ List.mem_cons_self
        have hc := h3 c hcm
        refine ⟨.inl (k, c), ⟨hc, .inr ⟨hk, hk24⟩⟩, ?_, ?_, ?_⟩
        · show wN k ++ [c] = t
          rw [wN_dec hk, ht]
        · show rep (1, [c]) (max 1 k) = _
          rw [show max 1 k = k by omega]
          show (1 * k, rpt k [c]) = _
          rw [← hpu, hlen, hu1, Nat.mul_one, Nat.one_mul]
        · rw [ht]
          intro hx
          rcases List.mem_append.mp hx with hx | hx
          · exact no38_dec hk24 hx
          · rw [List.mem_singleton] at hx
            rw [← hx] at hc
            revert hc; decide
      · cases d with
        | zero =>
          have h1 : p.length < 2 := h1
          omega
        | succ d =>
          have hrow : Row u := fun c hc => h3 c (by
            rw [hpu]
            obtain ⟨k', rfl⟩ : ∃ k', k = k' + 1 := ⟨k - 1, by omega⟩
            rw [rpt_succ]
            exact List.mem_append_left _ hc)
          have h1' : p.length < 2 * 2 ^ (d + 1) := by rw [← Nat.pow_succ']; exact h1
          obtain ⟨q, q1, q2, q3, q4⟩ := tr_part (sub d rfl) u (by omega) (by omega) hrow hu
          refine ⟨.inr (k, [q]), ⟨hk, hk24, ⟨by simp, fun x hx => by rw [List.mem_singleton.mp hx]; exact q1⟩⟩, ?_, ?_, ?_⟩
          · show wN k ++ ([40] ++ (wPs (wG d) [q] ++ [41])) = t
            rw [wN_dec hk, ht]
            show dec k ++ ([40] ++ (wP (wG d) q ++ [41])) = _
            rw [q2]
          · show rep (stPs (stG d) [q]) (max 1 k) = _
            rw [stPs_single q3 rfl hul, show max 1 k = k by omega]
            show (u.length * k, rpt k u) = _
            rw [← hpu, hlen, Nat.mul_comm]
          · rw [ht]
            intro hx
            rcases List.mem_append.mp hx with hx | hx
            · exact no38_dec hk24 hx
            · rcases List.mem_append.mp hx with hx | hx
              · rw [List.mem_singleton] at hx; cases hx
              · rcases List.mem_append.mp hx with hx | hx
                · exact q4 hx
                · rw [List.mem_singleton] at hx; cases hx
theorem tr_item : ∀ d, TrI d
  | 0 => tr_step 0 fun d' e => nomatch e
  | d + 1 => tr_step (d + 1) fun d' e => by
    cases e
    exact tr_item d
/-- the folded text is read back as its round, and has no & -/
theorem fold_back {p : List Nat} (h : p.length ≤ 24) (hr : Row p) (hp : p ≠ []) : told (fC p) = .done (p.length, p) ∧ (38 : Nat) ∉ fC p := by
  obtain ⟨q, q1, q2, q3, q4⟩ := tr_part (tr_item 4) p (by show p.length < 32; omega) h hr hp
  have := told_ok 4 (by decide) [q] ⟨by simp, fun x hx => by rw [List.mem_singleton.mp hx]; exact q1⟩
  rw [show wG 5 [q] = wP (wG 4) q from rfl, q2, show stG 5 [q] = stPs (stG 4) [q] from rfl, stPs_single q3 rfl (List.length_pos_iff.mpr hp)] at this
  exact ⟨this, q4⟩
/-- .. and is not long -/
theorem tx_len : ∀ (n : Nat) (p : List Nat), p.length ≤ n → (fT p).length ≤ p.length
  | n, [], _ => by rw [fT_nil]; exact Nat.le_refl _
  | 0, c :: r, h => by simp at h
  | n + 1, c :: r, h => by
    have hr := tx_len n r (by simpa using h)
    have h1 := (fT_isL (c :: r)).2 ([c] ++ fT r) (.cons (a := [c]) (by simp) fI_one (fT_isL r).1)
    rw [lt2_iff] at h1
    rw [List.length_append, List.length_singleton] at h1
    rw [List.length_cons]
    omega
theorem fT_len (p : List Nat) : (fT p).length ≤ p.length := tx_len p.length p (Nat.le_refl _)
theorem fC_len {p : List Nat} (hp : p ≠ []) : (fC p).length ≤ p.length := by
  have h1 := (fC_exists hp).2 (fT p) (.inl rfl)
  rw [lt2_iff] at h1
  have := fT_len p
  omega
theorem fI_len {p t : List Nat} (hp : p ≠ []) (h24 : p.length ≤ 24) (h : fI p = some t) : t.length ≤ 30 := by
  by_cases e1 : p.length = 1
  · unfold fI itS at h
    rw [if_pos e1] at h
    cases h; omega
  · unfold fI itS at h
    rw [if_neg e1] at h
    obtain ⟨⟨k, u, hu, hk, hpu, ht⟩, _⟩ := least_mem h
    have hlen : p.length = k * u.length := by rw [hpu, rpt_len]
    have hul : 1 ≤ u.length := List.length_pos_iff.mpr hu
    have h2u : 2 * u.length ≤ k * u.length := Nat.mul_le_mul_right _ hk
    have hd : (dec k).length ≤ 2 := by unfold dec; split <;> simp
    rcases ht with ⟨hu1, ht⟩ | ht
    · rw [ht, List.length_append]; omega
    · have := fC_len hu
      rw [ht]
      simp only [List.length_append, List.length_singleton]
      omega
theorem Row.take {l : List Nat} (h : Row l) (n : Nat) : Row (l.take n) := fun c hc => h c (List.mem_of_mem_take hc)
theorem Row.drop {l : List Nat} (h : Row l) (n : Nat) : Row (l.drop n) := fun c hc => h c (List.mem_of_mem_drop hc)
theorem Row.app {l m : List Nat} (h : Row l) (h2 : Row m) : Row (l ++ m) := fun c hc => (List.mem_append.mp hc).elim (h c) (h2 c)
theorem Row.one {c : Nat} (h : c ∈ SG) : Row [c] := fun x hx => by rw [List.mem_singleton.mp hx]; exact h
theorem Row.rep {l : List Nat} (h : Row l) (n : Nat) : Row (List.replicate n l).flatten := fun c hc => by
  obtain ⟨m, hm, hc⟩ := List.mem_flatten.mp hc
  rw [(List.mem_replicate.mp hm).2] at hc
  exact h c hc
def bet (o : Option (List Nat)) (t : List Nat) : List Nat := match o with
  | none => t
  | some s => if slt (t.length : Int) t (s.length : Int) s = true then t else s
def Lo (A : List Nat → Prop) : Option (List Nat) → Prop
  | none => ∀ t, ¬ A t
  | some m => IsL A m
theorem Lo.more {A B : List Nat → Prop} {o : Option (List Nat)} {t : List Nat} (h : Lo A o) (e : ∀ x, B x ↔ (A x ∨ x = t)) : Lo B (some (bet o t)) := by
  cases o with
  | none => exact ⟨(e t).mpr (.inr rfl), fun y hy => by
      rcases (e y).mp hy with hy | rfl
      · exact absurd hy (h y)
      · exact lt2_irrefl y⟩
  | some s =>
    obtain ⟨h1, h2⟩ := h
    show IsL B (if slt (t.length : Int) t (s.length : Int) s = true then t else s)
    by_cases hc : lt2 t s
    · rw [if_pos (show slt (t.length : Int) t (s.length : Int) s = true from hc)]
      refine ⟨(e t).mpr (.inr rfl), fun y hy => ?_⟩
      rcases (e y).mp hy with hy | rfl
      · exact fun z => h2 y hy (lt2_trans z hc)
      · exact lt2_irrefl y
    · rw [if_neg (show ¬ slt (t.length : Int) t (s.length : Int) s = true from hc)]
      refine ⟨(e s).mpr (.inl h1), fun y hy => ?_⟩
      rcases (e y).mp hy with hy | rfl
      · exact h2 y hy
      · exact hc
theorem Lo.same {A B : List Nat → Prop} {o : Option (List Nat)} (h : Lo A o) (e : ∀ x, B x ↔ A x) : Lo B o := by
  cases o with
  | none => exact fun t ht => h t ((e t).mp ht)
  | some s => exact ⟨(e s).mpr h.1, fun y hy => h.2 y ((e y).mp hy)⟩
end Fg
namespace Fg
open PySem PySem.Spec PyProof.Rows L2
def wrds (x : Str) : List (List Nat) := (Txt.split x ⟨#[32]⟩).map fun y => y.cps.toList
theorem words_V (x : Str) : (Txt.split x ⟨#[32]⟩).map V.str = (wrds x).map S := by
  unfold wrds
  rw [List.map_map]
  exact List.map_congr_left fun y _ => rfl
theorem words_pos (x : Str) : 1 ≤ (wrds x).length := by
  unfold wrds
  rw [List.length_map]
  unfold Txt.split
  split
  · exact Nat.le_refl _
  · split
    · exact Nat.le_refl _
    · rw [len_partsBetween]; omega
theorem words_many (x : Str) : (wrds x).length ≤ x.length + 2 := by
  unfold wrds
  rw [List.length_map]
  exact split_le x _
theorem words_len {x : Str} {w : List Nat} (h : w ∈ wrds x) : w.length ≤ x.length := by
  unfold wrds at h
  obtain ⟨y, hy, rfl⟩ := List.mem_map.mp h
  have hyl : y.length ≤ x.length := by
    unfold Txt.split at hy
    split at hy
    · rw [List.mem_singleton.mp hy]; exact Nat.le_refl _
    · split at hy
      · rw [List.mem_singleton.mp hy]; exact Nat.le_refl _
      · unfold Builtin.Str.partsBetween at hy
        obtain ⟨p, hp, rfl⟩ := List.mem_map.mp hy
        exact le_strSub x _ _
  simpa [Str.length] using hyl
theorem joinL_eq (sep : List Nat) : ∀ ls : List (List Nat), ls ≠ [] → (TL.joinL sep ls).length + sep.length = (ls.map List.length).sum + ls.length * sep.length
  | [], h => absurd rfl h
  | [p], _ => by
    show p.length + sep.length = _
    simp
  | p :: q :: r, _ => by
    have ih := joinL_eq sep (q :: r) (by simp)
    show (p ++ (sep ++ TL.joinL sep (q :: r))).length + sep.length = _
    rw [List.length_append, List.length_append, List.map_cons, List.sum_cons, List.length_cons (a := p), Nat.add_mul, Nat.one_mul]
    omega
section
variable {F : Type} (fm : F → List Nat → Option PyData)
/-- the words from place k on, by their forms: the data behind those there are, or the first place that cannot stand -/
def rdk (ws : List (List Nat)) : Nat → List PyData → List F → List PyData ⊕ Nat
  | k, dn, [] => if k < ws.length then .inr k else .inl dn
  | k, dn, f :: fs => if k < ws.length then (match fm f (ws.getD k []) with
      | some d => rdk ws (k + 1) (dn ++ [d]) fs
      | none => .inr k) else .inr ws.length
def readLn (forms : List Nat → Option (List F)) : PyData → List PyData ⊕ Nat
  | .str z => (match forms ((wrds z).getD 0 []) with
      | none => .inr 0
      | some fs => rdk fm (wrds z) 1 [dS ((wrds z).getD 0 [])] fs)
  | _ => .inr 0
variable {fm} {ws : List (List Nat)} {k : Nat} {dn : List PyData} {f : F} {fs : List F}
end
section
variable {F : Type} {fm : F → List Nat → Option PyData} {ws : List (List Nat)}
inductive Frm (fm : F → List Nat → Option PyData) : List F → List PyData → Prop
  | nil : Frm fm [] []
  | cons {f : F} {fs : List F} {d : PyData} {ds : List PyData} (w : List Nat) (e : fm f w = some d) (h : Frm fm fs ds) : Frm fm (f :: fs) (d :: ds)
end
def readAll (readLn : PyData → List PyData ⊕ Nat) : List PyData → Nat → List PyData ⊕ (Nat × Nat)
  | [], _ => .inl []
  | d :: r, n => match readLn d with
    | .inr e => .inr (n, e)
    | .inl es => match readAll readLn r (n + 1) with
      | .inl ws => .inl (.tuple es :: ws)
      | .inr p => .inr p
def comb (ws : List PyData) : List PyData ⊕ (Nat × Nat) → List PyData ⊕ (Nat × Nat)
  | .inl r => .inl (ws ++ r)
  | .inr p => .inr p
end Fg
namespace Fg
open PySem PySem.Spec PyProof.Rows L2
/-- all but p stands as it did -/
def But (p : Addr) (H H' : Hp) : Prop := ∀ b o, b ≠ p → H b = some o → H' b = some o
theorem But.refl (p : Addr) (H : Hp) : But p H H := fun _ _ _ e => e
theorem But.trans {p : Addr} {H H1 H2 : Hp} (a : But p H H1) (b : But p H1 H2) : But p H H2 := fun c o n e => b c o n (a c o n e)
theorem But.of {p : Addr} {H H' : Hp} (s : Same H H') : But p H H' := fun c o _ e => s c o e
theorem But.put {p : Addr} {H : Hp} {o : HO} : But p H (upd H p o) := fun c o' n e => by rw [upd_ne n]; exact e
theorem But.known {p : Addr} {A H H' : Hp} (h : But p H H') (s : Same A H) (n : A p = none) : Same A H' := fun b o e => h b o (ne_of_none e n) (s b o e)
end Fg
namespace Fg
open PySem PySem.Spec PyProof.Rows L2
def okT : PyData → Prop
  | .int i => 0 ≤ i ∧ i < 100
  | .str x => x.cps.toList.length ≤ 100
  | _ => False
theorem wrds_join {ls : List (List Nat)} (h : ls ≠ []) (hs : ∀ l ∈ ls, 32 ∉ l) : wrds ⟨(TL.joinL [32] ls).toArray⟩ = ls := by
  unfold wrds
  rw [← join_sep]
  have e : Txt.split (Txt.join ⟨([32] : List Nat).toArray⟩ (ls.map fun l => (⟨l.toArray⟩ : Str))) ⟨#[32]⟩ = ls.map fun l => (⟨l.toArray⟩ : Str) := by
    refine TL.split_join (y := ⟨#[32]⟩) (s := 32) (S := []) rfl (by decide +kernel) (fun z => h (List.map_eq_nil_iff.mp z)) fun p hp => ?_
    obtain ⟨l, hl, rfl⟩ := List.mem_map.mp hp
    have := hs l hl
    simpa [TL.tl] using this
  rw [e, List.map_map]
  have : ls.map ((fun y : Str => y.cps.toList) ∘ fun l => (⟨l.toArray⟩ : Str)) = ls.map id := List.map_congr_left fun l _ => rfl
  rw [this, List.map_id]
theorem cutV_to' {ws : List (List Nat)} (p : Nat) : cutV (ws.map S) none (some (p : Int)) = (ws.take p).map S := by
  rw [cutV_to, List.map_take]
theorem cutV_fr {xs : List V} (k : Nat) : cutV xs (some (k : Int)) none = xs.drop k := by
  unfold cutV
  rw [HT.sIx_nat, HT.sIx_none]
  by_cases hk : k ≤ xs.length
  · rw [Nat.min_eq_left hk]
    exact List.take_of_length_le (by rw [List.length_drop]; omega)
  · rw [Nat.min_eq_right (by omega), Nat.sub_self, List.take_zero, List.drop_of_length_le (by omega)]
theorem cutV_fr' {ws : List (List Nat)} (p : Nat) : cutV (ws.map S) (some (p : Int)) none = (ws.drop p).map S := by
  rw [cutV_fr, List.map_drop]
end Fg
namespace Fg
open PySem PySem.Spec PyProof.Rows L2
theorem strOk_small {l : List Nat} (h : ∀ c ∈ l, c < 0x110000) : PyData.strOk ⟨l.toArray⟩ = true := by
  show (⟨l.toArray⟩ : Str).cps.all (· < 0x110000) = true
  rw [Array.all_eq_true_iff_forall_mem]
  intro c hc
  exact decide_eq_true (h c (by simpa using hc))
section
variable {K : PySem.W.Frag} {H : Hp} {Q : VK} {v : V} {d : PyData} {l : List Nat}
end
end Fg
namespace HT
open PySem PySem.W PySem.Calls PySem.Spec PyProof.Rows
section
variable {prog : Program} {w : World} {A : Around} {E : Value → Shared → Prop} {s : Shared}
end
end HT
namespace Fg
open PySem PySem.Spec PyProof.Rows L2
section
variable {X : Cx} (K : PySem.W.Frag) {e st : Expr} {te : TE} {p2 pos : PySem.Pos}
def tRev (K : PySem.W.Frag) (te : TE) : TE := fun σ H Q => te σ H fun x H1 => (∃ a xs, x = .ref a ∧ SqL K H1 a xs ∧ ∀ p, H1 p = none → Q (.ref p) (upd H1 p (.lst xs.reverse))) ∨ (∃ a xs, x = .ref a ∧ SqT K H1 a xs ∧ ∀ p, H1 p = none → Q (.ref p) (upd H1 p (.tup xs.reverse)))
end
section
variable {K : PySem.W.Frag} {σ : L2.St} {H : Hp} {Q : VK} {te : TE} {a : Addr} {xs : List V} {B : Prop}
theorem i_rev (q : te σ H fun x H1 => (∃ a xs, x = .ref a ∧ SqL K H1 a xs ∧ ∀ p, H1 p = none → Q (.ref p) (upd H1 p (.lst xs.reverse))) ∨ (∃ a xs, x = .ref a ∧ SqT K H1 a xs ∧ ∀ p, H1 p = none → Q (.ref p) (upd H1 p (.tup xs.reverse)))) : tRev K te σ H Q := q
end
end Fg
namespace Fg
open PySem PySem.Spec PyProof.Rows L2
abbrev FTab := List (List Nat × Option (List Nat) × List Nat × List Nat)
def gI (tb : FTab) (u : List Nat) : Option (List Nat) := match tb.lookup u with
  | some e => e.1
  | none => none
def gT (tb : FTab) (u : List Nat) : List Nat := match tb.lookup u with
  | some e => e.2.1
  | none => []
theorem look_mem : ∀ {tb : FTab} {u : List Nat}, (tb.lookup u).isSome = true → ∃ e ∈ tb, e.1 = u
  | [], u, h => by cases h
  | (v, e) :: r, u, h => by
    rw [List.lookup_cons] at h
    cases hb : u == v with
    | true => exact ⟨_, List.mem_cons_self, (beq_iff_eq.mp hb).symm⟩
    | false =>
      rw [hb] at h
      obtain ⟨e', h1, h2⟩ := look_mem (tb := r) h
      exact ⟨e', List.mem_cons_of_mem _ h1, h2⟩
end Fg
namespace Fg
open PySem PySem.Spec PyProof.Rows L2
def rLtPS (K : PySem.W.Frag) : R2 := fun x y H Q => ∃ (a b : Addr) (i j : Int) (l m : List Nat), x = .ref a ∧ y = .ref b ∧ SqT K H a [.int i, S l] ∧ SqT K H b [.int j, S m] ∧ Q (.bl (slt i l j m)) H
theorem op_ltPS {X : Cx} (hu : X.A.units < cLine) : OpR X (compareOp .Lt) (rLtPS X.K) := by
  intro pins s σ H x y v u Q I rx ry h
  obtain ⟨a, b, i, j, l, m, rfl, rfl, ha, hb, q⟩ := h
  cases rx
  cases ry
  obtain ⟨us, r1, p1, _⟩ := I.tuple ha
  obtain ⟨us2, r2, p2, _⟩ := I.tuple hb
  exact rc_pair_lt r1 r2 p1 p2 hu X.prog X.w _ _ ⟨.bl _, H, I, rfl, q⟩
theorem opLtPS (K : PySem.W.Frag) {X : Cx} (hu : X.A.units < cLine) (h : X.K = K := by rfl) : OpR X (compareOp .Lt) (rLtPS K) := h ▸ op_ltPS hu
theorem i_ltPS {K : PySem.W.Frag} {H : Hp} {Q : VK} {a b : Addr} {i j : Int} {l m : List Nat} (h1 : SqT K H a [.int i, S l]) (h2 : SqT K H b [.int j, S m]) (q : Q (.bl (slt i l j m)) H) : rLtPS K (.ref a) (.ref b) H Q := ⟨a, b, i, j, l, m, rfl, rfl, h1, h2, q⟩
theorem rst_split (l : List Nat) : ∃ z j, l = z ++ List.replicate j 46 ∧ z.getLast? ≠ some 46 ∧ ((l.reverse.takeWhile fun c => ([46] : List Nat).toArray.contains c).length = j) := by
  have h1 := List.takeWhile_append_dropWhile (p := fun c => ([46] : List Nat).toArray.contains c) (l := l.reverse)
  have h2 : ∀ c ∈ l.reverse.takeWhile (fun c => ([46] : List Nat).toArray.contains c), c = 46 := fun c hc => by
    have := List.all_eq_true.mp (List.all_takeWhile (p := fun c => ([46] : List Nat).toArray.contains c) (l := l.reverse)) c hc
    simpa using this
  have h3 := List.head?_dropWhile_not (p := fun c => ([46] : List Nat).toArray.contains c) (l := l.reverse)
  generalize l.reverse.takeWhile (fun c => ([46] : List Nat).toArray.contains c) = tw at *
  generalize l.reverse.dropWhile (fun c => ([46] : List Nat).toArray.contains c) = dw at *
  refine ⟨dw.reverse, tw.length, ?_, fun z => ?_, rfl⟩
  · have e : tw = List.replicate tw.length 46 := List.eq_replicate_iff.mpr ⟨rfl, h2⟩
    have := congrArg List.reverse h1
    rw [List.reverse_append, List.reverse_reverse] at this
    rw [← this]
    congr 1
    rw [← List.reverse_replicate, ← e]
  · rw [List.getLast?_reverse] at z
    rw [z] at h3
    simp at h3
theorem rst_is {l z : List Nat} {j : Nat} (e : l = z ++ List.replicate j 46) (h : (l.reverse.takeWhile fun c => ([46] : List Nat).toArray.contains c).length = j) : Txt.rstripChars ⟨l.toArray⟩ ⟨([46] : List Nat).toArray⟩ = ⟨z.toArray⟩ := by
  have hl : l.length = z.length + j := by rw [e, List.length_append, List.length_replicate]
  show (if stripSame (fun c => ([46] : List Nat).toArray.contains c) false true ⟨l.toArray⟩ = true then (⟨l.toArray⟩ : Str) else stripped (fun c => ([46] : List Nat).toArray.contains c) false true ⟨l.toArray⟩) = _
  have hi : stripHi (fun c => ([46] : List Nat).toArray.contains c) true ⟨l.toArray⟩ 0 = z.length := by
    show l.toArray.size - (((l.toArray.toList).drop 0).reverse.takeWhile _).length = _
    rw [List.drop_zero, show l.toArray.toList = l from rfl, h, show l.toArray.size = l.length from rfl]
    omega
  have e2 : stripped (fun c => ([46] : List Nat).toArray.contains c) false true ⟨l.toArray⟩ = ⟨z.toArray⟩ := by
    show (⟨l.toArray.extract 0 (stripHi (fun c => ([46] : List Nat).toArray.contains c) true ⟨l.toArray⟩ 0)⟩ : Str) = _
    rw [hi]
    congr 1
    rw [List.extract_toArray]
    congr 1
    show (l.take z.length).drop 0 = z
    rw [e, List.take_left]
    rfl
  split
  · rename_i h2
    have h2 : (stripLo (fun c => ([46] : List Nat).toArray.contains c) false ⟨l.toArray⟩ == 0 && stripHi (fun c => ([46] : List Nat).toArray.contains c) true ⟨l.toArray⟩ 0 == l.length) = true := h2
    rw [Bool.and_eq_true, hi] at h2
    have h3 : z.length = l.length := by simpa using h2.2
    have : j = 0 := by omega
    subst this
    rw [e]
    simp
  · exact e2
theorem i_rst {K : PySem.W.Frag} {σ : L2.St} {H : Hp} {Q : VK} {to : TE} {ta : TA} (q : to σ H fun x H1 => tyV K "str" x H1 ∧ ta σ H1 fun xs H2 => rRst x xs H2 Q) : tRst K to ta σ H Q := q
theorem i_rst46 {H : Hp} {Q : VK} {l : List Nat} (hl : l.length ≤ 100000) (q : ∀ z j, l = z ++ List.replicate j 46 → z.getLast? ≠ some 46 → Q (S z) H) : rRst (S l) [S [46]] H Q := by
  obtain ⟨z, j, e, h1, h2⟩ := rst_split l
  refine ⟨_, _, rfl, rfl, Nat.le_trans hl (by decide), ?_⟩
  rw [rst_is e h2]
  exact q z j e h1
section
variable {K : PySem.W.Frag} {σ : L2.St} {G : Hp} {Q : VK} {te td : TE} {tt : TT} {j : Nat} {d : Addr} {kvs : List (Key × V)} {vs : List Nat}
theorem c_keysF (f : Nat → Bool) (v : Nat → V) (hd : G d = some (.dK kvs)) (ha : ∀ (G1 : Hp) (R : VK), R (.ref d) G1 → td σ G1 R) (hn : kvs.length ≤ 10000) (hw : ∀ x, wipe ((wipe σ vs).set j (some x)) vs = wipe σ vs)
    (ht : ∀ i k y G1 od, kvs[i]? = some (k, y) → G1 d = some (.frz od (.dK kvs)) → ∀ QB : Bool → Hp → Prop, QB (f i) G1 → tt ((wipe σ vs).set j (some (kV k))) G1 QB)
    (he : ∀ i k y G1 od, kvs[i]? = some (k, y) → G1 d = some (.frz od (.dK kvs)) → f i = true → ∀ QV : VK, QV (v i) G1 → te ((wipe σ vs).set j (some (kV k))) G1 QV)
    (q : ∀ Dl, G Dl = none → Q (.ref Dl) (upd G Dl (.lst (kept f v kvs.length)))) : tLockE (tLc (iKeys td) (gName j) tt te vs) σ G Q := by
  refine ⟨d, _, hd, True.intro, fun od => ?_⟩
  refine ha _ _ ⟨d, od, rfl, .inl ⟨kvs, upd_same, fun Dl nD => ?_⟩⟩
  have neD : Dl ≠ d := fun z => by rw [z, upd_same] at nD; cases nD
  have nDG : G Dl = none := by rw [upd_ne neD] at nD; exact nD
  refine lc_it walk_keys (fun i H' => H' = upd (upd G d (.frz od (.dK kvs))) Dl (.lst (kept f v i))) rfl (fun i H' hi p => by rw [p, upd_ne neD.symm, upd_same]) (fun i x H' H2 hi p y => ?_) (fun H' p => ?_)
  · obtain ⟨rfl, k, y, hk, rfl⟩ := y
    have hf : H2 d = some (.frz od (.dK kvs)) := by rw [p, upd_ne neD.symm, upd_same]
    refine ⟨hw _, ht i k y H2 od hk hf _ ?_⟩
    cases ef : f i with
    | false =>
      rw [if_neg (by decide)]
      rw [kept_no ef]; exact p
    | true =>
      rw [if_pos rfl]
      refine he i k y H2 od hk hf ef _ ⟨kept f v i, by rw [p]; exact upd_same, Nat.lt_of_le_of_lt (Nat.le_trans (kept_len f v i) (by omega)) (show 10000 < sizeLine by decide), ?_⟩
      rw [p, upd_upd, kept_yes ef]
  · subst p
    refine ⟨(upd_ne neD.symm).trans upd_same, ?_⟩
    have : upd (upd (upd G d (.frz od (.dK kvs))) Dl (.lst (kept f v kvs.length))) d (.dK kvs) = upd G Dl (.lst (kept f v kvs.length)) := by
      funext b
      by_cases hb : b = d
      · rw [hb, upd_same, upd_ne neD.symm, hd]
      · rw [upd_ne hb]
        by_cases hc : b = Dl
        · rw [hc, upd_same, upd_same]
        · rw [upd_ne hc, upd_ne hc, upd_ne hb]
    rw [this]
    exact q Dl nDG
end
theorem c_rng2A {σ : L2.St} {H : Hp} {ta : TA} {te : TE} {vs : List Nat} {j : Nat} {Q : VK} (lo n : Nat) (ha : ∀ R : List V → Hp → Prop, R [.int (lo : Int), .int (n : Int)] H → ta σ H R) (hn : lo ≤ 100000 ∧ n ≤ 100000) (v : Nat → V) (hw : ∀ x, wipe ((wipe σ vs).set j (some x)) vs = wipe σ vs)
    (he : ∀ i H2, lo + i < n → Same H H2 → ∀ QV : VK, (∀ H3, Same H2 H3 → QV (v i) H3) → te ((wipe σ vs).set j (some (.int ((lo + i : Nat) : Int)))) H2 QV)
    (q : ∀ Dl H2, H Dl = none → Same H H2 → H2 Dl = some (.lst ((List.range (n - lo)).map v)) → Q (.ref Dl) H2) : tLc (iRng2 ta) (gName j) tYes te vs σ H Q := by
  refine ha _ ⟨(lo : Int), (n : Int), rfl, ⟨by omega, by omega, by omega, by omega⟩, fun Dl nD => ?_⟩
  have e : ((n : Int) - (lo : Int)).toNat = n - lo := by omega
  rw [e]
  refine lc_range (Lw H Dl (kept (fun _ => true) v)) ⟨nD, same_upd nD, upd_same⟩ (fun i H' hi p => ?_) (fun H' p => q Dl H' p.1 p.2.1 (by rw [← kept_all]; exact p.2.2))
  rw [← Int.natCast_add]
  exact ⟨hw _, lw_turn p (by omega) (fun H2 s2 QB k => k H2 (Same.refl H2)) (fun H2 s2 _ => he i H2 (by omega) s2)⟩
def rSrtD : RC := fun xs H Q => ∃ (a : Addr) (kvs : List (Key × V)) (ks : List (List Nat)), xs = [.ref a] ∧ H a = some (.dK kvs) ∧ kvs.map (·.1) = ks.map kS ∧ ks.length < 64 ∧ ∀ (ys : List (List Nat)) (p : Addr), ys.Perm ks → H p = none → Q (.ref p) (upd H p (.lst (ys.map S)))
theorem cSrtD {X : Cx} (hc : X.calm = true := by rfl) : CallR X (.builtin "sorted") rSrtD := by
  intro pins s σ H xs us Q I r h
  obtain ⟨a, kvs, ks, rfl, e, ek, l, q⟩ := h
  refine call_sortedD hc pins s σ H [.ref a] us Q I r ⟨a, kvs, ks.map fun l => ⟨l.toArray⟩, rfl, .inl e, by rw [ek, List.map_map]; rfl, by rw [List.length_map]; exact l, fun ys p hp _ np => ?_⟩
  have hy : ∃ zs : List (List Nat), ys = zs.map fun l => (⟨l.toArray⟩ : Str) := ⟨ys.map fun y => y.cps.toList, by rw [List.map_map]; exact (List.map_id ys).symm.trans (List.map_congr_left fun y _ => rfl)⟩
  obtain ⟨zs, rfl⟩ := hy
  have hz : zs.Perm ks := by
    have := hp.map fun y : Str => y.cps.toList
    rw [List.map_map, List.map_map] at this
    rwa [show ((fun y : Str => y.cps.toList) ∘ fun l : List Nat => (⟨l.toArray⟩ : Str)) = id from rfl, List.map_id, List.map_id] at this
  have := q zs p hz np
  rw [List.map_map]
  exact this
theorem i_srtD {H : Hp} {Q : VK} {a : Addr} {kvs : List (Key × V)} {ks : List (List Nat)} (h : H a = some (.dK kvs)) (e : kvs.map (·.1) = ks.map kS) (l : ks.length < 64) (q : ∀ (ys : List (List Nat)) (p : Addr), ys.Perm ks → H p = none → Q (.ref p) (upd H p (.lst (ys.map S)))) : rSrtD [.ref a] H Q := ⟨a, kvs, ks, rfl, h, e, l, q⟩
end Fg
namespace Fg
open PySem PySem.Spec PyProof.Rows L2
theorem row_its {G : Type} {sg : G → Stv} {wg : G → List Nat} : ∀ p : List Nat, stIs sg (p.map fun c => (.inl (0, c) : ItG G)) = (p.length, p) ∧ wIs wg (p.map fun c => (.inl (0, c) : ItG G)) = p
  | [] => ⟨rfl, rfl⟩
  | c :: r => by
    obtain ⟨h1, h2⟩ := row_its (sg := sg) (wg := wg) r
    refine ⟨?_, ?_⟩
    · rw [List.map_cons, stIs_cons, h1]
      show ((1 * 1 + r.length, _) : Stv) = _
      rw [List.length_cons, Nat.add_comm]
      rfl
    · show (wI wg (.inl (0, c)) :: (r.map fun c => (.inl (0, c) : ItG G)).map (wI wg)).flatten = _
      rw [List.flatten_cons]
      unfold wIs at h2
      rw [h2]
      rfl
theorem row_told {p : List Nat} (h : p.length ≤ 24) (hr : Row p) (hp : p ≠ []) : told p = .done (p.length, p) := by
  obtain ⟨h1, h2⟩ := row_its (sg := stG 0) (wg := wG 0) p
  have q : stP (stG 0) (p.map (fun c => (.inl (0, c) : ItG (Gr 0))), 0) = (p.length, p) := by
    unfold stP
    rw [if_neg (Nat.lt_irrefl 0)]
    exact h1
  have := told_ok 0 (by decide) [(p.map (fun c => (.inl (0, c) : ItG (Gr 0))), 0)] ⟨by simp, fun x hx => by
    rw [List.mem_singleton.mp hx]
    refine ⟨by simpa using hp, fun i hi => ?_, .inl rfl⟩
    obtain ⟨c, hc, rfl⟩ := List.mem_map.mp hi
    exact ⟨hr c hc, .inl rfl⟩⟩
  rw [show stG 1 [(p.map (fun c => (.inl (0, c) : ItG (Gr 0))), 0)] = stPs (stG 0) [(p.map (fun c => (.inl (0, c) : ItG (Gr 0))), 0)] from rfl, stPs_single q rfl (List.length_pos_iff.mpr hp)] at this
  rw [show wG 1 [(p.map (fun c => (.inl (0, c) : ItG (Gr 0))), 0)] = wIs (wG 0) (p.map fun c => (.inl (0, c) : ItG (Gr 0))) ++ [] from rfl, List.append_nil, h2] at this
  exact this
end Fg
namespace Fg
open PySem PySem.Spec PyProof.Rows L2
def seqD : PyData → Option (List PyData)
  | .list es => some es
  | .tuple es => some es
  | _ => none
theorem seq_at {H : Hp} {v : V} {d : PyData} {ds : List PyData} (h : At H v d) (e : seqD d = some ds) : ∃ a xs, v = .ref a ∧ xs.length ≤ 10000 ∧ AtAll H xs ds ∧ (H a = some (.lst xs) ∨ H a = some (.tup xs)) := by
  cases d with
  | list es =>
    cases e
    obtain ⟨a, xs, rfl, hA, hl, al⟩ := h.listed
    exact ⟨a, xs, rfl, hl, al, .inl hA⟩
  | tuple es =>
    cases e
    obtain ⟨a, xs, rfl, hA, hl, al⟩ := h.tupled
    exact ⟨a, xs, rfl, hl, al, .inr hA⟩
  | _ => cases e
section
variable {K : PySem.W.Frag} {H : Hp} {Q : VK} {a : Addr} {xs : List V} {i : Nat} {v : V}
theorem i_lenQ (h : H a = some (.lst xs) ∨ H a = some (.tup xs)) (q : Q (.int (xs.length : Int)) H) : rLenP K [.ref a] H Q := by
  rcases h with h | h
  · exact i_len_lst (.inl (.inl h)) q
  · exact i_len_tup (.inl (.inl h)) q
theorem i_ixQ (h : H a = some (.lst xs) ∨ H a = some (.tup xs)) (e : xs[i]? = some v) (q : Q v H) : ixP K (.ref a) (.int (i : Int)) H Q := by
  rcases h with h | h
  · exact i_ix_lst (.inl (.inl h)) (atI_nat e) q
  · exact i_ix_tup (.inl (.inl h)) (atI_nat e) q
def isTl : PyData → Bool | .tuple _ => true | _ => false
def isLl : PyData → Bool | .list _ => true | _ => false
theorem i_isiTl {d : PyData} (h : At H v d) (q : Q (.bl (isTl d)) H) : rIsi K [v, .ty "tuple"] H Q := by
  cases d with
  | none => exact i_isiD h (kit_ty (show kitB "NoneType" "tuple" = some false by decide +kernel)) q
  | bool b => exact i_isiD h (kit_ty (show kitB "bool" "tuple" = some false by decide +kernel)) q
  | int b => exact i_isiD h (kit_ty (show kitB "int" "tuple" = some false by decide +kernel)) q
  | str b => exact i_isiD h (kit_ty (show kitB "str" "tuple" = some false by decide +kernel)) q
  | list b => exact i_isiD h (kit_ty (show kitB "list" "tuple" = some false by decide +kernel)) q
  | tuple b => exact i_isiD h (kit_ty (show kitB "tuple" "tuple" = some true by decide +kernel)) q
  | dict b => exact i_isiD h (kit_ty (show kitB "dict" "tuple" = some false by decide +kernel)) q
theorem i_isiLl {d : PyData} (h : At H v d) (q : Q (.bl (isLl d)) H) : rIsi K [v, .ty "list"] H Q := by
  cases d with
  | none => exact i_isiD h (kit_ty (show kitB "NoneType" "list" = some false by decide +kernel)) q
  | bool b => exact i_isiD h (kit_ty (show kitB "bool" "list" = some false by decide +kernel)) q
  | int b => exact i_isiD h (kit_ty (show kitB "int" "list" = some false by decide +kernel)) q
  | str b => exact i_isiD h (kit_ty (show kitB "str" "list" = some false by decide +kernel)) q
  | list b => exact i_isiD h (kit_ty (show kitB "list" "list" = some true by decide +kernel)) q
  | tuple b => exact i_isiD h (kit_ty (show kitB "tuple" "list" = some false by decide +kernel)) q
  | dict b => exact i_isiD h (kit_ty (show kitB "dict" "list" = some false by decide +kernel)) q
end
end Fg
namespace K76
open PySem PySem.Spec PyProof.Rows L2 Fg
def topS (i : Nat) : Stmt := PySem.Challenge.pw_falseglim_k76_signal_lines.main.body.getD i (.Pass ⟨0, 0, 0, 0⟩)
abbrev s_deep : Stmt := topS 14
theorem sc_deep : FnScope ["thing", "level", "part"] ["thing", "level"] (defScope s_deep) := ⟨rfl, rfl, rfl, by decide +kernel, rfl, by decide +kernel, by decide +kernel⟩
abbrev s_wrong_sign : Stmt := topS 15
theorem sc_wrong_sign : FnScope ["row", "place", "sign"] ["row"] (defScope s_wrong_sign) := ⟨rfl, rfl, rfl, by decide +kernel, rfl, by decide +kernel, by decide +kernel⟩
abbrev s_is_row : Stmt := topS 16
theorem sc_is_row : FnScope ["thing", "most"] ["thing", "most"] (defScope s_is_row) := ⟨rfl, rfl, rfl, by decide +kernel, rfl, by decide +kernel, by decide +kernel⟩
abbrev s_is_letter : Stmt := topS 17
theorem sc_is_letter : FnScope ["thing"] ["thing"] (defScope s_is_letter) := ⟨rfl, rfl, rfl, by decide +kernel, rfl, by decide +kernel, by decide +kernel⟩
abbrev s_check_round : Stmt := topS 18
theorem sc_check_round : FnScope ["thing", "place"] ["thing"] (defScope s_check_round) := ⟨rfl, rfl, rfl, by decide +kernel, rfl, by decide +kernel, by decide +kernel⟩
abbrev s_shortlex : Stmt := topS 19
theorem sc_shortlex : FnScope ["row"] ["row"] (defScope s_shortlex) := ⟨rfl, rfl, rfl, by decide +kernel, rfl, by decide +kernel, by decide +kernel⟩
abbrev s_least_text : Stmt := topS 21
theorem sc_least_text : FnScope ["texts"] ["texts"] (defScope s_least_text) := ⟨rfl, rfl, rfl, by decide +kernel, rfl, by decide +kernel, by decide +kernel⟩
abbrev s_closed_text : Stmt := topS 22
theorem sc_closed_text : FnScope ["part", "texts", "found", "cut"] ["part", "texts"] (defScope s_closed_text) := ⟨rfl, rfl, rfl, by decide +kernel, rfl, by decide +kernel, by decide +kernel⟩
abbrev s_item_text : Stmt := topS 23
theorem sc_item_text : FnScope ["part", "texts", "found", "many", "times"] ["part", "texts"] (defScope s_item_text) := ⟨rfl, rfl, rfl, by decide +kernel, rfl, by decide +kernel, by decide +kernel⟩
abbrev s_items_text : Stmt := topS 24
theorem sc_items_text : FnScope ["part", "items", "texts", "found", "cut"] ["part", "items", "texts"] (defScope s_items_text) := ⟨rfl, rfl, rfl, by decide +kernel, rfl, by decide +kernel, by decide +kernel⟩
abbrev s_fold_round : Stmt := topS 25
theorem sc_fold_round : FnScope ["row", "items", "texts", "many", "low", "part"] ["row"] (defScope s_fold_round) := ⟨rfl, rfl, rfl, by decide +kernel, rfl, by decide +kernel, by decide +kernel⟩
abbrev s_common_beats : Stmt := topS 29
theorem sc_common_beats : FnScope ["first", "second", "one", "two"] ["first", "second"] (defScope s_common_beats) := ⟨rfl, rfl, rfl, by decide +kernel, rfl, by decide +kernel, by decide +kernel⟩
abbrev s_repeated : Stmt := topS 30
theorem sc_repeated : FnScope ["stretch", "times", "beats"] ["stretch", "times"] (defScope s_repeated) := ⟨rfl, rfl, rfl, by decide +kernel, rfl, by decide +kernel, by decide +kernel⟩
abbrev s_put_behind : Stmt := topS 31
theorem sc_put_behind : FnScope ["stretch", "other", "beats"] ["stretch", "other"] (defScope s_put_behind) := ⟨rfl, rfl, rfl, by decide +kernel, rfl, by decide +kernel, by decide +kernel⟩
abbrev s_first_lit : Stmt := topS 32
theorem sc_first_lit : FnScope ["signs", "sign"] ["signs"] (defScope s_first_lit) := ⟨rfl, rfl, rfl, by decide +kernel, rfl, by decide +kernel, by decide +kernel⟩
abbrev s_shown_together : Stmt := topS 33
theorem sc_shown_together : FnScope ["parts", "beats", "part", "rows", "beat", "row"] ["parts"] (defScope s_shown_together) := ⟨rfl, rfl, rfl, by decide +kernel, rfl, by decide +kernel, by decide +kernel⟩
abbrev s_behind_digits : Stmt := topS 34
theorem sc_behind_digits : FnScope ["text", "at"] ["text", "at"] (defScope s_behind_digits) := ⟨rfl, rfl, rfl, by decide +kernel, rfl, by decide +kernel, by decide +kernel⟩
abbrev s_is_within : Stmt := topS 35
theorem sc_is_within : FnScope ["run", "low", "high"] ["run", "low", "high"] (defScope s_is_within) := ⟨rfl, rfl, rfl, by decide +kernel, rfl, by decide +kernel, by decide +kernel⟩
abbrev s_read_item : Stmt := topS 36
theorem sc_read_item : FnScope ["text", "at", "opened", "low", "run", "times", "stretch"] ["text", "at", "opened"] (defScope s_read_item) := ⟨rfl, rfl, rfl, by decide +kernel, rfl, by decide +kernel, by decide +kernel⟩
abbrev s_read_filled : Stmt := topS 37
theorem sc_read_filled : FnScope ["text", "at", "part", "behind", "run", "beats"] ["text", "at", "part"] (defScope s_read_filled) := ⟨rfl, rfl, rfl, by decide +kernel, rfl, by decide +kernel, by decide +kernel⟩
abbrev s_read_part : Stmt := topS 38
theorem sc_read_part : FnScope ["text", "at", "opened", "part", "item"] ["text", "at", "opened"] (defScope s_read_part) := ⟨rfl, rfl, rfl, by decide +kernel, rfl, by decide +kernel, by decide +kernel⟩
abbrev s_read_parts : Stmt := topS 39
theorem sc_read_parts : FnScope ["text", "at", "opened", "part", "parts"] ["text", "at", "opened"] (defScope s_read_parts) := ⟨rfl, rfl, rfl, by decide +kernel, rfl, by decide +kernel, by decide +kernel⟩
abbrev s_read_round : Stmt := topS 40
theorem sc_read_round : FnScope ["text", "stretch", "at"] ["text"] (defScope s_read_round) := ⟨rfl, rfl, rfl, by decide +kernel, rfl, by decide +kernel, by decide +kernel⟩
abbrev s_Lines___init__ : Stmt := inClass (topS 42) 0
theorem sc_Lines___init__ : FnScope ["self", "texts", "at"] ["self", "texts", "at"] (defScope s_Lines___init__) := ⟨rfl, rfl, rfl, by decide +kernel, rfl, by decide +kernel, by decide +kernel⟩
abbrev s_Lines_is_over : Stmt := inClass (topS 42) 1
theorem sc_Lines_is_over : FnScope ["self"] ["self"] (defScope s_Lines_is_over) := ⟨rfl, rfl, rfl, by decide +kernel, rfl, by decide +kernel, by decide +kernel⟩
abbrev s_Lines_words : Stmt := inClass (topS 42) 3
theorem sc_Lines_words : FnScope ["self"] ["self"] (defScope s_Lines_words) := ⟨rfl, rfl, rfl, by decide +kernel, rfl, by decide +kernel, by decide +kernel⟩
abbrev s_Lines_word_at : Stmt := inClass (topS 42) 7
theorem sc_Lines_word_at : FnScope ["self", "number", "words"] ["self", "number"] (defScope s_Lines_word_at) := ⟨rfl, rfl, rfl, by decide +kernel, rfl, by decide +kernel, by decide +kernel⟩
abbrev s_Lines_letter_at : Stmt := inClass (topS 42) 13
theorem sc_Lines_letter_at : FnScope ["self", "number", "word"] ["self", "number"] (defScope s_Lines_letter_at) := ⟨rfl, rfl, rfl, by decide +kernel, rfl, by decide +kernel, by decide +kernel⟩
abbrev s_Lines_row_at : Stmt := inClass (topS 42) 14
theorem sc_Lines_row_at : FnScope ["self", "number", "low", "high", "word"] ["self", "number", "low", "high"] (defScope s_Lines_row_at) := ⟨rfl, rfl, rfl, by decide +kernel, rfl, by decide +kernel, by decide +kernel⟩
abbrev s_Lines_round_at : Stmt := inClass (topS 42) 15
theorem sc_Lines_round_at : FnScope ["self", "number", "word", "why"] ["self", "number"] (defScope s_Lines_round_at) := ⟨rfl, rfl, rfl, by decide +kernel, rfl, by decide +kernel, by decide +kernel⟩
abbrev s_Lines_close_at : Stmt := inClass (topS 42) 16
theorem sc_Lines_close_at : FnScope ["self", "number"] ["self", "number"] (defScope s_Lines_close_at) := ⟨rfl, rfl, rfl, by decide +kernel, rfl, by decide +kernel, by decide +kernel⟩
abbrev s_Lines_want : Stmt := inClass (topS 42) 17
theorem sc_Lines_want : FnScope ["self", "word"] ["self", "word"] (defScope s_Lines_want) := ⟨rfl, rfl, rfl, by decide +kernel, rfl, by decide +kernel, by decide +kernel⟩
abbrev s_is_signal : Stmt := topS 48
theorem sc_is_signal : FnScope ["thing"] ["thing"] (defScope s_is_signal) := ⟨rfl, rfl, rfl, by decide +kernel, rfl, by decide +kernel, by decide +kernel⟩
abbrev s_check_signals : Stmt := topS 49
theorem sc_check_signals : FnScope ["signals", "there", "number", "signal"] ["signals"] (defScope s_check_signals) := ⟨rfl, rfl, rfl, by decide +kernel, rfl, by decide +kernel, by decide +kernel⟩
abbrev s_wrong_piece : Stmt := topS 50
abbrev s_message_row : Stmt := topS 51
abbrev s_Signals___init__ : Stmt := inClass (topS 52) 0
theorem sc_Signals___init__ : FnScope ["self", "plain", "signals", "told", "letter", "word"] ["self", "plain", "signals"] (defScope s_Signals___init__) := ⟨rfl, rfl, rfl, by decide +kernel, rfl, by decide +kernel, by decide +kernel⟩
abbrev s_Signals___len__ : Stmt := inClass (topS 52) 1
abbrev s_Signals___iter__ : Stmt := inClass (topS 52) 2
abbrev s_Signals___eq__ : Stmt := inClass (topS 52) 3
theorem sc_Signals___eq__ : FnScope ["self", "other"] ["self", "other"] (defScope s_Signals___eq__) := ⟨rfl, rfl, rfl, by decide +kernel, rfl, by decide +kernel, by decide +kernel⟩
abbrev s_Signals___call__ : Stmt := inClass (topS 52) 4
abbrev s_write_signals : Stmt := topS 53
theorem sc_write_signals : FnScope ["signals", "lines", "letter", "word"] ["signals"] (defScope s_write_signals) := ⟨rfl, rfl, rfl, by decide +kernel, rfl, by decide +kernel, by decide +kernel⟩
abbrev s_read_signals : Stmt := topS 54
theorem sc_read_signals : FnScope ["lines", "reader", "row", "signals", "letter", "word"] ["lines"] (defScope s_read_signals) := ⟨rfl, rfl, rfl, by decide +kernel, rfl, by decide +kernel, by decide +kernel⟩
abbrev s_L_draw : Stmt := topS 56
theorem sc_L_draw : FnScope ["_law_script", "_law_cells", "_law_cell"] ["_law_script"] (defScope s_L_draw) := ⟨rfl, rfl, rfl, by decide +kernel, rfl, by decide +kernel, by decide +kernel⟩
abbrev s_L_mix : Stmt := topS 57
theorem sc_L_mix : FnScope ["_law_cell", "_law_turn", "_law_one", "_law_two"] ["_law_cell", "_law_turn"] (defScope s_L_mix) := ⟨rfl, rfl, rfl, by decide +kernel, rfl, by decide +kernel, by decide +kernel⟩
abbrev s_L_pick : Stmt := topS 58
theorem sc_L_pick : FnScope ["_law_draw_here", "_law_many", "_law_cell", "_law_digit", "_law_found"] ["_law_draw_here", "_law_many"] (defScope s_L_pick) := ⟨rfl, rfl, rfl, by decide +kernel, rfl, by decide +kernel, by decide +kernel⟩
abbrev s_L_sign : Stmt := topS 59
theorem sc_L_sign : FnScope ["_law_draw_here"] ["_law_draw_here"] (defScope s_L_sign) := ⟨rfl, rfl, rfl, by decide +kernel, rfl, by decide +kernel, by decide +kernel⟩
abbrev s_L_round : Stmt := topS 60
theorem sc_L_round : FnScope ["_law_draw_here", "_law_most", "_law_turn"] ["_law_draw_here", "_law_most"] (defScope s_L_round) := ⟨rfl, rfl, rfl, by decide +kernel, rfl, by decide +kernel, by decide +kernel⟩
abbrev s_L_bent : Stmt := topS 61
theorem sc_L_bent : FnScope ["_law_draw_here", "_law_row", "_law_place", "_law_kind"] ["_law_draw_here", "_law_row"] (defScope s_L_bent) := ⟨rfl, rfl, rfl, by decide +kernel, rfl, by decide +kernel, by decide +kernel⟩
abbrev s_L_letter : Stmt := topS 62
theorem sc_L_letter : FnScope ["_law_draw_here", "_law_used", "_law_pool", "_law_letter_here"] ["_law_draw_here", "_law_used"] (defScope s_L_letter) := ⟨rfl, rfl, rfl, by decide +kernel, rfl, by decide +kernel, by decide +kernel⟩
abbrev s_L_talk : Stmt := topS 63
theorem sc_L_talk : FnScope ["_law_draw_here", "_law_many", "_law_most", "_law_plain", "_law_pairs", "_law_used", "_law_last", "_law_turn", "_law_word"] ["_law_draw_here", "_law_many", "_law_most"] (defScope s_L_talk) := ⟨rfl, rfl, rfl, by decide +kernel, rfl, by decide +kernel, by decide +kernel⟩
abbrev s_L_least : Stmt := topS 64
theorem sc_L_least : FnScope ["_law_texts_here", "_law_best", "_law_one"] ["_law_texts_here"] (defScope s_L_least) := ⟨rfl, rfl, rfl, by decide +kernel, rfl, by decide +kernel, by decide +kernel⟩
abbrev s_L_items : Stmt := topS 65
theorem sc_L_items : FnScope ["_law_row", "_law_parts", "_law_texts_here", "_law_many", "_law_times"] ["_law_row", "_law_parts"] (defScope s_L_items) := ⟨rfl, rfl, rfl, by decide +kernel, rfl, by decide +kernel, by decide +kernel⟩
abbrev s_L_folded : Stmt := topS 66
theorem sc_L_folded : FnScope ["_law_row", "_law_items_here", "_law_parts", "_law_many", "_law_low", "_law_piece", "_law_texts_here", "_law_lit", "_law_tails", "_law_cut"] ["_law_row"] (defScope s_L_folded) := ⟨rfl, rfl, rfl, by decide +kernel, rfl, by decide +kernel, by decide +kernel⟩
abbrev s_L_texts : Stmt := topS 67
theorem sc_L_texts : FnScope ["_law_texts_here", "_law_word"] [] (defScope s_L_texts) := ⟨rfl, rfl, rfl, by decide +kernel, rfl, by decide +kernel, by decide +kernel⟩
abbrev s_L_is_row : Stmt := topS 68
theorem sc_L_is_row : FnScope ["_law_word", "_law_most", "_law_sign_here"] ["_law_word", "_law_most"] (defScope s_L_is_row) := ⟨rfl, rfl, rfl, by decide +kernel, rfl, by decide +kernel, by decide +kernel⟩
abbrev s_L_round_of : Stmt := topS 69
theorem sc_L_round_of : FnScope ["_law_word", "_law_texts_here"] ["_law_word", "_law_texts_here"] (defScope s_L_round_of) := ⟨rfl, rfl, rfl, by decide +kernel, rfl, by decide +kernel, by decide +kernel⟩
abbrev s_L_bad_word : Stmt := topS 70
theorem sc_L_bad_word : FnScope ["_law_line", "_law_number", "_law_texts_here", "_law_words", "_law_due_here", "_law_place"] ["_law_line", "_law_number", "_law_texts_here"] (defScope s_L_bad_word) := ⟨rfl, rfl, rfl, by decide +kernel, rfl, by decide +kernel, by decide +kernel⟩
abbrev s_L_due : Stmt := topS 71
theorem sc_L_due : FnScope ["_law_lines", "_law_texts_here", "_law_number", "_law_bad", "_law_pairs", "_law_used", "_law_words"] ["_law_lines", "_law_texts_here"] (defScope s_L_due) := ⟨rfl, rfl, rfl, by decide +kernel, rfl, by decide +kernel, by decide +kernel⟩
abbrev s_L_told : Stmt := topS 72
theorem sc_L_told : FnScope ["_law_lines", "_law_signals", "e"] ["_law_lines"] (defScope s_L_told) := ⟨rfl, rfl, rfl, by decide +kernel, rfl, by decide +kernel, by decide +kernel⟩
abbrev s_L_spoilt_line : Stmt := topS 73
theorem sc_L_spoilt_line : FnScope ["_law_draw_here", "_law_line", "_law_texts_here", "_law_menu", "_law_words", "_law_place", "_law_kind", "_law_word"] ["_law_draw_here", "_law_line", "_law_texts_here"] (defScope s_L_spoilt_line) := ⟨rfl, rfl, rfl, by decide +kernel, rfl, by decide +kernel, by decide +kernel⟩
abbrev s_L_spoilt : Stmt := topS 74
theorem sc_L_spoilt : FnScope ["_law_draw_here", "_law_lines", "_law_texts_here", "_law_place", "_law_kind", "_law_other", "_law_turned", "_law_line"] ["_law_draw_here", "_law_lines", "_law_texts_here"] (defScope s_L_spoilt) := ⟨rfl, rfl, rfl, by decide +kernel, rfl, by decide +kernel, by decide +kernel⟩
abbrev s_L_asked : Stmt := topS 75
theorem sc_L_asked : FnScope ["_law_draw_here", "_law_plain", "_law_pairs", "_law_signals", "_law_folded_here", "_law_due_here", "_law_lines", "_law_back", "_law_texts_here", "_law_good", "_law_turn", "_law_kind", "_law_passed", "_law_before", "_law_pair", "_law_text"] ["_law_draw_here"] (defScope s_L_asked) := ⟨rfl, rfl, rfl, by decide +kernel, rfl, by decide +kernel, by decide +kernel⟩
abbrev s_law : Stmt := topS 76
theorem sc_law : FnScope ["_law_script"] ["_law_script"] (defScope s_law) := ⟨rfl, rfl, rfl, by decide +kernel, rfl, by decide +kernel, by decide +kernel⟩
abbrev s_BadRound : Stmt := inClass (topS 3) 0
theorem sc_BadRound : FnScope ["self", "number"] ["self", "number"] (defScope s_BadRound) := ⟨rfl, rfl, rfl, by decide +kernel, rfl, by decide +kernel, by decide +kernel⟩
abbrev s_BadText : Stmt := inClass (topS 4) 0
theorem sc_BadText : FnScope ["self", "at"] ["self", "at"] (defScope s_BadText) := ⟨rfl, rfl, rfl, by decide +kernel, rfl, by decide +kernel, by decide +kernel⟩
abbrev s_BadLine : Stmt := inClass (topS 5) 0
theorem sc_BadLine : FnScope ["self", "line", "word"] ["self", "line", "word"] (defScope s_BadLine) := ⟨rfl, rfl, rfl, by decide +kernel, rfl, by decide +kernel, by decide +kernel⟩
abbrev s_BadSignal : Stmt := inClass (topS 6) 0
theorem sc_BadSignal : FnScope ["self", "number"] ["self", "number"] (defScope s_BadSignal) := ⟨rfl, rfl, rfl, by decide +kernel, rfl, by decide +kernel, by decide +kernel⟩
abbrev s_BadMessage : Stmt := inClass (topS 7) 0
abbrev s_TooLong : Stmt := inClass (topS 8) 0
theorem sc_TooLong : FnScope ["self", "number"] ["self", "number"] (defScope s_TooLong) := ⟨rfl, rfl, rfl, by decide +kernel, rfl, by decide +kernel, by decide +kernel⟩
/-- what the top has written -/
structure Txt (K : PySem.W.Frag) (mg : Str → Option Value) (C_GlimError : Addr) (C_BadRound : Addr) (C_BadText : Addr) (C_BadLine : Addr) (C_BadSignal : Addr) (C_BadMessage : Addr) (C_TooLong : Addr) (C_Lines : Addr) (C_Signals : Addr) (C_dt_Signals___init__ : Addr) : Prop where
  d_deep : DefD K mg "deep" s_deep ["thing", "level"] [.int (0)]
  d_wrong_sign : DefIn K mg "wrong_sign" s_wrong_sign ["row"]
  d_is_row : DefIn K mg "is_row" s_is_row ["thing", "most"]
  d_is_letter : DefIn K mg "is_letter" s_is_letter ["thing"]
  d_check_round : DefIn K mg "check_round" s_check_round ["thing"]
  d_shortlex : DefIn K mg "shortlex" s_shortlex ["row"]
  d_least_text : DefIn K mg "least_text" s_least_text ["texts"]
  d_closed_text : DefIn K mg "closed_text" s_closed_text ["part", "texts"]
  d_item_text : DefIn K mg "item_text" s_item_text ["part", "texts"]
  d_items_text : DefIn K mg "items_text" s_items_text ["part", "items", "texts"]
  d_fold_round : DefIn K mg "fold_round" s_fold_round ["row"]
  d_common_beats : DefIn K mg "common_beats" s_common_beats ["first", "second"]
  d_repeated : DefIn K mg "repeated" s_repeated ["stretch", "times"]
  d_put_behind : DefIn K mg "put_behind" s_put_behind ["stretch", "other"]
  d_first_lit : DefIn K mg "first_lit" s_first_lit ["signs"]
  d_shown_together : DefIn K mg "shown_together" s_shown_together ["parts"]
  d_behind_digits : DefIn K mg "behind_digits" s_behind_digits ["text", "at"]
  d_is_within : DefIn K mg "is_within" s_is_within ["run", "low", "high"]
  d_read_item : DefIn K mg "read_item" s_read_item ["text", "at", "opened"]
  d_read_filled : DefIn K mg "read_filled" s_read_filled ["text", "at", "part"]
  d_read_part : DefIn K mg "read_part" s_read_part ["text", "at", "opened"]
  d_read_parts : DefIn K mg "read_parts" s_read_parts ["text", "at", "opened"]
  d_read_round : DefIn K mg "read_round" s_read_round ["text"]
  m_Lines___init__ : MkIn K mg "Lines" "Lines.__init__" C_Lines s_Lines___init__ ["self", "texts", "at"] [.int (0)]
  m_Lines_is_over : MetIn K C_Lines "is_over" "Lines.is_over" s_Lines_is_over ["self"] []
  m_Lines_words : MetIn K C_Lines "words" "Lines.words" s_Lines_words ["self"] []
  m_Lines_word_at : MetIn K C_Lines "word_at" "Lines.word_at" s_Lines_word_at ["self", "number"] []
  m_Lines_letter_at : MetIn K C_Lines "letter_at" "Lines.letter_at" s_Lines_letter_at ["self", "number"] []
  m_Lines_row_at : MetIn K C_Lines "row_at" "Lines.row_at" s_Lines_row_at ["self", "number", "low", "high"] []
  m_Lines_round_at : MetIn K C_Lines "round_at" "Lines.round_at" s_Lines_round_at ["self", "number"] []
  m_Lines_close_at : MetIn K C_Lines "close_at" "Lines.close_at" s_Lines_close_at ["self", "number"] []
  m_Lines_want : MetIn K C_Lines "want" "Lines.want" s_Lines_want ["self", "word"] []
  d_is_signal : DefIn K mg "is_signal" s_is_signal ["thing"]
  d_check_signals : DefIn K mg "check_signals" s_check_signals ["signals"]
  d_wrong_piece : DefIn K mg "wrong_piece" s_wrong_piece ["signals", "message"]
  d_message_row : DefIn K mg "message_row" s_message_row ["signals", "message"]
  m_Signals___init__ : MkIn K mg "Signals" "Signals.__init__" C_Signals s_Signals___init__ ["self", "plain", "signals"] [.ref C_dt_Signals___init__]
  m_Signals___len__ : MetIn K C_Signals "__len__" "Signals.__len__" s_Signals___len__ ["self"] []
  m_Signals___iter__ : MetIn K C_Signals "__iter__" "Signals.__iter__" s_Signals___iter__ ["self"] []
  m_Signals___eq__ : MetIn K C_Signals "__eq__" "Signals.__eq__" s_Signals___eq__ ["self", "other"] []
  m_Signals___call__ : MetIn K C_Signals "__call__" "Signals.__call__" s_Signals___call__ ["self", "message"] []
  d_write_signals : DefIn K mg "write_signals" s_write_signals ["signals"]
  d_read_signals : DefIn K mg "read_signals" s_read_signals ["lines"]
  d_L_draw : DefIn K mg "_law_draw" s_L_draw ["_law_script"]
  d_L_mix : DefIn K mg "_law_mix" s_L_mix ["_law_cell", "_law_turn"]
  d_L_pick : DefIn K mg "_law_pick" s_L_pick ["_law_draw_here", "_law_many"]
  d_L_sign : DefIn K mg "_law_sign" s_L_sign ["_law_draw_here"]
  d_L_round : DefIn K mg "_law_round" s_L_round ["_law_draw_here", "_law_most"]
  d_L_bent : DefIn K mg "_law_bent" s_L_bent ["_law_draw_here", "_law_row"]
  d_L_letter : DefIn K mg "_law_letter" s_L_letter ["_law_draw_here", "_law_used"]
  d_L_talk : DefIn K mg "_law_talk" s_L_talk ["_law_draw_here", "_law_many", "_law_most"]
  d_L_least : DefIn K mg "_law_least" s_L_least ["_law_texts_here"]
  d_L_items : DefIn K mg "_law_items" s_L_items ["_law_row", "_law_parts"]
  d_L_folded : DefIn K mg "_law_folded" s_L_folded ["_law_row"]
  d_L_texts : DefIn K mg "_law_texts" s_L_texts []
  d_L_is_row : DefIn K mg "_law_is_row" s_L_is_row ["_law_word", "_law_most"]
  d_L_round_of : DefIn K mg "_law_round_of" s_L_round_of ["_law_word", "_law_texts_here"]
  d_L_bad_word : DefIn K mg "_law_bad_word" s_L_bad_word ["_law_line", "_law_number", "_law_texts_here"]
  d_L_due : DefIn K mg "_law_due" s_L_due ["_law_lines", "_law_texts_here"]
  d_L_told : DefIn K mg "_law_told" s_L_told ["_law_lines"]
  d_L_spoilt_line : DefIn K mg "_law_spoilt_line" s_L_spoilt_line ["_law_draw_here", "_law_line", "_law_texts_here"]
  d_L_spoilt : DefIn K mg "_law_spoilt" s_L_spoilt ["_law_draw_here", "_law_lines", "_law_texts_here"]
  d_L_asked : DefIn K mg "_law_asked" s_L_asked ["_law_draw_here"]
  d_law : DefIn K mg "law" s_law ["_law_script"]
  b_abs : mg "abs" = none
  b_enumerate : mg "enumerate" = none
  b_int : mg "int" = none
  b_isinstance : mg "isinstance" = none
  b_iter : mg "iter" = none
  b_len : mg "len" = none
  b_list : mg "list" = none
  b_max : mg "max" = none
  b_min : mg "min" = none
  b_range : mg "range" = none
  b_repr : mg "repr" = none
  b_sorted : mg "sorted" = none
  b_str : mg "str" = none
  b_sum : mg "sum" = none
  b_tuple : mg "tuple" = none
  g_SIGNS : ∃ t, mg "SIGNS" = some (.str ⟨([46, 103, 114, 119] : List Nat).toArray⟩ t)
  g_LETTERS : ∃ t, mg "LETTERS" = some (.str ⟨([97, 98, 99, 100, 101, 102, 103, 104, 105, 106, 107, 108, 109, 110, 111, 112, 113, 114, 115, 116, 117, 118, 119, 120, 121, 122] : List Nat).toArray⟩ t)
  g_MOST_LEVELS : ∃ t, mg "MOST_LEVELS" = some (.int (70) t)
  g_MOST_ROUND : ∃ t, mg "MOST_ROUND" = some (.int (24) t)
  g_DIGITS : ∃ t, mg "DIGITS" = some (.str ⟨([48, 49, 50, 51, 52, 53, 54, 55, 56, 57] : List Nat).toArray⟩ t)
  g_MOST_OPEN : ∃ t, mg "MOST_OPEN" = some (.int (6) t)
  g_PLAIN : ∃ t, mg "PLAIN" = some (.str ⟨([48] : List Nat).toArray⟩ t)
  g_MOST_SIGNALS : ∃ t, mg "MOST_SIGNALS" = some (.int (4) t)
  g_MOST_WORD : ∃ t, mg "MOST_WORD" = some (.int (12) t)
  g_MOST_PIECES : ∃ t, mg "MOST_PIECES" = some (.int (100) t)
  c_GlimError : mg "GlimError" = some (.ref C_GlimError)
  c_BadRound : mg "BadRound" = some (.ref C_BadRound)
  c_BadText : mg "BadText" = some (.ref C_BadText)
  c_BadLine : mg "BadLine" = some (.ref C_BadLine)
  c_BadSignal : mg "BadSignal" = some (.ref C_BadSignal)
  c_BadMessage : mg "BadMessage" = some (.ref C_BadMessage)
  c_TooLong : mg "TooLong" = some (.ref C_TooLong)
  c_Lines : mg "Lines" = some (.ref C_Lines)
  c_Signals : mg "Signals" = some (.ref C_Signals)
  q_dt_Signals___init__ : ∃ o, K.lookup C_dt_Signals___init__ = some o ∧ o.cls = .type "tuple" ∧ ∀ H : Hp, SqT K H C_dt_Signals___init__ []
  cl_Lines : Cls K C_Lines
  ic_Lines : InsC K C_Lines
  nt_Lines : PySem.W.notFirst K C_Lines (.type "tuple") = true
  st_Lines : PySem.W.subIn K (.ref C_Lines) (.type "tuple") = some false
  na_Lines_texts : NoAttr K C_Lines "texts"
  na_Lines_now : NoAttr K C_Lines "now"
  cl_Signals : Cls K C_Signals
  ic_Signals : InsC K C_Signals
  nt_Signals : PySem.W.notFirst K C_Signals (.type "tuple") = true
  st_Signals : PySem.W.subIn K (.ref C_Signals) (.type "tuple") = some false
  na_Signals_plain : NoAttr K C_Signals "plain"
  na_Signals_signals : NoAttr K C_Signals "signals"
  na_Signals_spelled : NoAttr K C_Signals "spelled"
  o_BadRound : OexC K C_BadRound
  nf_BadRound_number : PySem.W.findIn K (.ref C_BadRound) "number" = some none
  i_BadRound : ∃ fI fd, PySem.W.findIn K (.ref C_BadRound) "__init__" = some (some (.ref fI)) ∧ PySem.W.typeIn K (.ref fI) = some (.type "function") ∧ Fun K "__init__" "BadRound.__init__" s_BadRound fI fd ∧ Binds K fd ["self", "number"] []
  e_BadRound : ExcD K C_BadRound
  o_BadText : OexC K C_BadText
  nf_BadText_at : PySem.W.findIn K (.ref C_BadText) "at" = some none
  i_BadText : ∃ fI fd, PySem.W.findIn K (.ref C_BadText) "__init__" = some (some (.ref fI)) ∧ PySem.W.typeIn K (.ref fI) = some (.type "function") ∧ Fun K "__init__" "BadText.__init__" s_BadText fI fd ∧ Binds K fd ["self", "at"] []
  e_BadText : ExcD K C_BadText
  o_BadLine : OexC K C_BadLine
  nf_BadLine_line : PySem.W.findIn K (.ref C_BadLine) "line" = some none
  nf_BadLine_word : PySem.W.findIn K (.ref C_BadLine) "word" = some none
  i_BadLine : ∃ fI fd, PySem.W.findIn K (.ref C_BadLine) "__init__" = some (some (.ref fI)) ∧ PySem.W.typeIn K (.ref fI) = some (.type "function") ∧ Fun K "__init__" "BadLine.__init__" s_BadLine fI fd ∧ Binds K fd ["self", "line", "word"] []
  e_BadLine : ExcD K C_BadLine
  o_BadSignal : OexC K C_BadSignal
  nf_BadSignal_number : PySem.W.findIn K (.ref C_BadSignal) "number" = some none
  i_BadSignal : ∃ fI fd, PySem.W.findIn K (.ref C_BadSignal) "__init__" = some (some (.ref fI)) ∧ PySem.W.typeIn K (.ref fI) = some (.type "function") ∧ Fun K "__init__" "BadSignal.__init__" s_BadSignal fI fd ∧ Binds K fd ["self", "number"] []
  e_BadSignal : ExcD K C_BadSignal
  o_BadMessage : OexC K C_BadMessage
  nf_BadMessage_number : PySem.W.findIn K (.ref C_BadMessage) "number" = some none
  i_BadMessage : ∃ fI fd, PySem.W.findIn K (.ref C_BadMessage) "__init__" = some (some (.ref fI)) ∧ PySem.W.typeIn K (.ref fI) = some (.type "function") ∧ Fun K "__init__" "BadMessage.__init__" s_BadMessage fI fd ∧ Binds K fd ["self", "number"] []
  e_BadMessage : ExcD K C_BadMessage
  o_TooLong : OexC K C_TooLong
  nf_TooLong_number : PySem.W.findIn K (.ref C_TooLong) "number" = some none
  i_TooLong : ∃ fI fd, PySem.W.findIn K (.ref C_TooLong) "__init__" = some (some (.ref fI)) ∧ PySem.W.typeIn K (.ref fI) = some (.type "function") ∧ Fun K "__init__" "TooLong.__init__" s_TooLong fI fd ∧ Binds K fd ["self", "number"] []
  e_TooLong : ExcD K C_TooLong
  k_Signals_Signals : PySem.W.kitOne K (.ref C_Signals) (.ref C_Signals) = some true
  k_tuple_Signals : PySem.W.kitOne K (.type "tuple") (.ref C_Signals) = some false
  k_str_Signals : PySem.W.kitOne K (.type "str") (.ref C_Signals) = some false
  k_int_Signals : PySem.W.kitOne K (.type "int") (.ref C_Signals) = some false
  k_list_Signals : PySem.W.kitOne K (.type "list") (.ref C_Signals) = some false
  k_BadLine_BadText : PySem.W.kitOne K (.ref C_BadLine) (.ref C_BadText) = some false
  k_BadLine_TooLong : PySem.W.kitOne K (.ref C_BadLine) (.ref C_TooLong) = some false
  k_BadLine_BadRound : PySem.W.kitOne K (.ref C_BadLine) (.ref C_BadRound) = some false
  k_BadLine_BadLine : PySem.W.kitOne K (.ref C_BadLine) (.ref C_BadLine) = some true
  k_BadLine_BadSignal : PySem.W.kitOne K (.ref C_BadLine) (.ref C_BadSignal) = some false
  k_BadSignal_BadText : PySem.W.kitOne K (.ref C_BadSignal) (.ref C_BadText) = some false
  k_BadSignal_TooLong : PySem.W.kitOne K (.ref C_BadSignal) (.ref C_TooLong) = some false
  k_BadSignal_BadRound : PySem.W.kitOne K (.ref C_BadSignal) (.ref C_BadRound) = some false
  k_BadSignal_BadLine : PySem.W.kitOne K (.ref C_BadSignal) (.ref C_BadLine) = some false
  k_BadSignal_BadSignal : PySem.W.kitOne K (.ref C_BadSignal) (.ref C_BadSignal) = some true
  m_BadLine_GlimError : PySem.W.exmOne K (.ref C_BadLine) (.ref C_GlimError) = some true
  m_BadSignal_GlimError : PySem.W.exmOne K (.ref C_BadSignal) (.ref C_GlimError) = some true
  m_BadText_BadText : PySem.W.exmOne K (.ref C_BadText) (.ref C_BadText) = some true
  m_BadText_TooLong : PySem.W.exmOne K (.ref C_BadText) (.ref C_TooLong) = some false
  m_TooLong_BadText : PySem.W.exmOne K (.ref C_TooLong) (.ref C_BadText) = some false
  m_TooLong_TooLong : PySem.W.exmOne K (.ref C_TooLong) (.ref C_TooLong) = some true
section
variable {P : Program} {w : World} {K : PySem.W.Frag} {mg : Str → Option Value} {base : Heap} {C_GlimError C_BadRound C_BadText C_BadLine C_BadSignal C_BadMessage C_TooLong C_Lines C_Signals C_dt_Signals___init__ : Addr}
theorem okx_BadRound (T : Txt K mg C_GlimError C_BadRound C_BadText C_BadLine C_BadSignal C_BadMessage C_TooLong C_Lines C_Signals C_dt_Signals___init__) : OKx P w K mg base "BadRound" "number" C_BadRound := by
  obtain ⟨fI, fd, h1, h2, F, hb⟩ := T.i_BadRound
  exact ⟨T.c_BadRound, T.o_BadRound, T.nf_BadRound_number, fI, fd, h1, h2, ini_ok F sc_BadRound T.o_BadRound T.nf_BadRound_number (fun cdv A outer s H E => (pss_one (ps_ost (pv 0) (pv 1)))), hb⟩
theorem okx_BadText (T : Txt K mg C_GlimError C_BadRound C_BadText C_BadLine C_BadSignal C_BadMessage C_TooLong C_Lines C_Signals C_dt_Signals___init__) : OKx P w K mg base "BadText" "at" C_BadText := by
  obtain ⟨fI, fd, h1, h2, F, hb⟩ := T.i_BadText
  exact ⟨T.c_BadText, T.o_BadText, T.nf_BadText_at, fI, fd, h1, h2, ini_ok F sc_BadText T.o_BadText T.nf_BadText_at (fun cdv A outer s H E => (pss_one (ps_ost (pv 0) (pv 1)))), hb⟩
theorem okxH_BadLine (T : Txt K mg C_GlimError C_BadRound C_BadText C_BadLine C_BadSignal C_BadMessage C_TooLong C_Lines C_Signals C_dt_Signals___init__) : Fg.OKx2H P w K mg base "BadLine" "line" "word" C_BadLine := by
  obtain ⟨fI, fd, h1, h2, F, hb⟩ := T.i_BadLine
  exact ⟨⟨T.c_BadLine, T.o_BadLine⟩, fI, fd, ⟨h1, h2⟩, Fg.ini_ok2H F sc_BadLine T.o_BadLine T.nf_BadLine_line T.nf_BadLine_word (fun cdv A fs st G Er p => (pss_cons (ps_ost (pv 0) (pv 1)) (pss_one (ps_ost (pv 0) (pv 2))))), hb⟩
theorem okx_BadLine (T : Txt K mg C_GlimError C_BadRound C_BadText C_BadLine C_BadSignal C_BadMessage C_TooLong C_Lines C_Signals C_dt_Signals___init__) : OKx2 P w K mg base "BadLine" "line" "word" C_BadLine := by
  obtain ⟨fI, fd, h1, h2, F, hb⟩ := T.i_BadLine
  exact ⟨T.c_BadLine, T.o_BadLine, fI, fd, h1, h2, ini_ok2 F sc_BadLine T.o_BadLine T.nf_BadLine_line T.nf_BadLine_word (fun cdv A outer s H E => (pss_cons (ps_ost (pv 0) (pv 1)) (pss_one (ps_ost (pv 0) (pv 2))))), hb⟩
theorem okx_BadSignal (T : Txt K mg C_GlimError C_BadRound C_BadText C_BadLine C_BadSignal C_BadMessage C_TooLong C_Lines C_Signals C_dt_Signals___init__) : OKx P w K mg base "BadSignal" "number" C_BadSignal := by
  obtain ⟨fI, fd, h1, h2, F, hb⟩ := T.i_BadSignal
  exact ⟨T.c_BadSignal, T.o_BadSignal, T.nf_BadSignal_number, fI, fd, h1, h2, ini_ok F sc_BadSignal T.o_BadSignal T.nf_BadSignal_number (fun cdv A outer s H E => (pss_one (ps_ost (pv 0) (pv 1)))), hb⟩
theorem okx_TooLong (T : Txt K mg C_GlimError C_BadRound C_BadText C_BadLine C_BadSignal C_BadMessage C_TooLong C_Lines C_Signals C_dt_Signals___init__) : OKx P w K mg base "TooLong" "number" C_TooLong := by
  obtain ⟨fI, fd, h1, h2, F, hb⟩ := T.i_TooLong
  exact ⟨T.c_TooLong, T.o_TooLong, T.nf_TooLong_number, fI, fd, h1, h2, ini_ok F sc_TooLong T.o_TooLong T.nf_TooLong_number (fun cdv A outer s H E => (pss_one (ps_ost (pv 0) (pv 1)))), hb⟩
end
local macro_rules | `(tactic| walk_at "sq") => `(tactic| first
  | assumption
  | exact .inl (.inl (by assumption))
  | exact .inl (.inl upd_same))
local macro_rules | `(tactic| walk_at "st") => `(tactic| first
  | assumption
  | exact .inl (.inl (by assumption))
  | exact .inl (.inl upd_same))
local macro_rules | `(tactic| walk_at "o") => `(tactic| first
  | omega
  | assumption
  | (simp only [List.length_append, List.length_take, List.length_drop, List.length_cons, List.length_nil, List.length_singleton, List.length_map, List.length_range, Int.toNat_natCast] ; omega))
local macro_rules | `(tactic| walk_at "s") => `(tactic| first
  | (with_reducible refine i_seq ?_)
  | (with_reducible refine i_asg ?_)
  | ((with_reducible refine' i_var ?h1 ?_); (case h1 => rfl))
  | (with_reducible refine i_c ?_)
  | ((with_reducible refine' i_gname' ?h1 ?_); (case h1 => (simp only [List.set_cons_zero, List.set_cons_succ]; rfl)))
  | (with_reducible refine i_op ?_)
  | (with_reducible refine i_ifS ?_)
  | (with_reducible refine i_for ?_)
  | (with_reducible refine i_test ?_)
  | (with_reducible refine i_B ?_)
  | (with_reducible refine i_exbl ?_)
  | (with_reducible refine i_exint ?_)
  | (with_reducible refine i_cb ?_)
  | (with_reducible refine i_nil ?_)
  | (with_reducible refine i_cons ?_)
  | (with_reducible refine i_ret ?_)
  | (with_reducible refine i_sl ?_)
  | (with_reducible refine i_nopart ?_)
  | (with_reducible refine i_part ?_)
  | (with_reducible refine i_add_int ?_)
  | (with_reducible refine i_sub ?_)
  | (with_reducible refine i_lt ?_)
  | ((with_reducible refine' i_mod ?h1 ?_); (case h1 => walk_at "o"))
  | ((with_reducible refine' i_fdiv ?h1 ?_); (case h1 => (refine cdiv_small ?_ ?_ <;> walk_at "o")))
  | ((with_reducible refine' i_sl_to ?h1 ?h2 ?_); (case h1 => walk_at "o"); (case h2 => walk_at "o"))
  | ((with_reducible refine' i_sl_from ?h1 ?h2 ?_); (case h1 => walk_at "o"); (case h2 => walk_at "o"))
  | ((with_reducible refine' i_add_str ?h1 ?_); (case h1 => walk_at "o"))
  | ((with_reducible refine' i_mul_int ?h1 ?_); (case h1 => first | (refine mul_small ?_ ?_ <;> walk_at "o") | (refine mul_smallR ?_ ?_ <;> walk_at "o")))
  | (with_reducible refine i_le ?_)
  | (with_reducible refine i_gt ?_)
  | (with_reducible refine i_ge ?_)
  | (with_reducible refine i_eq_int ?_)
  | (with_reducible refine i_eq_str ?_)
  | (with_reducible refine i_ne_int ?_)
  | (with_reducible refine i_ne_str ?_)
  | (with_reducible refine i_eq_bl ?_)
  | (with_reducible refine i_ne_bl ?_)
  | (with_reducible refine i_in_sg ?_)
  | (with_reducible refine i_notIn_sg ?_)
  | (with_reducible refine i_call ?_)
  | (with_reducible refine i_callS ?_)
  | (with_reducible refine i_sp1 ?_)
  | (with_reducible refine i_sp2 ?_)
  | (with_reducible refine i_sp3 ?_)
  | (with_reducible refine i_sp4 ?_)
  | (with_reducible refine i_sp1' ?_)
  | (with_reducible refine i_sp2' ?_)
  | (with_reducible refine i_sp3' ?_)
  | ((with_reducible refine' i_ix_lst ?h1 ?h2 ?_); (case h1 => walk_at "sq"); (case h2 => first | exact atI_nat rfl | rfl))
  | ((with_reducible refine' i_ix_tup ?h1 ?h2 ?_); (case h1 => walk_at "st"); (case h2 => first | exact atI_nat rfl | rfl))
  | (with_reducible refine i_gsub ?_)
  | (with_reducible refine i_par ?_)
  | (with_reducible refine i_lstRg1 ?_)
  | (with_reducible refine i_app ?_)
  | (with_reducible refine i_par2 ?_)
  | ((with_reducible refine' i_aug ?h1 ?_); (case h1 => rfl))
  | (with_reducible refine i_ipI ?_)
  | ((with_reducible refine' i_gtup2 ?h1 ?_); (case h1 => walk_at "st"))
  | (with_reducible refine i_int_bl ?_)
  | (with_reducible refine i_raise ?_)
  | (with_reducible refine i_mkE ?_)
  | (with_reducible refine i_ex1 ?_)
  | (with_reducible refine i_and ?_)
  | (with_reducible refine i_or ?_)
  | (with_reducible refine i_not ?_)
  | (with_reducible refine i_tt ?_)
  | (with_reducible refine i_ff ?_)
  | (with_reducible refine i_nott ?_)
  | (with_reducible refine i_notf ?_)
  | (with_reducible refine i_andV ?_)
  | (with_reducible refine i_orV ?_)
  | (with_reducible refine i_notV ?_)
  | (with_reducible refine i_ifE ?_)
  | (with_reducible refine i_tup ?_)
  | (with_reducible refine i_lst ?_)
  | (with_reducible refine i_un ?_)
  | (with_reducible refine i_neg ?_)
  | (with_reducible refine i_chain ?_)
  | (with_reducible refine i_next ?_)
  | (with_reducible refine i_retN ?_)
  | (with_reducible refine i_drop ?_)
  | (with_reducible refine i_int_int ?_)
  | (with_reducible refine i_abs ?_)
  | (with_reducible refine i_m1c ?_)
  | (with_reducible refine i_is_non ?_)
  | (with_reducible refine i_is_int ?_)
  | (with_reducible refine i_is_bl ?_)
  | (with_reducible refine i_isn_bl ?_)
  | (with_reducible refine i_is_str ?_)
  | (with_reducible refine i_is_ref ?_)
  | (with_reducible refine i_isn_non ?_)
  | (with_reducible refine i_isn_int ?_)
  | (with_reducible refine i_isn_str ?_)
  | (with_reducible refine i_isn_ref ?_)
  | (with_reducible refine i_len_str ?h1 ?_; (case h1 => walk_at "o"))
  | (with_reducible refine i_callD ?_)
  | (with_reducible refine i_spD2 ?_)
  | (with_reducible refine i_spM1 ?_)
  | (with_reducible refine i_spM2 ?_)
  | (with_reducible refine i_spM3 ?_)
  | (with_reducible refine i_spM4 ?_)
  | (with_reducible refine i_spM3d ?_)
  | (with_reducible refine i_tfld ?_)
  | (with_reducible refine i_sfld ?_)
  | (with_reducible refine i_meth ?_)
  | (with_reducible refine i_make ?_)
  | (with_reducible refine i_spl ?_)
  | (with_reducible refine i_mkE2 ?_)
  | (with_reducible refine i_ex2 ?_)
  | (with_reducible refine i_dget ?_)
  | (with_reducible refine i_tru ?_)
  | (with_reducible refine i_dput ?_)
  | (with_reducible refine i_dnotin ?_)
  | (with_reducible refine i_din ?_)
  | (with_reducible refine i_rev ?_)
  | (with_reducible refine i_isi_int_int ?_) | (with_reducible refine i_isi_int_bool ?_) | (with_reducible refine i_isi_int_str ?_) | (with_reducible refine i_isi_int_tuple ?_) | (with_reducible refine i_isi_int_list ?_)
  | (with_reducible refine i_isi_bl_int ?_) | (with_reducible refine i_isi_bl_bool ?_) | (with_reducible refine i_isi_bl_str ?_) | (with_reducible refine i_isi_bl_tuple ?_) | (with_reducible refine i_isi_bl_list ?_)
  | (with_reducible refine i_isi_str_int ?_) | (with_reducible refine i_isi_str_bool ?_) | (with_reducible refine i_isi_str_str ?_) | (with_reducible refine i_isi_str_tuple ?_) | (with_reducible refine i_isi_str_list ?_)
  | (with_reducible refine i_isi_non_int ?_) | (with_reducible refine i_isi_non_bool ?_) | (with_reducible refine i_isi_non_str ?_) | (with_reducible refine i_isi_non_tuple ?_) | (with_reducible refine i_isi_non_list ?_))
local macro_rules | `(tactic| walk_at "go") => `(tactic| (repeat' (walk_at "s")))
local macro_rules | `(tactic| walk_at "n") => `(tactic| simp only [wipe, List.map_cons, List.map_nil, List.set_cons_zero, List.set_cons_succ])
structure Dd where
  a : Addr
  c : Addr
  ns : List Int
/-- H0: what is known besides -/
def Dr (K : PySem.W.Frag) (d : Dd) (H0 H : Hp) : Prop := Same H0 H ∧ H0 d.a = none ∧ SqL K H0 d.c (d.ns.map V.int) ∧ d.ns.length ≤ 100 ∧ ∃ p b u x s : Int, H d.a = some (.lst [.ref d.c, .int p, .int b, .int u, .int x, .int s]) ∧ 0 ≤ p
section
variable {K : PySem.W.Frag} {d : Dd} {H0 H H' H1 : Hp} {q : Addr} {o o' : HO}
theorem Dr.same (h : Dr K d H0 H) (s : Same H H') : Dr K d H0 H' := by
  obtain ⟨s0, n0, hc, hl, p, b, u, x, sd, ha, hp⟩ := h
  exact ⟨s0.trans s, n0, hc, hl, p, b, u, x, sd, s _ _ ha, hp⟩
theorem Dr.new (h : Dr K d H0 H) (n : H q = none) : Dr K d (upd H0 q o) (upd H q o) := by
  obtain ⟨s0, n0, hc, hl, p, b, u, x, sd, ha, hp⟩ := h
  have nq : d.a ≠ q := ne_of_none ha n
  have s1 : Same H0 (upd H0 q o) := same_upd (s0.free n)
  refine ⟨fun b' o' e => ?_, by rw [upd_ne nq]; exact n0, s1.seq hc, hl, p, b, u, x, sd, by rw [upd_ne nq]; exact ha, hp⟩
  by_cases hb : b' = q
  · rw [hb, upd_same] at e
    rw [hb, upd_same]; exact e
  · rw [upd_ne hb] at e
    rw [upd_ne hb]; exact s0 _ _ e
/-- an object that is known changes -/
theorem Dr.put (h : Dr K d (upd H0 q o) H) (hc : SqL K H0 d.c (d.ns.map V.int)) (n : H0 q = none) : Dr K d (upd H0 q o') (upd H q o') := by
  obtain ⟨s0, n0, _, hl, p, b, u, x, sd, ha, hp⟩ := h
  have nq : d.a ≠ q := fun z => by rw [z, upd_same] at n0; cases n0
  have s1 : Same H0 (upd H0 q o') := same_upd n
  rw [upd_ne nq] at n0
  refine ⟨fun b' o' e => ?_, by rw [upd_ne nq]; exact n0, s1.seq hc, hl, p, b, u, x, sd, by rw [upd_ne nq]; exact ha, hp⟩
  by_cases hb : b' = q
  · rw [hb, upd_same] at e
    rw [hb, upd_same]; exact e
  · rw [upd_ne hb] at e
    rw [upd_ne hb]; exact s0 _ _ (by rw [upd_ne hb]; exact e)
/-- more, or less, is known -/
theorem Dr.know (h : Dr K d H0 H) (s0 : Same H0 H1) (s1 : Same H1 H) (n : H1 d.a = none) : Dr K d H1 H := by
  obtain ⟨_, n0, hc, hl, p, b, u, x, sd, ha, hp⟩ := h
  exact ⟨s1, n, s0.seq hc, hl, p, b, u, x, sd, ha, hp⟩
theorem Dr.less (h : Dr K d (upd H0 q o) H) (hc : SqL K H0 d.c (d.ns.map V.int)) (n : H0 q = none) : Dr K d H0 H := by
  obtain ⟨s0, n0, _, hl, p, b, u, x, sd, ha, hp⟩ := h
  have nq : d.a ≠ q := fun z => by rw [z, upd_same] at n0; cases n0
  rw [upd_ne nq] at n0
  exact ⟨(same_upd n).trans s0, n0, hc, hl, p, b, u, x, sd, ha, hp⟩
theorem Dr.old (h : Dr K d H0 H) (e : H0 q = some o) : H q = some o := h.1 _ _ e
theorem Dr.cells (h : Dr K d H0 H) : SqL K H0 d.c (d.ns.map V.int) := h.2.2.1
theorem Dr.free (h : Dr K d H0 H) (n : H q = none) : H0 q = none := h.1.free n
/-- what a call that leaves all as it was hands back new -/
theorem Dr.got (h : Dr K d H0 H) (n : H q = none) (s : Same H H') (e : H' q = some o) : Dr K d (upd H0 q o) H' := by
  obtain ⟨s0, n0, hc, hl, p, b, u, x, sd, ha, hp⟩ := h
  have nq : d.a ≠ q := ne_of_none ha n
  have s1 : Same H0 (upd H0 q o) := same_upd (s0.free n)
  refine ⟨fun b' o' e' => ?_, by rw [upd_ne nq]; exact n0, s1.seq hc, hl, p, b, u, x, sd, s _ _ ha, hp⟩
  by_cases hb : b' = q
  · rw [hb, upd_same] at e'
    rw [hb, e]; exact e'
  · rw [upd_ne hb] at e'
    exact s _ _ (s0 _ _ e')
end
theorem range_getD (xs : List V) : (List.range xs.length).map (fun i => xs.getD i .non) = xs := by
  refine List.ext_getElem? fun i => ?_
  rw [List.getElem?_map]
  by_cases h : i < xs.length
  · rw [List.getElem?_range h, Option.map_some, List.getD_eq_getElem?_getD, List.getElem?_eq_getElem h]
    rfl
  · rw [List.getElem?_eq_none (by simpa using h), List.getElem?_eq_none (by omega)]
    rfl
def Btw (n many : Int) : Prop := 0 ≤ n ∧ (2 ≤ many → n < many) ∧ (many < 2 → n = 0)
section
variable {P : Program} {w : World} {K : PySem.W.Frag} {mg : Str → Option Value} {base : Heap} {C_GlimError C_BadRound C_BadText C_BadLine C_BadSignal C_BadMessage C_TooLong C_Lines C_Signals C_dt_Signals___init__ : Addr}
def p_L_draw (K : PySem.W.Frag) : P1 := fun v H Q _ => ∃ (a0 : Addr) (ns : List Int), v = .ref a0 ∧ SqL K H a0 (ns.map V.int) ∧ ns.length ≤ 100 ∧ ∀ H0 d H', Same H H0 → Dr K d H0 H' → Q (.ref d.a) H'
theorem ok_L_draw (T : Txt K mg C_GlimError C_BadRound C_BadText C_BadLine C_BadSignal C_BadMessage C_TooLong C_Lines C_Signals C_dt_Signals___init__) : OK P w K mg base CX0 1 "_law_draw" ["_law_script"] (sp1  (p_L_draw K)) := by
  refine OK.mk (k := 0) T.d_L_draw sc_L_draw len1 fun f cdv A outer s H vs Q E hr h => ?_
  obtain ⟨x, rfl, h⟩ := h
  refine ⟨_, (pss_cons (ps_setLc (i := 1) (own := [("_law_cell", 2)]) (g := gName 2) (tt := tYes) (by rfl) sc_L_draw.nd rfl rfl (sw_true rfl rfl rfl (by decide +kernel)) (piAny K (pv 0)) (blkOk_by (own := [("_law_cell", 2)]) (N := ["_law_script", "_law_cells", "_law_cell"]) (sc := (defScope s_L_draw)) (by decide +kernel)) (fun _ _ _ _ _ => (pg_name (i := 2) sc_L_draw.nd rfl (Or.inl rfl))) (fun _ _ _ _ _ => pts_nil) (fun _ _ _ _ _ => (pv 2))) (pss_one (ps_ret (pe_lst (pa_cons (pv 1) (pa_cons pe_int (pa_cons pe_int (pa_cons pe_int (pa_cons pe_int (pa_cons (pe_op (opAdd K) (pe_op op_modP (pe_callTy call_intP (by rfl) T.b_int (by decide +kernel) (pa_cons (pe_callB (cSum K rfl) (by rfl) T.b_sum (by decide +kernel) (pa_cons (pv 1) pa_nil)) pa_nil)) pe_int) (pe_op op_mulP pe_int (pe_callB (cLen K) (by rfl) T.b_len (by decide +kernel) (pa_cons (pv 1) pa_nil)))) pa_nil)))))))))), ?_⟩
  show (_ : TS) { nx := fun _ H' => Q .non H', rt := Q } [some x, none, none] H
  obtain ⟨a0, ns, rfl, hS, hl, q⟩ := h
  walk_at "go"
  refine c_lst (xs := ns.map V.int) (fun R k => by walk_at "go"; exact k) hS (by rw [List.length_map]; omega) (fun _ => true) (fun i => (ns.map V.int).getD i .non) (fun _ => rfl) (fun i v H2 hi s2 QB k => k H2 (Same.refl H2)) (fun i v H2 hi s2 _ QV k => ?_) (fun Dl H2 n2 s2 d2 => ?_)
  · show (_ : TE) [some (.ref a0), none, some v] H2 QV
    walk_at "go"
    have e : v = (ns.map V.int).getD i .non := by rw [List.getD_eq_getElem?_getD, hi]; rfl
    rw [e]
    exact k H2 (Same.refl H2)
  · rw [kept_all, range_getD] at d2
    walk_at "go"
    refine i_sum (ns := ns) (.inl (.inl d2)) ?_
    walk_at "go"
    refine i_len_lst (.inl (.inl d2)) ?_
    walk_at "go"
    refine i_new (by show 6 ≤ 100000; omega) fun a na => ?_
    walk_at "go"
    exact q H2 ⟨a, Dl, ns⟩ _ s2 ⟨same_upd na, na, .inl (.inl d2), hl, _, _, _, _, _, upd_same, Int.le_refl _⟩
def p_L_mix : P2 := fun x y H Q _ => ∃ a b : Int, x = .int a ∧ y = .int b ∧ ∀ r : Int, Q (.int r) H
theorem ok_L_mix (T : Txt K mg C_GlimError C_BadRound C_BadText C_BadLine C_BadSignal C_BadMessage C_TooLong C_Lines C_Signals C_dt_Signals___init__) : OK P w K mg base CX0 1 "_law_mix" ["_law_cell", "_law_turn"] (sp2  p_L_mix) := by
  refine OK.mk (k := 0) T.d_L_mix sc_L_mix len2 fun f cdv A outer s H vs Q E hr h => ?_
  obtain ⟨x, y, rfl, h⟩ := h
  refine ⟨_, (pss_cons (ps_set (i := 2) sc_L_mix.nd rfl (Or.inl rfl) (pe_op op_modP (pe_callTy call_intP (by rfl) T.b_int (by decide +kernel) (pa_cons (pe_op (opAdd K) (pe_op (opAdd K) (pe_op op_mulP (pv 0) pe_int) (pe_op op_mulP (pv 1) pe_int)) pe_int) pa_nil)) pe_int)) (pss_cons (ps_set (i := 3) sc_L_mix.nd rfl (Or.inl rfl) (pe_op op_modP (pe_callTy call_intP (by rfl) T.b_int (by decide +kernel) (pa_cons (pe_op (opAdd K) (pe_op (opAdd K) (pe_op op_mulP (pv 2) (pv 2)) (pe_op op_mulP (pv 1) pe_int)) (pv 0)) pa_nil)) pe_int)) (pss_cons (ps_set (i := 3) sc_L_mix.nd rfl (Or.inl rfl) (pe_op op_modP (pe_callTy call_intP (by rfl) T.b_int (by decide +kernel) (pa_cons (pe_op (opAdd K) (pe_op op_mulP (pv 3) (pv 3)) (pv 2)) pa_nil)) pe_int)) (pss_one (ps_ret (pe_op op_fdivP (pv 3) pe_int)))))), ?_⟩
  show (_ : TS) { nx := fun _ H' => Q .non H', rt := Q } [some x, some y, none, none] H
  obtain ⟨c, t, rfl, rfl, q⟩ := h
  walk_at "go"
  have h1 : 0 ≤ (c * 48271 + t * 69621 + 12345) % 2147483647 := Int.emod_nonneg _ (by decide)
  have h2 : (c * 48271 + t * 69621 + 12345) % 2147483647 < 2147483647 := Int.emod_lt_of_pos _ (by decide)
  generalize (c * 48271 + t * 69621 + 12345) % 2147483647 = o at *
  walk_at "go"
  have h3 : 0 ≤ (o * o + t * 7919 + c) % 998244353 := Int.emod_nonneg _ (by decide)
  have h4 : (o * o + t * 7919 + c) % 998244353 < 998244353 := Int.emod_lt_of_pos _ (by decide)
  generalize (o * o + t * 7919 + c) % 998244353 = o2 at *
  walk_at "go"
  exact q _
/-- a number from 0 to less than so many; the draws go on -/
def p_L_pick (K : PySem.W.Frag) : P2 := fun x y H Q _ => ∃ (H0 : Hp) (d : Dd) (many : Int), x = .ref d.a ∧ y = .int many ∧ Dr K d H0 H ∧ many ≤ 10000000000000000000000000000000000000000 ∧ ∀ (n : Int) H', Dr K d H0 H' → Btw n many → Q (.int n) H'
theorem wide_many {b many : Int} (h : 0 < many) (h2 : many ≤ 10000000000000000000000000000000000000000) : CDivW b many := by
  refine wide_div (b := 140) h ?_ (by decide) (by decide)
  have e : (2 : Nat) ^ 140 = 1393796574908163946345982392040522594123776 := by decide +kernel
  rw [e]
  omega
theorem ok_L_pick (T : Txt K mg C_GlimError C_BadRound C_BadText C_BadLine C_BadSignal C_BadMessage C_TooLong C_Lines C_Signals C_dt_Signals___init__) : OK P w K mg base CX0 2 "_law_pick" ["_law_draw_here", "_law_many"] (sp2  (p_L_pick K)) := by
  refine OK.mk (k := 1) T.d_L_pick sc_L_pick len2 fun f cdv A outer s H vs Q E hr h => ?_
  obtain ⟨x, y, rfl, h⟩ := h
  refine ⟨_, (pss_cons (ps_if (pt_cmpR op_ltP (pv 1) pe_int (nomark _)) (pss_one (ps_ret pe_int)) pss_nil) (Evl.pss_cut (ps_if (pw_and (pt_cmpR (opEq K hr.units) (pe_ix (ixK K) (pv 0) pe_int (fun _ _ => rfl)) pe_int (nomark _)) (pw_and (pt_cmpR op_ltP (pe_ix (ixK K) (pv 0) pe_int (fun _ _ => rfl)) (pe_callB (cLen K) (by rfl) T.b_len (by decide +kernel) (pa_cons (pe_ix (ixK K) (pv 0) pe_int (fun _ _ => rfl)) pa_nil)) (nomark _)) (pw_and1 (pt_cmpR (opEq K hr.units) (pe_ix (ixK K) (pv 0) pe_int (fun _ _ => rfl)) pe_int (nomark _))))).pt (pss_cons (ps_set (i := 2) sc_L_pick.nd rfl (Or.inl rfl) (pe_ix (ixK K) (pe_ix (ixK K) (pv 0) pe_int (fun _ _ => rfl)) (pe_ix (ixK K) (pv 0) pe_int (fun _ _ => rfl)) (fun _ _ => rfl))) (pss_one (ps_if (pw_or (pt_cmpR op_geP (pv 2) (pe_op op_powP pe_int pe_int) (nomark _)) (pw_or1 (pt_cmpR op_leP (pv 2) (pe_un un_neg (pe_op op_powP pe_int pe_int)) (nomark _)))).pt (pss_cons (ps_asg (pe_op op_modP (pe_callTy call_intP (by rfl) T.b_int (by decide +kernel) (pa_cons (pe_callB call_absP (by rfl) T.b_abs (by decide +kernel) (pa_cons (pv 2) pa_nil)) pa_nil)) (pe_op op_powP (pe_op op_powP pe_int pe_int) pe_int)) (pg_sub (pv 0) pe_int set_list)) (pss_one (ps_asg (pe_op (opAdd K) (pe_ix (ixK K) (pv 0) pe_int (fun _ _ => rfl)) pe_int) (pg_sub (pv 0) pe_int set_list)))) pss_nil))) pss_nil) (pss_cons (ps_if (pt_cmpR op_gtP (pe_ix (ixK K) (pv 0) pe_int (fun _ _ => rfl)) pe_int (nomark _)) (pss_cons (ps_set (i := 3) sc_L_pick.nd rfl (Or.inl rfl) (pe_op op_modP (pe_callTy call_intP (by rfl) T.b_int (by decide +kernel) (pa_cons (pe_ix (ixK K) (pv 0) pe_int (fun _ _ => rfl)) pa_nil)) (pv 1))) (pss_cons (ps_asg (pe_op op_fdivP (pe_ix (ixK K) (pv 0) pe_int (fun _ _ => rfl)) (pv 1)) (pg_sub (pv 0) pe_int set_list)) (pss_one (ps_ret (pv 3))))) pss_nil) (pss_cons (ps_if (pt_cmpR op_ltP (pe_ix (ixK K) (pv 0) pe_int (fun _ _ => rfl)) (pe_callB (cLen K) (by rfl) T.b_len (by decide +kernel) (pa_cons (pe_ix (ixK K) (pv 0) pe_int (fun _ _ => rfl)) pa_nil)) (nomark _)) (pss_cons (ps_set (i := 2) sc_L_pick.nd rfl (Or.inl rfl) (pe_ix (ixK K) (pe_ix (ixK K) (pv 0) pe_int (fun _ _ => rfl)) (pe_ix (ixK K) (pv 0) pe_int (fun _ _ => rfl)) (fun _ _ => rfl))) (pss_cons (ps_asg (pe_op (opAdd K) (pe_ix (ixK K) (pv 0) pe_int (fun _ _ => rfl)) pe_int) (pg_sub (pv 0) pe_int set_list)) (pss_cons (ps_set (i := 4) sc_L_pick.nd rfl (Or.inl rfl) (pe_op op_modP (pe_callTy call_intP (by rfl) T.b_int (by decide +kernel) (pa_cons (pe_f (ok_L_mix (K := K) T) (hr.mono (by decide)) pass0 (pa_cons (pe_op (opAdd K) (pv 2) (pe_op op_mulP pe_int (pe_ix (ixK K) (pv 0) pe_int (fun _ _ => rfl)))) (pa_cons (pe_ix (ixK K) (pv 0) pe_int (fun _ _ => rfl)) pa_nil))) pa_nil)) (pv 1))) (Evl.pss_cut (ps_if (pt_cmpR (opEq K hr.units) (pe_ix (ixK K) (pv 0) pe_int (fun _ _ => rfl)) pe_int (nomark _)) (pss_cons (ps_asg pe_int (pg_sub (pv 0) pe_int set_list)) (pss_one (ps_asg (pe_op (opAdd K) (pe_ix (ixK K) (pv 0) pe_int (fun _ _ => rfl)) pe_int) (pg_sub (pv 0) pe_int set_list)))) pss_nil) (pss_one (ps_ret (pv 4))))))) pss_nil) (pss_cons (ps_asg (pe_op (opAdd K) (pe_ix (ixK K) (pv 0) pe_int (fun _ _ => rfl)) pe_int) (pg_sub (pv 0) pe_int set_list)) (pss_one (ps_ret (pe_op op_modP (pe_callTy call_intP (by rfl) T.b_int (by decide +kernel) (pa_cons (pe_f (ok_L_mix (K := K) T) (hr.mono (by decide)) pass0 (pa_cons (pe_ix (ixK K) (pv 0) pe_int (fun _ _ => rfl)) (pa_cons (pe_op (opAdd K) (pe_ix (ixK K) (pv 0) pe_int (fun _ _ => rfl)) pe_int) pa_nil))) pa_nil)) (pv 1))))))))), ?_⟩
  show (_ : TS) { nx := fun _ H' => Q .non H', rt := Q } [some x, some y, none, none, none] H
  obtain ⟨H0, d, many, rfl, rfl, dr, hmax, q⟩ := h
  walk_at "go"
  refine i_dec (fun e => ?_) (fun e => ?_)
  · walk_at "go"
    exact q 0 H dr ⟨Int.le_refl _, fun z => by omega, fun _ => rfl⟩
  walk_at "go"
  have hpos : 0 < many := by omega
  -- a great cell is taken up
  refine i_cut (fun σ H' => ∃ v2 v3 v4, σ = [some (.ref d.a), some (.int many), v2, v3, v4] ∧ Dr K d H0 H') ?_ ?_
  · obtain ⟨a, c, ns⟩ := d
    obtain ⟨s0, n0, hC, hl, p, b, u, x, sd, hA, hp⟩ := id dr
    dsimp only at *
    have hC' : SqL K H c (ns.map V.int) := s0.seq hC
    have skip : ∃ v2 v3 v4, ([some (.ref a), some (.int many), none, none, none] : L2.St) = [some (.ref a), some (.int many), v2, v3, v4] ∧ Dr K ⟨a, c, ns⟩ H0 H := ⟨_, _, _, rfl, dr⟩
    walk_at "go"
    refine i_dec (fun e1 => ?_) (fun e1 => skip)
    walk_at "go"
    refine i_len_lst hC' ?_
    walk_at "go"
    refine i_dec (fun e2 => ?_) (fun e2 => skip)
    walk_at "go"
    refine i_dec (fun e3 => ?_) (fun e3 => skip)
    walk_at "go"
    rw [List.length_map] at e2
    have hpl : p.toNat < ns.length := by omega
    refine i_ix_lst (v := .int ns[p.toNat]) hC' (atI_int hp (by rw [List.getElem?_map, List.getElem?_eq_getElem hpl]; rfl)) ?_
    walk_at "go"
    refine i_pow (by decide +kernel) ?_
    walk_at "go"
    have fin : ∃ v2 v3 v4, ([some (.ref a), some (.int many), some (.int ns[p.toNat]), none, none] : L2.St) = [some (.ref a), some (.int many), v2, v3, v4] ∧ Dr K ⟨a, c, ns⟩ H0 H := ⟨_, _, _, rfl, dr⟩
    refine i_dec (fun e4 => ?_) (fun e4 => ?_)
    case' refine_2 =>
      walk_at "go"
      refine i_pow (by decide +kernel) ?_
      walk_at "go"
      refine i_dec (fun e5 => ?_) (fun e5 => fin)
    all_goals
      walk_at "go"
      refine i_pow (by decide +kernel) ?_
      walk_at "go"
      refine i_pow (by decide +kernel) ?_
      walk_at "go"
      refine i_mod (by decide +kernel) ?_
      walk_at "go"
      refine i_setL 2 hA rfl rfl ?_
      walk_at "go"
      refine i_setL 1 upd_same rfl rfl ?_
      walk_at "go"
      rw [upd_upd]
      exact ⟨_, _, _, rfl, Same.upd s0 n0, n0, hC, hl, _, _, _, _, _, upd_same, by omega⟩
  · rintro σ H1 ⟨v2, v3, v4, rfl, d1⟩
    obtain ⟨a, c, ns⟩ := d
    obtain ⟨s0, n0, hC, hl, p, b, u, x, sd, hA, hp⟩ := id d1
    dsimp only at *
    have hC' : SqL K H1 c (ns.map V.int) := s0.seq hC
    have put : ∀ {p' b' u' x' s' : Int}, 0 ≤ p' → Dr K ⟨a, c, ns⟩ H0 (upd H1 a (.lst [.ref c, .int p', .int b', .int u', .int x', .int s'])) := fun h => ⟨Same.upd s0 n0, n0, hC, hl, _, _, _, _, _, upd_same, h⟩
    have btw : ∀ r : Int, Btw (r % many) many := fun r => ⟨Int.emod_nonneg _ (by omega), fun _ => Int.emod_lt_of_pos _ hpos, fun z => by omega⟩
    walk_at "go"
    refine i_dec (fun e1 => ?_) (fun e1 => ?_)
    · -- a digit of the great one
      walk_at "go"
      refine i_fdiv (wide_many hpos hmax) ?_
      walk_at "go"
      refine i_setL 2 hA rfl rfl ?_
      walk_at "go"
      exact q _ _ (put hp) (btw _)
    walk_at "go"
    refine i_len_lst hC' ?_
    walk_at "go"
    rw [List.length_map]
    refine i_dec (fun e2 => ?_) (fun e2 => ?_)
    · have hpl : p.toNat < ns.length := by omega
      walk_at "go"
      refine i_ix_lst (v := .int ns[p.toNat]) hC' (atI_int hp (by rw [List.getElem?_map, List.getElem?_eq_getElem hpl]; rfl)) ?_
      walk_at "go"
      refine i_setL 3 hA rfl rfl ?_
      walk_at "go"
      refine ⟨_, _, rfl, rfl, fun r => ?_⟩
      walk_at "go"
      refine i_cut (fun σ H' => ∃ v3, σ = [some (.ref a), some (.int many), some (.int ns[p.toNat]), v3, some (.int (r % many))] ∧ Dr K ⟨a, c, ns⟩ H0 H') ?_ ?_
      · walk_at "go"
        refine i_dec (fun e3 => ?_) (fun e3 => ⟨_, rfl, put hp⟩)
        walk_at "go"
        refine i_setL 3 upd_same rfl rfl ?_
        walk_at "go"
        refine i_setL 1 upd_same rfl rfl ?_
        walk_at "go"
        rw [upd_upd, upd_upd]
        exact ⟨_, rfl, put (by omega)⟩
      · rintro σ H2 ⟨v3, rfl, d2⟩
        walk_at "go"
        exact q _ _ d2 (btw _)
    · walk_at "go"
      refine i_setL 4 hA rfl rfl ?_
      walk_at "go"
      refine ⟨_, _, rfl, rfl, fun r => ?_⟩
      walk_at "go"
      exact q _ _ (put hp) (btw _)
end
def firstBad (l : List Nat) : Option Nat := l.findIdx? fun c => !decide (c ∈ SG)
def oV : Option Nat → V
  | some n => .int (n : Int)
  | none => .non
theorem firstBad_none {l : List Nat} (h : ∀ c ∈ l, c ∈ SG) : firstBad l = none := by
  unfold firstBad
  rw [List.findIdx?_eq_none_iff]
  intro x hx
  simp [h x hx]
theorem firstBad_some {l : List Nat} {n c : Nat} (h : l[n]? = some c) (hc : c ∉ SG) (hb : ∀ k < n, ∀ c, l[k]? = some c → c ∈ SG) : firstBad l = some n := by
  unfold firstBad
  rw [List.findIdx?_eq_some_iff_getElem]
  obtain ⟨hp, e⟩ := List.getElem?_eq_some_iff.mp h
  refine ⟨hp, by simp [e, hc], fun j hj => ?_⟩
  have := hb j hj (l[j]) (List.getElem?_eq_getElem (by omega))
  simp [this]
abbrev AZ : List Nat := [97, 98, 99, 100, 101, 102, 103, 104, 105, 106, 107, 108, 109, 110, 111, 112, 113, 114, 115, 116, 117, 118, 119, 120, 121, 122]
def rowL (m : Int) (l : List Nat) : Bool := decide ((l.length : Int) ≤ m) && (firstBad l).isNone
def isRowD (m : Int) : PyData → Bool
  | .str x => rowL m x.cps.toList
  | _ => false
def letL (l : List Nat) : Bool := decide (l.length = 1) && l.all fun c => decide (c ∈ AZ)
def isLetD : PyData → Bool
  | .str x => letL x.cps.toList
  | _ => false
def rndL (l : List Nat) : Option Int := if 1 ≤ l.length ∧ l.length ≤ 24 then (firstBad l).map fun n : Nat => (n : Int) else some (-1)
def rndD : PyData → Option Int
  | .str x => rndL x.cps.toList
  | _ => some (-1)
def neS : PyData → Bool
  | .str x => decide (x.cps.toList ≠ [])
  | _ => true
def isSigD : PyData → Bool
  | .tuple [a, b] => isLetD a && (isRowD 12 b && neS b)
  | _ => false
section
variable {P : Program} {w : World} {K : PySem.W.Frag} {mg : Str → Option Value} {base : Heap} {C_GlimError C_BadRound C_BadText C_BadLine C_BadSignal C_BadMessage C_TooLong C_Lines C_Signals C_dt_Signals___init__ : Addr}
def p_wrong_sign : P1 := fun x H Q _ => ∃ l, x = S l ∧ l.length ≤ 10000 ∧ ∀ H', Same H H' → Q (oV (firstBad l)) H'
theorem ok_wrong_sign (T : Txt K mg C_GlimError C_BadRound C_BadText C_BadLine C_BadSignal C_BadMessage C_TooLong C_Lines C_Signals C_dt_Signals___init__) : OK P w K mg base CX0 1 "wrong_sign" ["row"] (sp1  p_wrong_sign) := by
  refine OK.mk (k := 0) T.d_wrong_sign sc_wrong_sign len1 fun f cdv A outer s H vs Q E hr h => ?_
  obtain ⟨x, rfl, h⟩ := h
  refine ⟨_, (pss_cons (ps_for PassesOwn.never rfl (piEnum K rfl T.b_enumerate (pa_cons (pv 0) pa_nil)) (pgTup (n := 2) K rfl (pgs_cons (pg_name (i := 1) sc_wrong_sign.nd rfl (Or.inl rfl)) (pgs_cons (pg_name (i := 2) sc_wrong_sign.nd rfl (Or.inl rfl)) pgs_nil))) (pss_one (ps_if (pt_cmpR (opNotIn K) (pv 2) (pe_gS [46, 103, 114, 119] T.g_SIGNS) (by with_unfolding_all rfl)) (pss_one (ps_ret (pv 1))) pss_nil))) (pss_one (ps_ret pe_non))), ?_⟩
  show (_ : TS) { nx := fun _ H' => Q .non H', rt := Q } [some x, none, none] H
  obtain ⟨l, rfl, h1, q⟩ := h
  walk_at "go"
  refine f_enumS (z := l) (fun R k => by walk_at "go"; exact k) (fun i σ H' => ∃ v1 v2, σ = [some (S l), v1, v2] ∧ Same H H' ∧ ∀ k < i, ∀ c, l[k]? = some c → c ∈ SG) ⟨none, none, rfl, Same.refl H, by omega⟩ ?_ ?_
  · rintro i c σ H' Tt hc ⟨v1, v2, rfl, s1, hb⟩ nT
    show (_ : TS) _ [some (S l), some (.int (i : Int)), some (S [c])] _
    walk_at "go"
    refine i_decN (fun e => ?_) (fun e => ?_)
    · walk_at "go"
      have := q _ (s1.trans (same_upd (o := .tup [.int (i : Int), S [c]]) nT))
      rw [firstBad_some hc e hb] at this
      exact this
    · walk_at "go"
      refine ⟨_, _, rfl, s1.trans (same_upd nT), fun k hk c' hc' => ?_⟩
      by_cases e' : k < i
      · exact hb k e' c' hc'
      · have : k = i := by omega
        subst this
        rw [hc] at hc'
        cases hc'
        exact e
  · rintro σ H' ⟨v1, v2, rfl, s1, hb⟩
    walk_at "go"
    have := q _ s1
    rw [firstBad_none fun c hc => by
      obtain ⟨k, hk⟩ := List.getElem?_of_mem hc
      exact hb k (List.getElem?_eq_some_iff.mp hk).1 c hk] at this
    exact this
def p_is_row : P2 := fun x y H Q _ => ∃ d m, At H x d ∧ y = .int m ∧ ∀ H', Same H H' → Q (.bl (isRowD m d)) H'
theorem ok_is_row (T : Txt K mg C_GlimError C_BadRound C_BadText C_BadLine C_BadSignal C_BadMessage C_TooLong C_Lines C_Signals C_dt_Signals___init__) : OK P w K mg base CX0 2 "is_row" ["thing", "most"] (sp2  p_is_row) := by
  refine OK.mk (k := 1) T.d_is_row sc_is_row len2 fun f cdv A outer s H vs Q E hr h => ?_
  obtain ⟨x, y, rfl, h⟩ := h
  refine ⟨_, (pss_one (ps_ret (pe_and (pe_callB (cIsi K) (by rfl) T.b_isinstance (by decide +kernel) (pa_cons (pv 0) (pa_cons (pe_bltn (v := .ty "str") (by rfl) T.b_str (by decide +kernel) rfl) pa_nil))) (pe_and (pe_cmpR op_leP (pe_callB (cLen K) (by rfl) T.b_len (by decide +kernel) (pa_cons (pv 0) pa_nil)) (pv 1) (nomark _)) (pe_one (pe_cmpR op_isP (pe_f (ok_wrong_sign (K := K) T) (hr.mono (by decide)) pass0 (pa_cons (pv 0) pa_nil)) pe_non (nomark _))))))), ?_⟩
  show (_ : TS) { nx := fun _ H' => Q .non H', rt := Q } [some x, some y] H
  obtain ⟨d, m, hx, rfl, q⟩ := h
  walk_at "go"
  cases d
  case str z =>
    obtain ⟨l, rfl, rfl, hl⟩ := hx.strl
    change ∀ H', Same H H' → Q (.bl (rowL m l)) H' at q
    unfold rowL at q
    walk_at "go"
    refine i_dec (fun e => ?_) (fun e => ?_)
    · rw [decide_eq_true e, Bool.true_and] at q
      walk_at "go"
      refine ⟨l, rfl, hl, fun H1 s1 => ?_⟩
      have := q H1 s1
      cases e1 : firstBad l with
      | none =>
        rw [e1] at this
        rw [show oV none = V.non from rfl]
        walk_at "go"
        exact this
      | some n =>
        rw [e1] at this
        rw [show oV (some n) = V.int (n : Int) from rfl]
        walk_at "go"
        exact this
    · rw [decide_eq_false e, Bool.false_and] at q
      exact q H (Same.refl H)
  all_goals
    walk_at "go"
    refine i_isiStr false hx rfl ?_
    walk_at "go"
    exact q H (Same.refl H)
def p_is_letter : P1 := fun x H Q _ => ∃ d, At H x d ∧ Q (.bl (isLetD d)) H
theorem ok_is_letter (T : Txt K mg C_GlimError C_BadRound C_BadText C_BadLine C_BadSignal C_BadMessage C_TooLong C_Lines C_Signals C_dt_Signals___init__) : OK P w K mg base CX0 1 "is_letter" ["thing"] (sp1  p_is_letter) := by
  refine OK.mk (k := 0) T.d_is_letter sc_is_letter len1 fun f cdv A outer s H vs Q E hr h => ?_
  obtain ⟨x, rfl, h⟩ := h
  refine ⟨_, (pss_one (ps_ret (pe_and (pe_callB (cIsi K) (by rfl) T.b_isinstance (by decide +kernel) (pa_cons (pv 0) (pa_cons (pe_bltn (v := .ty "str") (by rfl) T.b_str (by decide +kernel) rfl) pa_nil))) (pe_and (pe_cmpR (opEq K hr.units) (pe_callB (cLen K) (by rfl) T.b_len (by decide +kernel) (pa_cons (pv 0) pa_nil)) pe_int (nomark _)) (pe_one (pe_cmpR (opIn K) (pv 0) (pe_gS [97, 98, 99, 100, 101, 102, 103, 104, 105, 106, 107, 108, 109, 110, 111, 112, 113, 114, 115, 116, 117, 118, 119, 120, 121, 122] T.g_LETTERS) (by with_unfolding_all rfl))))))), ?_⟩
  show (_ : TS) { nx := fun _ H' => Q .non H', rt := Q } [some x] H
  obtain ⟨d, hx, q⟩ := h
  cases d
  case str z =>
    obtain ⟨l, rfl, rfl, hl⟩ := hx.strl
    change Q (.bl (letL l)) H at q
    unfold letL at q
    walk_at "go"
    refine i_dec (fun e => ?_) (fun e => ?_)
    · have e : l.length = 1 := by omega
      rw [decide_eq_true e, Bool.true_and] at q
      obtain ⟨c, rfl⟩ := List.length_eq_one_iff.mp e
      rw [show ([c].all fun c => decide (c ∈ AZ)) = decide (c ∈ AZ) by simp] at q
      walk_at "go"
      exact q
    · rw [decide_eq_false (show ¬ l.length = 1 by omega), Bool.false_and] at q
      exact q
  all_goals
    walk_at "go"
    refine i_isiStr false hx rfl ?_
    walk_at "go"
    exact q
def p_check_round (C : Addr) : P1 := fun x H Q E => ∃ d, At H x d ∧ (match rndD d with
  | some n => Rz E H C "number" (.int n)
  | none => ∀ H', Same H H' → Q .non H')
theorem ok_check_round (T : Txt K mg C_GlimError C_BadRound C_BadText C_BadLine C_BadSignal C_BadMessage C_TooLong C_Lines C_Signals C_dt_Signals___init__) : OK P w K mg base (L2.CX P w) 3 "check_round" ["thing"] (sp1  (p_check_round C_BadRound)) := by
  refine OK.mkX (k := 2) T.d_check_round sc_check_round len1 fun f cdv A outer s H vs Q E hr h => ?_
  obtain ⟨x, rfl, h⟩ := h
  refine ⟨_, (pss_cons (ps_if (pw_or (pt_not (pt_val (pe_callB (cIsi K) (by rfl) T.b_isinstance (by decide +kernel) (pa_cons (pv 0) (pa_cons (pe_bltn (v := .ty "str") (by rfl) T.b_str (by decide +kernel) rfl) pa_nil))))) (pw_or1 (pt_not (pt_chain op_leP op_leP pe_int (pe_callB (cLen K) (by rfl) T.b_len (by decide +kernel) (pa_cons (pv 0) pa_nil)) (pe_gI (24) T.g_MOST_ROUND))))).pt (pss_one (ps_raiseP rfl (takes_of rfl rfl rfl rfl) (pmk_E (k := 0) (okx_BadRound T) (hr.mono (by decide)) (pa_cons (pe_un un_neg pe_int) pa_nil)))) pss_nil) (pss_cons (ps_set (i := 1) sc_check_round.nd rfl (Or.inl rfl) (pe_f (ok_wrong_sign (K := K) T) (hr.mono (by decide)) pass0 (pa_cons (pv 0) pa_nil))) (pss_one (ps_if (pt_cmpR op_isNotP (pv 1) pe_non (nomark _)) (pss_one (ps_raiseP rfl (takes_of rfl rfl rfl rfl) (pmk_E (k := 0) (okx_BadRound T) (hr.mono (by decide)) (pa_cons (pv 1) pa_nil)))) pss_nil)))), ?_⟩
  show (_ : TS) { nx := fun _ H' => Q .non H', rt := Q } [some x, none] H
  obtain ⟨d, hx, q⟩ := h
  cases d
  case str z =>
    obtain ⟨l, rfl, rfl, hl⟩ := hx.strl
    change (match rndL l with
      | some n => Rz E H C_BadRound "number" (.int n)
      | none => ∀ H', Same H H' → Q .non H') at q
    unfold rndL at q
    walk_at "go"
    have bad : ¬ (1 ≤ l.length ∧ l.length ≤ 24) → Rz E H C_BadRound "number" (.int (-1)) := fun h => by
      rw [if_neg h] at q; exact q
    refine i_dec (fun e1 => ?_) (fun e1 => ?_)
    rotate_left
    · walk_at "go"
      intro dd nd
      exact Rz.at (bad (by omega)) nd
    walk_at "go"
    refine i_decN (fun e2 => ?_) (fun e2 => ?_)
    · walk_at "go"
      intro dd nd
      exact Rz.at (bad (by omega)) nd
    rw [if_pos (by omega)] at q
    walk_at "go"
    refine ⟨l, rfl, hl, fun H1 s1 => ?_⟩
    cases e : firstBad l with
    | none =>
      rw [e] at q
      rw [show oV none = V.non from rfl]
      walk_at "go"
      exact q H1 s1
    | some n =>
      rw [e] at q
      rw [show oV (some n) = V.int (n : Int) from rfl]
      walk_at "go"
      intro dd nd
      exact Rz.at (Rz.mono q s1) nd
  all_goals
    walk_at "go"
    refine i_isiStr false hx rfl ?_
    walk_at "go"
    intro dd nd
    exact Rz.at q nd
def p_is_signal : P1 := fun x H Q _ => ∃ d, At H x d ∧ ∀ H', Same H H' → Q (.bl (isSigD d)) H'
theorem ok_is_signal (T : Txt K mg C_GlimError C_BadRound C_BadText C_BadLine C_BadSignal C_BadMessage C_TooLong C_Lines C_Signals C_dt_Signals___init__) : OK P w K mg base CX0 3 "is_signal" ["thing"] (sp1  p_is_signal) := by
  refine OK.mk (k := 2) T.d_is_signal sc_is_signal len1 fun f cdv A outer s H vs Q E hr h => ?_
  obtain ⟨x, rfl, h⟩ := h
  refine ⟨_, (pss_cons (ps_if (pw_or (pt_not (pt_val (pe_callB (cIsi K) (by rfl) T.b_isinstance (by decide +kernel) (pa_cons (pv 0) (pa_cons (pe_bltn (v := .ty "tuple") (by rfl) T.b_tuple (by decide +kernel) rfl) pa_nil))))) (pw_or1 (pt_cmpR (opNe K hr.units) (pe_callB (cLen K) (by rfl) T.b_len (by decide +kernel) (pa_cons (pv 0) pa_nil)) pe_int (nomark _)))).pt (pss_one (ps_ret pe_bl)) pss_nil) (pss_one (ps_ret (pe_and (pe_f (ok_is_letter (K := K) T) (hr.mono (by decide)) pass0 (pa_cons (pe_ix (ixK K) (pv 0) pe_int (fun _ _ => rfl)) pa_nil)) (pe_and (pe_f (ok_is_row (K := K) T) (hr.mono (by decide)) pass0 (pa_cons (pe_ix (ixK K) (pv 0) pe_int (fun _ _ => rfl)) (pa_cons (pe_gI (12) T.g_MOST_WORD) pa_nil))) (pe_one (pe_cmpR (opNe K hr.units) (pe_ix (ixK K) (pv 0) pe_int (fun _ _ => rfl)) (pe_S []) (nomark _)))))))), ?_⟩
  show (_ : TS) { nx := fun _ H' => Q .non H', rt := Q } [some x] H
  obtain ⟨d, hx, q⟩ := h
  cases d
  case tuple ds =>
    obtain ⟨a, xs, rfl, hH, hl, al⟩ := hx.tupled
    have ll := al.len
    walk_at "go"
    refine i_isiTup true hx rfl ?_
    walk_at "go"
    refine i_len_tup (.inl (.inl hH)) ?_
    walk_at "go"
    refine i_decN (fun e => ?_) (fun e => ?_)
    · have q0 := q H (Same.refl H)
      have : isSigD (.tuple ds) = false := by
        match ds, ll with
        | [], _ => rfl
        | [_], _ => rfl
        | [_, _], ll => exact absurd (by rw [ll]; rfl) e
        | _ :: _ :: _ :: _, _ => rfl
      rw [this] at q0
      walk_at "go"
      exact q0
    · have e2 : xs.length = 2 := by omega
      match xs, ds, e2, al with
      | [x1, x2], [d1, d2], _, al =>
        cases al with
        | cons a1 al =>
        cases al with
        | cons a2 al =>
        change ∀ H', Same H H' → Q (.bl (isLetD d1 && (isRowD 12 d2 && neS d2))) H' at q
        walk_at "go"
        refine ⟨d1, a1, _, rfl, ?_⟩
        cases e1 : isLetD d1 with
        | false =>
          rw [e1] at q
          walk_at "go"
          exact q H (Same.refl H)
        | true =>
          rw [e1] at q
          walk_at "go"
          refine ⟨d2, 12, a2, rfl, fun H1 s1 => ?_⟩
          refine ⟨_, rfl, ?_⟩
          cases e3 : isRowD 12 d2 with
          | false =>
            rw [e3] at q
            walk_at "go"
            exact q H1 s1
          | true =>
            rw [e3] at q
            obtain ⟨l, rfl⟩ : ∃ l, d2 = dS l := by
              cases d2 with
              | str z => exact ⟨z.cps.toList, by simp⟩
              | _ => cases e3
            obtain ⟨l', rfl, el, _⟩ := a2.strl
            obtain rfl : l = l' := List.toArray_inj (congrArg PySem.Str.cps el)
            walk_at "go"
            refine i_ix_tup (.inl (.inl (s1 _ _ hH))) (atI_int (z := 1) (by decide) rfl) ?_
            have q1 := q H1 s1
            rw [show (true && (true && neS (dS l))) = !decide (l = []) by simp [neS]] at q1
            walk_at "go"
            exact q1
  all_goals
    walk_at "go"
    refine i_isiTup false hx rfl ?_
    walk_at "go"
    exact q H (Same.refl H)
end
theorem kt2 {K : PySem.W.Frag} : PySem.W.kitAny K (.type "tuple") [.type "list", .type "tuple"] = some true := kitAny_cons (b := false) (kit_ty (by decide +kernel)) (fun _ => kitAny_cons (b := true) (kit_ty (by decide +kernel)) (fun z => nomatch z) (fun _ => rfl)) (fun z => nomatch z)
section
variable {P : Program} {w : World} {K : PySem.W.Frag} {mg : Str → Option Value} {base : Heap} {C_GlimError C_BadRound C_BadText C_BadLine C_BadSignal C_BadMessage C_TooLong C_Lines C_Signals C_dt_Signals___init__ : Addr}
def p_deepN (n : Nat) : P2 := fun x y H Q _ => ∃ A d z, Same A H ∧ At A x d ∧ y = .int z ∧ 0 ≤ z ∧ z + n ≤ 65 ∧ d.depth < n ∧ ∀ A' H' v, Ext A H A' H' → At A' v (deepD d) → Q v H'
/-- .. or the empty tuple of the text -/
def p_deepE (K : PySem.W.Frag) (n : Nat) : P2 := fun x y H Q E => p_deepN n x y H Q E ∨ ∃ a o, x = .ref a ∧ y = .int 0 ∧ 0 < n ∧ K.lookup a = some o ∧ o.cls = .type "tuple" ∧ (∀ H, SqT K H a []) ∧ ∀ H' p, Same H H' → H p = none → H' p = some (.tup []) → Q (.ref p) H'
theorem deep_n (T : Txt K mg C_GlimError C_BadRound C_BadText C_BadLine C_BadSignal C_BadMessage C_TooLong C_Lines C_Signals C_dt_Signals___init__) (n : Nat) (R : OK P w K mg base CX0 n "deep" ["thing", "level"] (sp2 (p_deepE K n))) : OKD P w K mg base CX0 (n + 1) "deep" ["thing", "level"] [.int 0] (sp2 (p_deepE K (n + 1))) := by
  refine OKD.mk (k := n) T.d_deep sc_deep len2 fun f cdv A outer s H vs Q E hr h => ?_
  obtain ⟨x, y, rfl, h⟩ := h
  refine ⟨_, (pss_cons (ps_if (pw_and (pt_val (pe_callB (cIsiT K) (by rfl) T.b_isinstance (by decide +kernel) (pa_cons (pv 0) (pa_cons (pe_tup (pa_cons (pe_bltn (v := .ty "list") (by rfl) T.b_list (by decide +kernel) rfl) (pa_cons (pe_bltn (v := .ty "tuple") (by rfl) T.b_tuple (by decide +kernel) rfl) pa_nil))) pa_nil)))) (pw_and1 (pt_cmpR op_ltP (pv 1) (pe_gI (70) T.g_MOST_LEVELS) (nomark _)))).pt (pss_one (ps_ret (pe_callTy (cTup K) (by rfl) T.b_tuple (by decide +kernel) (pa_cons (pe_lc (own := [("part", 2)]) (g := gName 2) (tt := tYes) (by rfl) sc_deep.nd (piAny K (pv 0)) (blkOk_by (own := [("part", 2)]) (N := ["thing", "level", "part"]) (sc := (defScope s_deep)) (by decide +kernel)) (fun _ _ _ _ _ => (pg_name (i := 2) sc_deep.nd rfl (Or.inl rfl))) (fun _ _ _ _ _ => pts_nil) (fun _ _ _ _ _ => (pe_f R (hr.mono (by omega)) pass0 (pa_cons (pv 2) (pa_cons (pe_op (opAdd K) (pv 1) pe_int) pa_nil))))) pa_nil)))) pss_nil) (pss_one (ps_ret (pv 0)))), ?_⟩
  show (_ : TS) { nx := fun _ H' => Q .non H', rt := Q } [some x, some y, none] H
  rcases h with ⟨A, d, z, sa, hx, rfl, z0, zn, dd, q⟩ | ⟨a, o, rfl, rfl, n0, ka, kc, kt, q⟩
  · walk_at "go"
    refine i_new (by show 2 ≤ 100000; omega) fun tp ntp => ?_
    have x1 := (Ext.refl sa).hid (o := .tup [.ty "list", .ty "tuple"]) ntp
    walk_at "go"
    cases d
    case list ds =>
      obtain ⟨a, xs, rfl, hH, hl, al⟩ := hx.listed
      have e1 : deepD (.list ds) = .tuple (ds.map deepD) := by rw [← deepDs_map]; rfl
      have d1 : PyData.depthAll ds + 1 < n + 1 := dd
      rw [e1] at q
      refine i_isiSeq true (x1.up hx) upd_same rfl ?_
      walk_at "go"
      rw [decide_eq_true (show z < 70 by omega)]
      walk_at "go"
      refine Fg.c_lstD x1.ag (fun R k => by walk_at "go"; exact k) (.inl (.inl (x1.ag _ _ hH))) al hl deepD (fun _ => rfl) (fun y d A1 G1 hd hy y1 QV k => ?_) (fun Dl A1 G1 l y1 e ea al2 ll => ?_)
      · show (_ : TE) [some (.ref a), some (.int z), some y] G1 QV
        have d2 := depth_mem hd
        walk_at "go"
        exact .inl ⟨A1, d, z + 1, y1.ag, hy, rfl, by omega, by omega, by omega, k⟩
      · walk_at "go"
        refine i_tuple_lst (.inl (.inl e)) fun tl ntl => ?_
        have na : A1 tl = none := y1.ag.free ntl
        have hds := al.len
        exact q _ _ _ ((x1.trans y1).new ntl) (At.mkTup upd_same (al2.same (same_upd na)) (by rw [List.length_map]; omega))
    case tuple ds =>
      obtain ⟨a, xs, rfl, hH, hl, al⟩ := hx.tupled
      have e1 : deepD (.tuple ds) = .tuple (ds.map deepD) := by rw [← deepDs_map]; rfl
      have d1 : PyData.depthAll ds + 1 < n + 1 := dd
      rw [e1] at q
      refine i_isiSeq true (x1.up hx) upd_same rfl ?_
      walk_at "go"
      rw [decide_eq_true (show z < 70 by omega)]
      walk_at "go"
      refine c_tupD x1.ag (fun R k => by walk_at "go"; exact k) (.inl (.inl (x1.ag _ _ hH))) al hl deepD (fun _ => rfl) (fun y d A1 G1 hd hy y1 QV k => ?_) (fun Dl A1 G1 l y1 e ea al2 ll => ?_)
      · show (_ : TE) [some (.ref a), some (.int z), some y] G1 QV
        have d2 := depth_mem hd
        walk_at "go"
        exact .inl ⟨A1, d, z + 1, y1.ag, hy, rfl, by omega, by omega, by omega, k⟩
      · walk_at "go"
        refine i_tuple_lst (.inl (.inl e)) fun tl ntl => ?_
        have na : A1 tl = none := y1.ag.free ntl
        have hds := al.len
        exact q _ _ _ ((x1.trans y1).new ntl) (At.mkTup upd_same (al2.same (same_upd na)) (by rw [List.length_map]; omega))
    all_goals
      refine i_isiSeq false (x1.up hx) upd_same rfl ?_
      walk_at "go"
      exact q _ _ _ x1 hx
  · walk_at "go"
    refine i_new (by show 2 ≤ 100000; omega) fun tp ntp => ?_
    have x1 : Same H (upd H tp (.tup [.ty "list", .ty "tuple"])) := same_upd ntp
    walk_at "go"
    refine ⟨_, tp, _, _, _, true, rfl, upd_same, .cons (.ty _) (.cons (.ty _) .nil), .kTuple ka kc, kt2, ?_⟩
    walk_at "go"
    rw [decide_eq_true (show (0 : Int) < 70 by decide)]
    walk_at "go"
    refine c_tup (xs := []) (fun R k => by walk_at "go"; exact k) (kt _) (by decide) (fun _ => true) (fun _ => .non) (fun _ => rfl) (fun i x H2 hi => by simp at hi) (fun i x H2 hi => by simp at hi) (fun Dl H2 n2 s2 d2 => ?_)
    walk_at "go"
    refine i_tuple_lst (.inl (.inl d2)) fun tl ntl => ?_
    have s3 := x1.trans s2
    exact q _ tl (s3.trans (same_upd ntl)) (s3.free ntl) upd_same
theorem deep_all (T : Txt K mg C_GlimError C_BadRound C_BadText C_BadLine C_BadSignal C_BadMessage C_TooLong C_Lines C_Signals C_dt_Signals___init__) : ∀ n, OK P w K mg base CX0 n "deep" ["thing", "level"] (sp2 (p_deepE K n))
  | 0 => OK.weak (OK.never T.d_deep) fun vs H Q E h => by
    obtain ⟨_, _, _, h⟩ := h
    rcases h with ⟨_, _, _, _, _, _, _, _, z, _⟩ | ⟨_, _, _, _, z, _⟩ <;> omega
  | n + 1 => (deep_n T n (deep_all T n)).full
theorem ok_deep (T : Txt K mg C_GlimError C_BadRound C_BadText C_BadLine C_BadSignal C_BadMessage C_TooLong C_Lines C_Signals C_dt_Signals___init__) : OKD P w K mg base CX0 6 "deep" ["thing", "level"] [.int 0] (sp2 (p_deepE K 6)) := deep_n T 5 (deep_all T 5)
/-- which signal is wrong: -1 if there are too many or they are no tuple -/
def sgKey : PyData → List Nat
  | .tuple (.str x :: _) => x.cps.toList
  | _ => []
def sgBad (used : List (List Nat)) : Nat → List PyData → Option Nat
  | _, [] => none
  | n, d :: r => if isSigD d && !decide (sgKey d ∈ used) then sgBad (sgKey d :: used) (n + 1) r else some n
def sgsD : PyData → Option Int
  | .tuple ds => if ds.length ≤ 4 then (sgBad [] 0 ds).map fun n : Nat => (n : Int) else some (-1)
  | _ => some (-1)
def usedG (used : List (List Nat)) : List Nat → Option V := fun l => if l ∈ used then some (.bl true) else none
theorem sig_of {d : PyData} (h : isSigD d = true) : ∃ l m, d = .tuple [dS l, dS m] ∧ letL l = true ∧ rowL 12 m = true ∧ m ≠ [] := by
  match d, h with
  | .tuple [a, b], h =>
    have h' : (isLetD a && (isRowD 12 b && neS b)) = true := h
    rw [Bool.and_eq_true, Bool.and_eq_true] at h'
    obtain ⟨h1, h2, h3⟩ := h'
    cases a with
    | str x => 
      cases b with
      | str y => exact ⟨x.cps.toList, y.cps.toList, by simp, h1, h2, of_decide_eq_true h3⟩
      | _ => cases h2
    | _ => cases h1
def p_check_signals (C : Addr) : P1 := fun x H Q E => ∃ d, At H x d ∧ (match sgsD d with
  | some n => Rz E H C "number" (.int n)
  | none => ∀ H', Same H H' → Q .non H')
theorem ok_check_signals (T : Txt K mg C_GlimError C_BadRound C_BadText C_BadLine C_BadSignal C_BadMessage C_TooLong C_Lines C_Signals C_dt_Signals___init__) : OK P w K mg base (L2.CX P w) 4 "check_signals" ["signals"] (sp1  (p_check_signals C_BadSignal)) := by
  refine OK.mkX (k := 3) T.d_check_signals sc_check_signals len1 fun f cdv A outer s H vs Q E hr h => ?_
  obtain ⟨x, rfl, h⟩ := h
  refine ⟨_, (pss_cons (ps_if (pw_or (pt_not (pt_val (pe_callB (cIsi K) (by rfl) T.b_isinstance (by decide +kernel) (pa_cons (pv 0) (pa_cons (pe_bltn (v := .ty "tuple") (by rfl) T.b_tuple (by decide +kernel) rfl) pa_nil))))) (pw_or1 (pt_cmpR op_gtP (pe_callB (cLen K) (by rfl) T.b_len (by decide +kernel) (pa_cons (pv 0) pa_nil)) (pe_gI (4) T.g_MOST_SIGNALS) (nomark _)))).pt (pss_one (ps_raiseP rfl (takes_of rfl rfl rfl rfl) (pmk_E (k := 0) (okx_BadSignal T) (hr.mono (by decide)) (pa_cons (pe_un un_neg pe_int) pa_nil)))) pss_nil) (pss_cons (ps_set (i := 1) sc_check_signals.nd rfl (Or.inl rfl) pe_dnewK) (pss_one (ps_for (passes_of rfl) rfl (piEnumT K rfl T.b_enumerate (pa_cons (pv 0) pa_nil)) (pgTup (n := 2) K rfl (pgs_cons (pg_name (i := 2) sc_check_signals.nd rfl (Or.inl rfl)) (pgs_cons (pg_name (i := 3) sc_check_signals.nd rfl (Or.inl rfl)) pgs_nil))) (pss_cons (ps_if (pw_or (pt_not (pt_val (pe_f (ok_is_signal (K := K) T) (hr.mono (by decide)) pass0 (pa_cons (pv 3) pa_nil)))) (pw_or1 (pt_cmp (pc_din (hu_of hr) (pe_ix (ixK K) (pv 3) pe_int (fun _ _ => rfl)) (pv 1))))).pt (pss_one (ps_raiseP rfl (takes_of rfl rfl rfl rfl) (pmk_E (k := 0) (okx_BadSignal T) (hr.mono (by decide)) (pa_cons (pv 2) pa_nil)))) pss_nil) (pss_one (ps_dput (hu_of hr) (pv 1) (pe_ix (ixK K) (pv 3) pe_int (fun _ _ => rfl)) pe_bl rfl))))))), ?_⟩
  show (_ : TS) { nx := fun _ H' => Q .non H', rt := Q } [some x, none, none, none] H
  obtain ⟨d, hx, q⟩ := h
  cases d
  case tuple ds =>
    obtain ⟨a, xs, rfl, hH, hl, al⟩ := hx.tupled
    have ll := al.len
    change (match (if ds.length ≤ 4 then (sgBad [] 0 ds).map fun n : Nat => (n : Int) else some (-1)) with
      | some n => Rz E H C_BadSignal "number" (.int n)
      | none => ∀ H', Same H H' → Q .non H') at q
    walk_at "go"
    refine i_isiTup true hx rfl ?_
    walk_at "go"
    refine i_len_tup (.inl (.inl hH)) ?_
    rw [ll]
    walk_at "go"
    refine i_dec (fun e1 => ?_) (fun e1 => ?_)
    · rw [if_neg (by omega)] at q
      walk_at "go"
      intro dd nd
      exact Rz.at q nd
    rw [if_pos (by omega)] at q
    walk_at "go"
    refine i_dnewK fun td ntd => ?_
    have sd : Same H (upd H td (.dK [])) := same_upd ntd
    walk_at "go"
    dsimp only
    refine f_enumT (ta := tCons (tVar 0) tNil) (i1 := 2) (i2 := 3) (a := a) (xs := xs) (fun R k => by walk_at "go"; exact k) (.inl (.inl (sd _ _ hH))) (fun i σ H' => ∃ v1 v2 used, σ = [some (.ref a), some (.ref td), v1, v2] ∧ Same H H' ∧ TD i H' td (usedG used) ∧ sgBad [] 0 ds = sgBad used i (ds.drop i))
      ⟨none, none, [], rfl, sd, TD.new, rfl⟩ (fun i σ' H' _ p => ?_) ?_ ?_
    · obtain ⟨_, _, _, _, s1, _⟩ := p
      rw [s1 _ _ hH, sd _ _ hH]
    · rintro i x σ H' Tt hi ⟨v1, v2, used, rfl, s1, td1, eb⟩ nT
      show (_ : TS) _ [some (.ref a), some (.ref td), some (.int (i : Int)), some x] _
      obtain ⟨c, hc, ac⟩ := al.get hi
      have st : Same H' (upd H' Tt (.tup [.int (i : Int), x])) := same_upd nT
      have hlt := (List.getElem?_eq_some_iff.mp hc).1
      have ed : ds.drop i = c :: ds.drop (i + 1) := by
        rw [List.drop_eq_getElem_cons hlt, (List.getElem?_eq_some_iff.mp hc).2]
      rw [ed] at eb
      have eb : sgBad [] 0 ds = if isSigD c && !decide (sgKey c ∈ used) then sgBad (sgKey c :: used) (i + 1) (ds.drop (i + 1)) else some i := eb
      walk_at "go"
      refine ⟨c, ac.same (s1.trans st), fun H2 s2 => ?_⟩
      have s3 : Same H H2 := s1.trans (st.trans s2)
      cases ew : isSigD c with
      | false =>
        rw [ew, Bool.false_and, if_neg (by decide)] at eb
        rw [eb] at q
        walk_at "go"
        intro dd nd
        exact Rz.at (Rz.mono q s3) nd
      | true =>
        obtain ⟨l, m, rfl, hl, hm, hne⟩ := sig_of ew
        obtain ⟨b, ys, rfl, hb, _, ay⟩ := (ac.same s3).tupled
        cases ay with
        | cons a1 ay =>
        obtain ⟨l', rfl, el, _⟩ := a1.strl
        obtain rfl : l = l' := List.toArray_inj (congrArg PySem.Str.cps el)
        rw [ew, Bool.true_and] at eb
        have td2 := td1.mono (st.trans s2)
        have ek : sgKey (.tuple [dS l, dS m]) = l := rfl
        rw [ek] at eb
        walk_at "go"
        refine td_ask (l := l) td2 ?_
        unfold usedG
        by_cases hu : l ∈ used
        · rw [if_neg (by simp [hu])] at eb
          rw [eb] at q
          rw [if_pos hu]
          simp only [Option.isSome_some]
          walk_at "go"
          intro dd nd
          exact Rz.at (Rz.mono q s3) nd
        · rw [if_pos (by simp [hu])] at eb
          rw [if_neg hu]
          simp only [Option.isSome_none]
          walk_at "go"
          have hi4 : i ≤ 4 := by omega
          refine td_put (l := l) td2 (by omega) fun o5 td3 => ?_
          walk_at "go"
          refine ⟨_, _, l :: used, rfl, fun b' o' e' => ?_, ?_, eb⟩
          · rw [upd_ne (ne_of_none e' ntd)]
            exact s3 _ _ e'
          · obtain ⟨kvs, k1, k2, k3⟩ := td3
            refine ⟨kvs, k1, k2, fun m' => ?_⟩
            rw [k3 m']
            show (if m' = l then some (V.bl true) else if m' ∈ used then some (V.bl true) else none) = if m' ∈ l :: used then some (V.bl true) else none
            by_cases e' : m' = l
            · rw [if_pos e', if_pos (by rw [e']; exact List.mem_cons_self ..)]
            · rw [if_neg e']
              by_cases e2 : m' ∈ used
              · rw [if_pos e2, if_pos (List.mem_cons_of_mem _ e2)]
              · rw [if_neg e2, if_neg (by simp [e', e2])]
    · rintro σ' H' ⟨v1, v2, used, rfl, s1, td1, eb⟩
      rw [List.drop_of_length_le (by omega)] at eb
      have eb : sgBad [] 0 ds = none := eb
      rw [eb] at q
      walk_at "go"
      exact q H' s1
  all_goals
    walk_at "go"
    refine i_isiTup false hx rfl ?_
    walk_at "go"
    intro dd nd
    exact Rz.at q nd
end
abbrev Tb := List (Nat × List Nat)
def SF (pl : List Nat) (t d : Addr) : List (Str × V) := putF "spelled" (.ref d) (putF "signals" (.ref t) (putF "plain" (S pl) []))
theorem SF_pl (pl : List Nat) (t d : Addr) : (SF pl t d).lookup ("plain" : Str) = some (S pl) := by
  unfold SF
  rw [lookup_putF, if_neg (by decide), lookup_putF, if_neg (by decide), lookup_putF, if_pos rfl]
theorem SF_si (pl : List Nat) (t d : Addr) : (SF pl t d).lookup ("signals" : Str) = some (.ref t) := by
  unfold SF
  rw [lookup_putF, if_neg (by decide), lookup_putF, if_pos rfl]
theorem SF_sp (pl : List Nat) (t d : Addr) : (SF pl t d).lookup ("spelled" : Str) = some (.ref d) := by
  unfold SF
  rw [lookup_putF, if_pos rfl]
def sgP (p : Nat × List Nat) : PyData := .tuple [dS [p.1], dS p.2]
def sgT (ps : Tb) : PyData := .tuple (ps.map sgP)
def all (pl : List Nat) (ps : Tb) : Tb := (48, pl) :: ps
structure SgAt (C : Addr) (H : Hp) (a dx t d : Addr) (pl : List Nat) (ps : Tb) : Prop where
  ob : H a = some (.ins C dx (SF pl t d))
  sg : At H (.ref t) (sgT ps)
  sp : H d = some (.dK (tblK (all pl ps)))
  lp : pl.length ≤ 24
  ls : ps.length ≤ 4
  lw : ∀ p ∈ ps, p.2.length ≤ 12
def Sg (C : Addr) (H : Hp) (a : Addr) (pl : List Nat) (ps : Tb) : Prop := ∃ dx t d, SgAt C H a dx t d pl ps
theorem SgAt.same {C a dx t d : Addr} {H H' : Hp} {pl : List Nat} {ps : Tb} (h : SgAt C H a dx t d pl ps) (s : Same H H') : SgAt C H' a dx t d pl ps := ⟨s _ _ h.ob, h.sg.same s, s _ _ h.sp, h.lp, h.ls, h.lw⟩
theorem Sg.same {C a : Addr} {H H' : Hp} {pl : List Nat} {ps : Tb} (h : Sg C H a pl ps) (s : Same H H') : Sg C H' a pl ps := by
  obtain ⟨dx, t, d, h⟩ := h
  exact ⟨dx, t, d, h.same s⟩
theorem look_mem {t : Tb} {c : Nat} {w : List Nat} (h : t.lookup c = some w) : (c, w) ∈ t := by
  induction t with
  | nil => cases h
  | cons p r ih =>
    obtain ⟨k, v⟩ := p
    rw [List.lookup_cons] at h
    by_cases e : c = k
    · subst e
      rw [show (c == c) = true by simp] at h
      cases h
      exact List.mem_cons_self ..
    · rw [show (c == k) = false by simpa using e] at h
      exact List.mem_cons_of_mem _ (ih h)
section
variable {P : Program} {w : World} {K : PySem.W.Frag} {mg : Str → Option Value} {base : Heap} {C_GlimError C_BadRound C_BadText C_BadLine C_BadSignal C_BadMessage C_TooLong C_Lines C_Signals C_dt_Signals___init__ : Addr}
end
theorem sgBad_none : ∀ (ds : List PyData) (used : List (List Nat)) (n : Nat), sgBad used n ds = none → ∃ ps : Tb, ds = ps.map sgP ∧ (∀ p ∈ ps, [p.1] ∉ used ∧ p.1 ∈ AZ ∧ p.2.length ≤ 12 ∧ p.2 ≠ [] ∧ firstBad p.2 = none) ∧ (ps.map (·.1)).Nodup
  | [], _, _, _ => ⟨[], rfl, fun _ h => (List.not_mem_nil h).elim, List.nodup_nil⟩
  | d :: r, used, n, h => by
    have h' : (if isSigD d && !decide (sgKey d ∈ used) then sgBad (sgKey d :: used) (n + 1) r else some n) = none := h
    split at h'
    · rename_i e
      rw [Bool.and_eq_true] at e
      obtain ⟨l, m, rfl, hl, hm, hne⟩ := sig_of e.1
      obtain ⟨ps, rfl, hp, hn⟩ := sgBad_none r _ _ h'
      have hu : l ∉ used := by have e2 := e.2; rw [show sgKey (.tuple [dS l, dS m]) = l from rfl] at e2; simpa using e2
      unfold letL at hl
      rw [Bool.and_eq_true] at hl
      obtain ⟨c, rfl⟩ := List.length_eq_one_iff.mp (of_decide_eq_true hl.1)
      have hc : c ∈ AZ := by have := hl.2; simpa using this
      unfold rowL at hm
      rw [Bool.and_eq_true] at hm
      have hm1 := of_decide_eq_true hm.1
      refine ⟨(c, m) :: ps, rfl, fun p hp' => ?_, ?_⟩
      · rcases List.mem_cons.mp hp' with rfl | hp'
        · exact ⟨hu, hc, (by show m.length ≤ 12; omega), hne, by have := hm.2; simpa using this⟩
        · have := hp p hp'
          exact ⟨fun z => this.1 (List.mem_cons_of_mem _ z), this.2⟩
      · rw [List.map_cons, List.nodup_cons]
        refine ⟨fun z => ?_, hn⟩
        obtain ⟨p, hp', e'⟩ := List.mem_map.mp z
        exact (hp p hp').1 (by rw [e']; exact List.mem_cons_self ..)
    · cases h'
structure GoodT (ps : Tb) : Prop where
  ln : ps.length ≤ 4
  az : ∀ p ∈ ps, p.1 ∈ AZ
  lw : ∀ p ∈ ps, p.2.length ≤ 12
  ne : ∀ p ∈ ps, p.2 ≠ []
  ok : ∀ p ∈ ps, firstBad p.2 = none
  nd : (ps.map (·.1)).Nodup
theorem sgs_of {D : PyData} (h : sgsD D = none) : ∃ ps, D = sgT ps ∧ GoodT ps := by
  cases D with
  | tuple ds =>
    have h' : (if ds.length ≤ 4 then (sgBad [] 0 ds).map fun n : Nat => (n : Int) else some (-1)) = none := h
    split at h'
    · rename_i e
      rw [Option.map_eq_none_iff] at h'
      obtain ⟨ps, rfl, hp, hn⟩ := sgBad_none ds _ _ h'
      rw [List.length_map] at e
      exact ⟨ps, rfl, e, fun p h => (hp p h).2.1, fun p h => (hp p h).2.2.1, fun p h => (hp p h).2.2.2.1, fun p h => (hp p h).2.2.2.2, hn⟩
    · cases h'
  | _ => cases h
theorem rnd_of {d : PyData} (h : rndD d = none) : ∃ pl, d = dS pl ∧ 1 ≤ pl.length ∧ pl.length ≤ 24 ∧ firstBad pl = none := by
  cases d with
  | str x =>
    have h' : rndL x.cps.toList = none := h
    unfold rndL at h'
    split at h'
    · rename_i e
      rw [Option.map_eq_none_iff] at h'
      exact ⟨x.cps.toList, by simp, e.1, e.2, h'⟩
    · cases h'
  | _ => cases h
theorem look_none {t : Tb} {c : Nat} (h : c ∉ t.map (·.1)) : t.lookup c = none := by
  cases e : t.lookup c with
  | none => rfl
  | some w => exact (h (List.mem_map.mpr ⟨_, look_mem e, rfl⟩)).elim
theorem all_nd {pl : List Nat} {ps : Tb} (g : GoodT ps) : ((all pl ps).map (·.1)).Nodup := by
  show ((48 : Nat) :: ps.map (·.1)).Nodup
  rw [List.nodup_cons]
  refine ⟨fun z => ?_, g.nd⟩
  obtain ⟨p, hp, e⟩ := List.mem_map.mp z
  have := g.az p hp
  rw [e] at this
  exact absurd this (by decide)
section
variable {P : Program} {w : World} {K : PySem.W.Frag} {mg : Str → Option Value} {base : Heap} {C_GlimError C_BadRound C_BadText C_BadLine C_BadSignal C_BadMessage C_TooLong C_Lines C_Signals C_dt_Signals___init__ : Addr}
theorem noL_sg (ps : Tb) : noL (sgT ps) = true := by
  show noLs (ps.map sgP) = true
  refine noLs_of fun d hd => ?_
  obtain ⟨p, _, rfl⟩ := List.mem_map.mp hd
  rfl
theorem deep_ask {K : PySem.W.Frag} {H : Hp} {R : VK} {E : XK} {z : V} {D : PyData} {CD : Addr} (hz : (∃ d, At H z d ∧ d.depth < 6 ∧ D = deepD d) ∨ (z = .ref CD ∧ D = .tuple []))
    (kd : ∃ o, K.lookup CD = some o ∧ o.cls = .type "tuple" ∧ ∀ H : Hp, SqT K H CD []) (k : ∀ H1 v, Same H H1 → At H1 v D → R v H1) : p_deepE K 6 z (.int 0) H R E := by
  rcases hz with ⟨d, hx, dp, rfl⟩ | ⟨rfl, rfl⟩
  · exact .inl ⟨H, d, 0, Same.refl H, hx, rfl, by decide, by decide, dp, fun A' H' v x hv => k H' v x.gg (hv.same x.ag)⟩
  · obtain ⟨o, ko, kc, kt⟩ := kd
    exact .inr ⟨CD, o, rfl, rfl, by decide, ko, kc, kt, fun H' p s n e => k H' (.ref p) s (.tup e (Nat.zero_le _) .nil)⟩
def p_init (C CD CR CS : Addr) : P3 := fun x y z H Q E => ∃ p dx d1 D, x = .ref p ∧ H p = some (.ins C dx []) ∧ At H y d1 ∧ ((∃ d, At H z d ∧ d.depth < 6 ∧ D = deepD d) ∨ (z = .ref CD ∧ D = .tuple [])) ∧
  (match rndD d1 with
    | some n => Rz E H CR "number" (.int n)
    | none => match sgsD D with
      | some n => Rz E H CS "number" (.int n)
      | none => ∀ pl ps H' t dd, d1 = dS pl → D = sgT ps → But p H H' → SgAt C H' p dx t dd pl ps → Q .non H')
theorem ok_Signals___init__ (T : Txt K mg C_GlimError C_BadRound C_BadText C_BadLine C_BadSignal C_BadMessage C_TooLong C_Lines C_Signals C_dt_Signals___init__) : MkOK P w K mg base (L2.CX P w) 7 "Signals" C_Signals ["self", "plain", "signals"] [.ref C_dt_Signals___init__] (sp3  (p_init C_Signals C_dt_Signals___init__ C_BadRound C_BadSignal)) := by
  refine MkOK.mkX (k := 6) T.m_Signals___init__ sc_Signals___init__ len3 fun f cdv A outer s H vs Q E hr h => ?_
  obtain ⟨x, y, z, rfl, h⟩ := h
  refine ⟨_, (pss_cons (ps_set (i := 3) sc_Signals___init__.nd rfl (Or.inl rfl) (pe_fd (ok_deep (K := K) T) (hr.mono (by decide)) pass0 (pa_cons (pv 2) pa_nil))) (pss_cons (ps_expr (pe_f (ok_check_round (K := K) T) (hr.mono (by decide)) (passes_call (takes_of rfl rfl rfl rfl) (fun _ _ _ _ h => h)) (pa_cons (pv 1) pa_nil))) (pss_cons (ps_expr (pe_f (ok_check_signals (K := K) T) (hr.mono (by decide)) (passes_call (takes_of rfl rfl rfl rfl) (fun _ _ _ _ h => h)) (pa_cons (pv 3) pa_nil))) (pss_cons (psFld K (pv 0) (pv 1)) (pss_cons (psFld K (pv 0) (pv 3)) (pss_cons (psFld K (pv 0) (pe_disp (pps_cons (pe_gS [48] T.g_PLAIN) (pv 1) pps_nil) (by rfl) (by rfl) (fun z => by cases z) (by decide))) (pss_one (ps_for (passes_of rfl) rfl (piAny K (pv 3)) (pgTup (n := 2) K rfl (pgs_cons (pg_name (i := 4) sc_Signals___init__.nd rfl (Or.inl rfl)) (pgs_cons (pg_name (i := 5) sc_Signals___init__.nd rfl (Or.inl rfl)) pgs_nil))) (pss_one (ps_dput (hu_of hr) (peFld K (pv 0)) (pv 4) (pv 5) rfl)))))))))), ?_⟩
  show (_ : TS) { nx := fun _ H' => Q .non H', rt := Q } [some x, some y, some z, none, none, none] H
  obtain ⟨p, dx, d1, D, rfl, ob, hy, hz, q⟩ := h
  walk_at "go"
  refine deep_ask hz T.q_dt_Signals___init__ fun H1 v s1 hv => ?_
  walk_at "go"
  refine ⟨d1, hy.same s1, ?_⟩
  cases er : rndD d1 with
  | some n =>
    rw [er] at q
    exact Rz.mono q s1
  | none =>
  rw [er] at q
  obtain ⟨pl, rfl, lp1, lp2, lp3⟩ := rnd_of er
  obtain ⟨l', rfl, el, _⟩ := hy.strl
  obtain rfl : pl = l' := List.toArray_inj (congrArg PySem.Str.cps el)
  intro H2 s2
  walk_at "go"
  have s12 := s1.trans s2
  refine ⟨D, hv.same s2, ?_⟩
  cases es : sgsD D with
  | some n =>
    rw [es] at q
    exact Rz.mono q s12
  | none =>
  rw [es] at q
  obtain ⟨ps, rfl, gd⟩ := sgs_of es
  intro H3 s3
  have s13 := s12.trans s3
  have ob3 := s13 _ _ ob
  have hv3 := hv.same (s2.trans s3)
  obtain ⟨t, xs, rfl, hT, hl, al⟩ := hv3.tupled
  walk_at "go"
  refine i_put ob3 T.cl_Signals T.na_Signals_plain (by show 0 < 1000; decide) ?_
  walk_at "go"
  refine i_put upd_same T.cl_Signals T.na_Signals_signals (by show 1 < 1000; decide) ?_
  walk_at "go"
  refine i_disp1K (l := [48]) (v := S pl) (tk := tC (S [48])) (tv := tVar 1) (σ := [some (V.ref p), some (S pl), some z, some (V.ref t), none, none]) (fun H R k => k) (fun H R k => by walk_at "go"; exact k) fun dd nd => ?_
  have npd : p ≠ dd := fun z => by rw [← z, upd_same] at nd; cases nd
  have n3 : H3 dd = none := by rw [upd_ne (fun z => npd z.symm), upd_ne (fun z => npd z.symm)] at nd; exact nd
  walk_at "go"
  refine i_put ((upd_ne npd).trans upd_same) T.cl_Signals T.na_Signals_spelled (by show 2 < 1000; decide) ?_
  walk_at "go"
  generalize eHb : upd (upd (upd (upd H3 p _) p _) dd _) p _ = Hb
  have hbp : Hb p = some (.ins C_Signals dx (SF pl t dd)) := by rw [← eHb, upd_same]; rfl
  have hbd : Hb dd = some (.dK [(kS [48], S pl)]) := by rw [← eHb, upd_ne (fun z => npd z.symm), upd_same]
  have hbo : ∀ b o, b ≠ p → H3 b = some o → Hb b = some o := fun b o nb e => by
    have n1 : b ≠ dd := fun z => by rw [z, n3] at e; cases e
    rw [← eHb, upd_ne nb, upd_ne n1, upd_ne nb, upd_ne nb]
    exact e
  have ntp : ∀ {b : Addr} {ys : List V}, H3 b = some (.tup ys) → b ≠ p := fun e z => by rw [z, ob3] at e; cases e
  have ntd : ∀ {b : Addr} {o : HO}, H3 b = some o → b ≠ dd := fun e z => by rw [z, n3] at e; cases e
  refine i_forT (a := t) (xs := xs) (.inl (.inl (hbo _ _ (ntp hT) hT))) (fun i σ H' => ∃ v1 v2, σ = [some (V.ref p), some (S pl), some z, some (V.ref t), v1, v2] ∧ (∀ b, b ≠ dd → H' b = Hb b) ∧ H' dd = some (.dK (tblK (all pl (ps.take i)))))
    ⟨none, none, rfl, fun _ _ => rfl, hbd⟩ (fun i σ' H' _ pv => ?_) ?_ ?_
  · obtain ⟨_, _, _, e1, _⟩ := pv
    exact .inl (.inl ((e1 t (ntd hT)).trans (hbo _ _ (ntp hT) hT)))
  · rintro i x σ' H' hi ⟨v1, v2, rfl, e1, e2⟩
    obtain ⟨c, hc, ac⟩ := al.get hi
    rw [List.getElem?_map] at hc
    cases hk : ps[i]? with
    | none => rw [hk] at hc; cases hc
    | some kw =>
    obtain ⟨k, w⟩ := kw
    rw [hk] at hc
    cases hc
    obtain ⟨b, ys, rfl, hb, _, ay⟩ := ac.tupled
    cases ay with
    | cons a1 ay =>
    cases ay with
    | cons a2 ay =>
    cases ay
    obtain ⟨l1, rfl, el1, _⟩ := a1.strl
    obtain rfl : [k] = l1 := List.toArray_inj (congrArg PySem.Str.cps el1)
    obtain ⟨l2, rfl, el2, _⟩ := a2.strl
    obtain rfl : w = l2 := List.toArray_inj (congrArg PySem.Str.cps el2)
    have hb' : H' b = some (.tup [S [k], S w]) := (e1 b (ntd hb)).trans (hbo _ _ (ntp hb) hb)
    have hp' : H' p = some (.ins C_Signals dx (SF pl t dd)) := (e1 p npd).trans hbp
    refine i_gtup2 (SqT.of hb') ?_
    show (_ : TS) _ [some (V.ref p), some (S pl), some z, some (V.ref t), some (S [k]), some (S w)] H'
    walk_at "go"
    refine i_fld hp' T.cl_Signals T.na_Signals_spelled (SF_sp ..) ?_
    walk_at "go"
    have hlt := (List.getElem?_eq_some_iff.mp hk).1
    have hln := gd.ln
    have tk : all pl (ps.take (i + 1)) = all pl (ps.take i) ++ [(k, w)] := by
      show (48, pl) :: ps.take (i + 1) = (48, pl) :: ps.take i ++ [(k, w)]
      rw [List.take_succ, hk]
      rfl
    have nk : k ∉ (all pl (ps.take i)).map (·.1) := by
      have nd := all_nd (pl := pl) gd
      have e0 : all pl ps = all pl (ps.take (i + 1)) ++ ps.drop (i + 1) := by
        show (48, pl) :: ps = (48, pl) :: ps.take (i + 1) ++ ps.drop (i + 1)
        rw [List.cons_append, List.take_append_drop]
      rw [e0, tk, List.map_append, List.map_append, List.nodup_append] at nd
      have n1 := nd.1
      rw [List.nodup_append] at n1
      exact fun z => n1.2.2 k z k (by simp) rfl
    refine dk_put (l := [k]) (v := S w) e2 (by
      unfold tblK
      rw [List.length_map]
      show (ps.take i).length + 1 ≤ 100000
      rw [List.length_take]
      omega) ?_
    refine ⟨_, _, rfl, fun b' nb => (upd_ne nb).trans (e1 b' nb), ?_⟩
    rw [upd_same, putK_new (by rw [tbl_val, look_none nk]; rfl), tk]
    unfold tblK
    rw [List.map_append]
    rfl
  · rintro σ' H' ⟨v1, v2, rfl, e1, e2⟩
    have ll := al.len
    rw [List.length_map] at ll
    rw [List.take_of_length_le (by omega)] at e2
    have bt : But p H3 H' := fun b o nb e => (e1 b (ntd e)).trans (hbo b o nb e)
    have sm : SmT H3 H' := fun b ys e => bt b _ (ntp e) e
    exact q pl ps H' t dd rfl rfl (But.trans (But.of s13) bt) ⟨(e1 p npd).trans hbp, hv3.keep sm (noL_sg ps), e2, lp2, gd.ln, gd.lw⟩
end
theorem firstBad_sg {l : List Nat} (h : firstBad l = none) : ∀ c ∈ l, c ∈ SG := by
  intro c hc
  unfold firstBad at h
  rw [List.findIdx?_eq_none_iff] at h
  have := h c hc
  rw [Bool.not_eq_false', decide_eq_true_eq] at this
  exact this
theorem sgT_lay {ps : Tb} (g : GoodT ps) : (sgT ps).canLay0 = true := by
  show PyData.canLayAll0 (ps.map sgP) = true
  have az : ∀ c ∈ AZ, c < 0x110000 := by decide
  have sg : ∀ c ∈ SG, c < 0x110000 := by decide
  have key : ∀ qs : Tb, (∀ p ∈ qs, p ∈ ps) → PyData.canLayAll0 (qs.map sgP) = true := fun qs => by
    induction qs with
    | nil => intro _; rfl
    | cons p r ih =>
      intro h
      have hp := h p (List.mem_cons_self ..)
      have h1 : PyData.strOk ⟨([p.1] : List Nat).toArray⟩ = true := strOk_small fun c hc => by
        have : c = p.1 := by simpa using hc
        rw [this]; exact az _ (g.az p hp)
      have h2 : PyData.strOk ⟨p.2.toArray⟩ = true := strOk_small fun c hc => sg _ (firstBad_sg (g.ok p hp) c hc)
      show ((PyData.strOk _ && (PyData.strOk _ && true)) && PyData.canLayAll0 (r.map sgP)) = true
      rw [h1, h2, ih fun x hx => h x (List.mem_cons_of_mem _ hx)]
      rfl
  exact key ps fun _ h => h
theorem sgT_dep (ps : Tb) : (sgT ps).depth ≤ 3 := by
  have key : ∀ qs : Tb, PyData.depthAll (qs.map sgP) ≤ 2 := fun qs => by
    induction qs with
    | nil => exact Nat.zero_le _
    | cons p r ih =>
      show max (sgP p).depth (PyData.depthAll (r.map sgP)) ≤ 2
      have : (sgP p).depth ≤ 2 := by unfold sgP; simp [PyData.depth, PyData.depthAll]
      omega
  have := key ps
  show PyData.depthAll (ps.map sgP) + 1 ≤ 3
  omega
section
variable {P : Program} {w : World} {K : PySem.W.Frag} {mg : Str → Option Value} {base : Heap} {C_GlimError C_BadRound C_BadText C_BadLine C_BadSignal C_BadMessage C_TooLong C_Lines C_Signals C_dt_Signals___init__ : Addr}
def p_eq (C : Addr) : P2 := fun x y H Q _ => ∃ a pl ps, x = .ref a ∧ Sg C H a pl ps ∧ GoodT ps ∧ ((∃ b pl2 ps2, y = .ref b ∧ Sg C H b pl2 ps2 ∧ GoodT ps2 ∧ Q (.bl (decide (pl = pl2) && (sgT ps).eqv (sgT ps2))) H) ∨
  ∃ d, At H y d ∧ kindD d ∈ ["str", "int", "tuple", "list"] ∧ Q (.bl false) H)
theorem ok_Signals___eq__ (T : Txt K mg C_GlimError C_BadRound C_BadText C_BadLine C_BadSignal C_BadMessage C_TooLong C_Lines C_Signals C_dt_Signals___init__) : DOK P w K mg base CX0 1 C_Signals "__eq__" ["self", "other"] (sp2  (p_eq C_Signals)) := by
  refine DOK.mk (k := 0) T.m_Signals___eq__ sc_Signals___eq__ len2 fun f cdv A outer s H vs Q E hr h => ?_
  obtain ⟨x, y, rfl, h⟩ := h
  refine ⟨_, (pss_one (ps_ret (pe_and (pe_callB (cIsi K) (by rfl) T.b_isinstance (by decide +kernel) (pa_cons (pv 1) (pa_cons (pe_gR _ T.c_Signals) pa_nil))) (pe_and (pe_cmpR (opEq K hr.units) (peFld K (pv 0)) (peFld K (pv 1)) (nomark _)) (pe_one (pe_cmpR (opEq K hr.units) (peFld K (pv 0)) (peFld K (pv 1)) (nomark _))))))), ?_⟩
  show (_ : TS) { nx := fun _ H' => Q .non H', rt := Q } [some x, some y] H
  obtain ⟨a, pl, ps, rfl, ⟨dx, t, d, sg⟩, g1, h⟩ := h
  walk_at "go"
  rcases h with ⟨b, pl2, ps2, rfl, ⟨dx2, t2, d2, sg2⟩, g2, q⟩ | ⟨dd, hd, kd, q⟩
  · refine i_isiO sg2.ob T.ic_Signals (.own _) T.k_Signals_Signals ?_
    walk_at "go"
    refine i_fld sg.ob T.cl_Signals T.na_Signals_plain (SF_pl ..) ?_
    walk_at "go"
    refine i_fld sg2.ob T.cl_Signals T.na_Signals_plain (SF_pl ..) ?_
    walk_at "go"
    have sh : ∀ {qs : Tb}, GoodT qs → SeqAt.shaped (sgT qs) = true := fun {qs} g => by
      unfold SeqAt.shaped
      rw [sgT_lay g, decide_eq_true (show (sgT qs).depth ≤ 64 by have := sgT_dep qs; omega)]
      rfl
    by_cases e : pl = pl2
    · rw [decide_eq_true e, Bool.true_and] at q
      rw [decide_eq_true e]
      walk_at "go"
      refine i_fld sg.ob T.cl_Signals T.na_Signals_signals (SF_si ..) ?_
      walk_at "go"
      refine i_fld sg2.ob T.cl_Signals T.na_Signals_signals (SF_si ..) ?_
      exact i_eq_data (sg.sg.dp K _ _ (PyData.hasDict_of_canLay _ (sgT_lay g1))) (sg2.sg.dp K _ _ (PyData.hasDict_of_canLay _ (sgT_lay g2))) (sh g1) (sh g2) rfl q
    · rw [decide_eq_false e, Bool.false_and] at q
      rw [decide_eq_false e]
      walk_at "go"
      exact q
  · have kt : PySem.W.kitOne K (.type (kindD dd)) (.ref C_Signals) = some false := by
      simp only [List.mem_cons, List.not_mem_nil, or_false] at kd
      rcases kd with e | e | e | e <;> rw [e]
      · exact T.k_str_Signals
      · exact T.k_int_Signals
      · exact T.k_tuple_Signals
      · exact T.k_list_Signals
    refine i_isiDO hd (.own _) kt ?_
    walk_at "go"
    exact q
end
section
variable {P : Program} {w : World} {K : PySem.W.Frag} {mg : Str → Option Value} {base : Heap} {C_GlimError C_BadRound C_BadText C_BadLine C_BadSignal C_BadMessage C_TooLong C_Lines C_Signals C_dt_Signals___init__ : Addr}
def p_common : P2 := fun x y H Q _ => ∃ a b : Nat, x = .int (a : Int) ∧ y = .int (b : Int) ∧ 1 ≤ a ∧ 1 ≤ b ∧ Big a ∧ Big b ∧ Q (.int ((Nat.lcm a b : Nat) : Int)) H
theorem ok_common_beats (T : Txt K mg C_GlimError C_BadRound C_BadText C_BadLine C_BadSignal C_BadMessage C_TooLong C_Lines C_Signals C_dt_Signals___init__) : OK P w K mg base CX0 1 "common_beats" ["first", "second"] (sp2  p_common) := by
  refine OK.mk (k := 0) T.d_common_beats sc_common_beats len2 fun f cdv A outer s H vs Q E hr h => ?_
  obtain ⟨x, y, rfl, h⟩ := h
  refine ⟨_, (pss_cons (ps_par (i := 2) (j := 3) rfl sc_common_beats.nd rfl rfl (by decide) rfl rfl (pa_cons (pv 0) (pa_cons (pv 1) pa_nil)) (by rfl)) (pss_cons (ps_while PassesOwn.never (pt_cmpR op_gtP (pv 3) pe_int (nomark _)) (pss_one (ps_par (i := 2) (j := 3) rfl sc_common_beats.nd rfl rfl (by decide) rfl rfl (pa_cons (pv 3) (pa_cons (pe_op op_modP (pv 2) (pv 3)) pa_nil)) (by rfl)))) (pss_one (ps_ret (pe_op op_mulP (pe_op op_fdivP (pv 0) (pv 2)) (pv 1)))))), ?_⟩
  show (_ : TS) { nx := fun _ H' => Q .non H', rt := Q } [some x, some y, none, none] H
  obtain ⟨a, b, rfl, rfl, a1, b1, a2, b2, q⟩ := h
  walk_at "go"
  refine i_while (fun m σ H' => ∃ n : Nat, σ = [some (.int (a : Int)), some (.int (b : Int)), some (.int (n : Int)), some (.int (m : Int))] ∧ H' = H ∧ 1 ≤ n ∧ Nat.gcd n m = Nat.gcd a b) b ⟨a, rfl, rfl, a1, rfl⟩ ?_
  rintro m σ H' ⟨n, rfl, rfl, n1, hg⟩
  walk_at "go"
  refine i_dec (fun e => i_turn ?_) (fun e => ?_)
  · walk_at "go"
    refine ⟨n % m, Nat.mod_lt _ (by omega), m, ?_, rfl, by omega, ?_⟩
    · show [_, _, _, some (V.int ((n : Int) % (m : Int)))] = _
      rw [← Int.natCast_emod]
    · rw [← hg, Nat.gcd_comm m, ← Nat.gcd_rec, Nat.gcd_comm]
  · have e0 : m = 0 := by omega
    subst e0
    rw [Nat.gcd_zero_right] at hg
    subst hg
    have g1 : Nat.gcd a b ≤ a := Nat.gcd_le_left _ (by omega)
    have g2 : 1 ≤ Nat.gcd a b := Nat.gcd_pos_of_pos_left _ a1
    have g3 : Big (Nat.gcd a b) := a2.le g1
    walk_at "go"
    refine i_fdiv (g3.div (by omega)) ?_
    walk_at "go"
    rw [← Int.natCast_ediv]
    refine i_mul_int ((a2.le (Nat.div_le_self _ _)).mul b2) ?_
    have e : ((a / Nat.gcd a b : Nat) : Int) * (b : Int) = ((Nat.lcm a b : Nat) : Int) := by
      rw [← Int.natCast_mul]
      congr 1
      unfold Nat.lcm
      rw [Nat.mul_comm (a / _), ← Nat.mul_div_assoc _ (Nat.gcd_dvd_left a b), Nat.mul_comm]
    rw [e]
    exact q
def p_repeated : P2 := fun x y H Q _ => ∃ (a : Addr) (n : Nat) (r : List Nat) (t : Nat), x = .ref a ∧ y = .int (t : Int) ∧ H a = some (Sv n r) ∧ 1 ≤ n ∧ (n ≤ 24 → r.length = n) ∧ 1 ≤ t ∧ t ≤ 1000 ∧ ∀ p, H p = none → Q (.ref p) (upd H p (Sv (n * t) (rpt t r)))
theorem ok_repeated (T : Txt K mg C_GlimError C_BadRound C_BadText C_BadLine C_BadSignal C_BadMessage C_TooLong C_Lines C_Signals C_dt_Signals___init__) : OK P w K mg base CX0 1 "repeated" ["stretch", "times"] (sp2  p_repeated) := by
  refine OK.mk (k := 0) T.d_repeated sc_repeated len2 fun f cdv A outer s H vs Q E hr h => ?_
  obtain ⟨x, y, rfl, h⟩ := h
  refine ⟨_, (pss_cons (ps_set (i := 2) sc_repeated.nd rfl (Or.inl rfl) (pe_op op_mulP (pe_ix (ixK K) (pv 0) pe_int (fun _ _ => rfl)) (pv 1))) (pss_cons (ps_if (pt_cmpR op_gtP (pv 2) (pe_gI (24) T.g_MOST_ROUND) (nomark _)) (pss_one (ps_ret (pe_tup (pa_cons (pv 2) (pa_cons pe_non pa_nil))))) pss_nil) (pss_one (ps_ret (pe_tup (pa_cons (pv 2) (pa_cons (pe_op op_mulP (pe_ix (ixK K) (pv 0) pe_int (fun _ _ => rfl)) (pv 1)) pa_nil))))))), ?_⟩
  show (_ : TS) { nx := fun _ H' => Q .non H', rt := Q } [some x, some y, none] H
  obtain ⟨a, n, r, t, rfl, rfl, ha, n1, hr, t1, t2, q⟩ := h
  walk_at "go"
  have e : (n : Int) * (t : Int) = ((n * t : Nat) : Int) := (Int.natCast_mul _ _).symm
  rw [e]
  have nt : n ≤ n * t := Nat.le_mul_of_pos_right _ t1
  have tt : t ≤ n * t := Nat.le_mul_of_pos_left _ n1
  unfold Sv at q
  generalize hm : n * t = m at *
  walk_at "go"
  refine i_dec (fun e => ?_) (fun e => ?_)
  · walk_at "go"
    refine i_new (by show 2 ≤ 100000; omega) fun p np => ?_
    rw [if_neg (by omega)] at q
    exact q p np
  · walk_at "go"
    have hn : n ≤ 24 := by omega
    rw [if_pos hn]
    refine i_mul_str ⟨by rw [hr hn]; omega, by omega⟩ ?_
    walk_at "go"
    refine i_new (by show 2 ≤ 100000; omega) fun p np => ?_
    rw [if_pos (by omega)] at q
    exact q p np
def p_behind : P2 := fun x y H Q _ => ∃ (a b : Addr) (n m : Nat) (r s : List Nat), x = .ref a ∧ y = .ref b ∧ H a = some (Sv n r) ∧ H b = some (Sv m s) ∧ (n ≤ 24 → r.length = n) ∧ (m ≤ 24 → s.length = m) ∧ ∀ p, H p = none → Q (.ref p) (upd H p (Sv (n + m) (r ++ s)))
theorem ok_put_behind (T : Txt K mg C_GlimError C_BadRound C_BadText C_BadLine C_BadSignal C_BadMessage C_TooLong C_Lines C_Signals C_dt_Signals___init__) : OK P w K mg base CX0 1 "put_behind" ["stretch", "other"] (sp2  p_behind) := by
  refine OK.mk (k := 0) T.d_put_behind sc_put_behind len2 fun f cdv A outer s H vs Q E hr h => ?_
  obtain ⟨x, y, rfl, h⟩ := h
  refine ⟨_, (pss_cons (ps_set (i := 2) sc_put_behind.nd rfl (Or.inl rfl) (pe_op (opAdd K) (pe_ix (ixK K) (pv 0) pe_int (fun _ _ => rfl)) (pe_ix (ixK K) (pv 1) pe_int (fun _ _ => rfl)))) (pss_cons (ps_if (pt_cmpR op_gtP (pv 2) (pe_gI (24) T.g_MOST_ROUND) (nomark _)) (pss_one (ps_ret (pe_tup (pa_cons (pv 2) (pa_cons pe_non pa_nil))))) pss_nil) (pss_one (ps_ret (pe_tup (pa_cons (pv 2) (pa_cons (pe_op (opAdd K) (pe_ix (ixK K) (pv 0) pe_int (fun _ _ => rfl)) (pe_ix (ixK K) (pv 1) pe_int (fun _ _ => rfl))) pa_nil))))))), ?_⟩
  show (_ : TS) { nx := fun _ H' => Q .non H', rt := Q } [some x, some y, none] H
  obtain ⟨a, b, n, m, r, s', rfl, rfl, ha, hb, hr, hs, q⟩ := h
  walk_at "go"
  have e : (n : Int) + (m : Int) = ((n + m : Nat) : Int) := (Int.natCast_add _ _).symm
  rw [e]
  unfold Sv at q
  walk_at "go"
  refine i_dec (fun e => ?_) (fun e => ?_)
  · walk_at "go"
    refine i_new (by show 2 ≤ 100000; omega) fun p np => ?_
    rw [if_neg (by omega)] at q
    exact q p np
  · walk_at "go"
    have hn : n ≤ 24 := by omega
    have hm : m ≤ 24 := by omega
    rw [if_pos hn, if_pos hm]
    refine i_add_str (by rw [hr hn, hs hm]; omega) ?_
    walk_at "go"
    refine i_new (by show 2 ≤ 100000; omega) fun p np => ?_
    rw [if_pos (by omega)] at q
    exact q p np
def p_first_lit (K : PySem.W.Frag) : P1 := fun x H Q _ => ∃ (a : Addr) (cs : List Nat), x = .ref a ∧ SqL K H a (cs.map fun c => S [c]) ∧ Q (S [firstLit cs]) H
theorem ok_first_lit (T : Txt K mg C_GlimError C_BadRound C_BadText C_BadLine C_BadSignal C_BadMessage C_TooLong C_Lines C_Signals C_dt_Signals___init__) : OK P w K mg base CX0 1 "first_lit" ["signs"] (sp1  (p_first_lit K)) := by
  refine OK.mk (k := 0) T.d_first_lit sc_first_lit len1 fun f cdv A outer s H vs Q E hr h => ?_
  obtain ⟨x, rfl, h⟩ := h
  refine ⟨_, (pss_cons (ps_for PassesOwn.never rfl (piAny K (pv 0)) (pg_name (i := 1) sc_first_lit.nd rfl (Or.inl rfl)) (pss_one (ps_if (pt_cmpR (opNe K hr.units) (pv 1) (pe_S [46]) (nomark _)) (pss_one (ps_ret (pv 1))) pss_nil))) (pss_one (ps_ret (pe_S [46])))), ?_⟩
  show (_ : TS) { nx := fun _ H' => Q .non H', rt := Q } [some x, none] H
  obtain ⟨a, cs, rfl, ha, q⟩ := h
  walk_at "go"
  refine i_forL ha (fun i σ H' => ∃ v, σ = [some (.ref a), v] ∧ H' = H ∧ firstLit cs = firstLit (cs.drop i)) ⟨_, rfl, rfl, rfl⟩ ?_ ?_ ?_
  · rintro i σ H' _ ⟨v, rfl, rfl, _⟩
    exact ha
  · rintro i x σ H' hi ⟨v, rfl, rfl, hf⟩
    rw [List.getElem?_map] at hi
    obtain ⟨c, hc, rfl⟩ := Option.map_eq_some_iff.mp hi
    obtain ⟨hl, rfl⟩ := List.getElem?_eq_some_iff.mp hc
    rw [List.drop_eq_getElem_cons hl] at hf
    walk_at "go"
    refine i_decN (fun e => ?_) (fun e => ?_)
    · walk_at "go"
      have e' : cs[i] ≠ 46 := fun z => e (by rw [z])
      rw [show firstLit (cs[i] :: cs.drop (i + 1)) = cs[i] from if_neg e'] at hf
      rw [hf] at q
      exact q
    · walk_at "go"
      have e' : cs[i] = 46 := by simpa using e
      refine ⟨_, rfl, rfl, ?_⟩
      rw [hf]
      exact if_pos e'
  · rintro σ H' ⟨v, rfl, rfl, hf⟩
    walk_at "go"
    rw [List.length_map, List.drop_length] at hf
    rw [hf] at q
    exact q
def p_shown (K : PySem.W.Frag) : P1 := fun x H Q _ => ∃ (a : Addr) (qs : List Addr) (ps : List (Nat × List Nat)), x = .ref a ∧ SqL K H a (qs.map V.ref) ∧ PartsAt H qs ps ∧ ps.length ≤ 90000 ∧ (∀ p ∈ ps, 1 ≤ p.1 ∧ (p.1 ≤ 24 → p.2.length = p.1)) ∧
  Big (lcmL ps) ∧ ∀ p H', Same H H' → H' p = some (Sv (lcmL ps) (showN ps (lcmL ps))) → Q (.ref p) H'
theorem ok_shown_together (T : Txt K mg C_GlimError C_BadRound C_BadText C_BadLine C_BadSignal C_BadMessage C_TooLong C_Lines C_Signals C_dt_Signals___init__) : OK P w K mg base CX0 2 "shown_together" ["parts"] (sp1  (p_shown K)) := by
  refine OK.mk (k := 1) T.d_shown_together sc_shown_together len1 fun f cdv A outer s H vs Q E hr h => ?_
  obtain ⟨x, rfl, h⟩ := h
  refine ⟨_, (pss_cons (ps_set (i := 1) sc_shown_together.nd rfl (Or.inr rfl) pe_int) (pss_cons (ps_for PassesOwn.never rfl (piAny K (pv 0)) (pg_name (i := 2) sc_shown_together.nd rfl (Or.inl rfl)) (pss_one (ps_set (i := 1) sc_shown_together.nd rfl (Or.inr rfl) (pe_f (ok_common_beats (K := K) T) (hr.mono (by decide)) pass0 (pa_cons (pv 1) (pa_cons (pe_ix (ixK K) (pv 2) pe_int (fun _ _ => rfl)) pa_nil)))))) (pss_cons (ps_if (pt_cmpR op_gtP (pv 1) (pe_gI (24) T.g_MOST_ROUND) (nomark _)) (pss_one (ps_ret (pe_tup (pa_cons (pv 1) (pa_cons pe_non pa_nil))))) pss_nil) (pss_cons (ps_set (i := 3) sc_shown_together.nd rfl (Or.inr rfl) (pe_lc (own := [("part", 2)]) (g := gName 2) (tt := tYes) (by rfl) sc_shown_together.nd (piAny K (pv 0)) (blkOk_by (own := [("part", 2)]) (N := ["parts", "beats", "part", "rows", "beat", "row"]) (sc := (defScope s_shown_together)) (by decide +kernel)) (fun _ _ _ _ _ => (pg_name (i := 2) sc_shown_together.nd rfl (Or.inl rfl))) (fun _ _ _ _ _ => pts_nil) (fun _ _ _ _ _ => (pe_op op_mulP (pe_ix (ixK K) (pv 2) pe_int (fun _ _ => rfl)) (pe_op op_fdivP (pv 1) (pe_ix (ixK K) (pv 2) pe_int (fun _ _ => rfl))))))) (pss_one (ps_ret (pe_tup (pa_cons (pv 1) (pa_cons (peJoin K (pe_S []) (pe_lc (own := [("beat", 4)]) (g := gName 4) (tt := tYes) (by rfl) sc_shown_together.nd (pi_range1 rfl T.b_range (pa_cons (pv 1) pa_nil)) (blkOk_by (own := [("beat", 4)]) (N := ["parts", "beats", "part", "rows", "beat", "row"]) (sc := (defScope s_shown_together)) (by decide +kernel)) (fun _ _ _ _ _ => (pg_name (i := 4) sc_shown_together.nd rfl (Or.inr rfl))) (fun _ _ _ _ _ => pts_nil) (fun _ _ _ _ _ => (pe_f (ok_first_lit (K := K) T) (hr.mono (by decide)) pass0 (pa_cons (pe_lc (own := [("row", 5)]) (g := gName 5) (tt := tYes) (by rfl) sc_shown_together.nd (piAny K (pv 3)) (Fg.blkOk_in (own := [("row", 5)]) (N := ["parts", "beats", "part", "rows", "beat", "row"]) (sc := (defScope s_shown_together)) (by rfl) (by rfl) (by decide +kernel)) (fun _ _ _ _ _ => (pg_name (i := 5) sc_shown_together.nd rfl (Or.inl rfl))) (fun _ _ _ _ _ => pts_nil) (fun _ _ _ _ _ => (pe_ix (ixK K) (pv 5) (pv 4) (fun _ _ => rfl)))) pa_nil))))) pa_nil))))))))), ?_⟩
  show (_ : TS) { nx := fun _ H' => Q .non H', rt := Q } [some x, none, none, none, none, none] H
  obtain ⟨a, qs, ps, rfl, ha, ⟨hlen, hat⟩, h100, hok, hsm, q⟩ := h
  walk_at "go"
  refine i_forL ha (fun i σ H' => ∃ v, σ = [some (.ref a), some (.int ((lcmL (ps.take i) : Nat) : Int)), v, none, none, none] ∧ H' = H) ⟨_, rfl, rfl⟩ ?_ ?_ ?_
  · rintro i σ H' _ ⟨v, rfl, rfl⟩
    exact ha
  · rintro i x σ H' hi ⟨v, rfl, rfl⟩
    rw [List.getElem?_map] at hi
    obtain ⟨qa, hqa, rfl⟩ := Option.map_eq_some_iff.mp hi
    obtain ⟨hl, e⟩ := List.getElem?_eq_some_iff.mp hqa
    have hp : ps[i]? = some ps[i] := List.getElem?_eq_getElem (by omega)
    have hq := hat i qa _ hqa hp
    have ok := hok _ (List.mem_of_getElem? hp)
    have e2 : ps.take (i + 1) = ps.take i ++ [ps[i]] := by rw [List.take_succ, hp]; rfl
    walk_at "go"
    refine ⟨lcmL (ps.take i), ps[i].1, rfl, rfl, lcmL_pos fun p hp => (hok p (List.mem_of_mem_take hp)).1, ok.1, hsm.le (lcmL_take (fun p hp => (hok p hp).1) i), hsm.le (Nat.le_of_dvd (lcmL_pos fun p hp => (hok p hp).1) (dvd_lcmL (List.mem_of_getElem? hp))), ?_⟩
    rw [← lcmL_snoc, ← e2]
    walk_at "go"
    exact ⟨_, rfl, rfl⟩
  · rintro σ H' ⟨v, rfl, rfl⟩
    rw [List.length_map, hlen, List.take_length]
    clear hsm
    have hL1 : 1 ≤ lcmL ps := lcmL_pos fun p hp => (hok p hp).1
    have hdv : ∀ p ∈ ps, p.1 ∣ lcmL ps := fun p hp => dvd_lcmL hp
    unfold Sv at q
    generalize lcmL ps = L at *
    walk_at "go"
    refine i_dec (fun e => ?_) (fun e => ?_)
    · walk_at "go"
      refine i_new (by show 2 ≤ 100000; omega) fun p np => ?_
      rw [if_neg (by omega)] at q
      exact q p _ (same_upd np) upd_same
    have hL : L ≤ 24 := by omega
    rw [if_pos hL] at q
    walk_at "go"
    refine c_lst (K := K) (a := a) (xs := qs.map V.ref) (fun R k => by walk_at "go"; exact k) ha (by rw [List.length_map]; omega) (fun _ => true) (fun i => S (rpt (L / (ps.getD i (1, [])).1) (ps.getD i (1, [])).2)) (fun _ => rfl) (fun i x H2 hi s2 QB k => k H2 (Same.refl H2)) (fun i x H2 hi s2 _ QV k => ?_) (fun Dr H2 n2 s2 d2 => ?_)
    · rw [List.getElem?_map] at hi
      obtain ⟨qa, hqa, rfl⟩ := Option.map_eq_some_iff.mp hi
      obtain ⟨hl, e'⟩ := List.getElem?_eq_some_iff.mp hqa
      have hp : ps[i]? = some ps[i] := List.getElem?_eq_getElem (by omega)
      have hq := s2 _ _ (hat i qa _ hqa hp)
      have hm := List.mem_of_getElem? hp
      have ok := hok _ hm
      have hn : ps[i].1 ≤ L := Nat.le_of_dvd hL1 (hdv _ hm)
      have hr := ok.2 (by omega)
      have ok1 := ok.1
      have e3 : ps.getD i (1, []) = ps[i] := by rw [List.getD_eq_getElem?_getD, hp]; rfl
      rw [e3] at k
      have hdd : L / ps[i].1 * ps[i].1 = L := Nat.div_mul_cancel (hdv _ hm)
      have hdl : L / ps[i].1 ≤ L := Nat.div_le_self _ _
      generalize ps[i] = pp at *
      obtain ⟨n, r⟩ := pp
      dsimp only at *
      show (_ : TE) [some (.ref a), some (.int (L : Int)), some (.ref qa), none, none, none] H2 QV
      walk_at "go"
      rw [if_pos (by omega), ← Int.natCast_ediv]
      refine i_mul_str ⟨by rw [hr, Nat.mul_comm]; omega, by omega⟩ ?_
      exact k H2 (Same.refl H2)
    rw [kept_all, List.length_map, hlen, range_getD_map ps (1, []) (fun (p : Nat × List Nat) => S (rpt (L / p.1) p.2))] at d2
    have e4 : ps.map (fun (p : Nat × List Nat) => S (rpt (L / p.1) p.2)) = (ps.map fun p => rpt (L / p.1) p.2).map S := by rw [List.map_map]; rfl
    rw [e4] at d2
    have hrl : ∀ r ∈ ps.map (fun p => rpt (L / p.1) p.2), r.length = L := fun r hr => by
      obtain ⟨p, hp, rfl⟩ := List.mem_map.mp hr
      have hn : p.1 ≤ L := Nat.le_of_dvd hL1 (hdv _ hp)
      rw [rpt_len, (hok p hp).2 (by omega), Nat.div_mul_cancel (hdv p hp)]
    have e5 : showN ps L = (List.range L).map fun b => firstLit ((ps.map fun p => rpt (L / p.1) p.2).map fun r => r.getD b 0) := by
      unfold showN
      refine List.map_congr_left fun b _ => ?_
      rw [List.map_map]
      rfl
    rw [e5] at q
    have hrs : (ps.map fun p => rpt (L / p.1) p.2).length = ps.length := by rw [List.length_map]
    generalize ps.map (fun (p : Nat × List Nat) => rpt (L / p.1) p.2) = rs at *
    walk_at "go"
    refine c_rng1A L (fun R k => by walk_at "go"; exact k) (by omega) (fun b => S [firstLit (rs.map fun r => r.getD b 0)]) (fun _ => rfl) (fun b H3 hb s3 QV k => ?_) (fun Dj H3 n3 s3 d3 => ?_)
    · show (_ : TE) [some (.ref a), some (.int (L : Int)), v, some (.ref Dr), some (.int (b : Int)), none] H3 QV
      walk_at "go"
      refine c_lst (K := K) (a := Dr) (xs := rs.map S) (fun R k => by walk_at "go"; exact k) (.inl (.inl (s3 _ _ d2))) (by rw [List.length_map]; omega) (fun _ => true) (fun i => S [(rs.getD i []).getD b 0]) (fun _ => rfl) (fun i x H4 hi s4 QB k => k H4 (Same.refl H4)) (fun i x H4 hi s4 _ QV k => ?_) (fun Di H4 n4 s4 d4 => ?_)
      · rw [List.getElem?_map] at hi
        obtain ⟨r, hr, rfl⟩ := Option.map_eq_some_iff.mp hi
        have hl := hrl r (List.mem_of_getElem? hr)
        have e6 : rs.getD i [] = r := by rw [List.getD_eq_getElem?_getD, hr]; rfl
        rw [e6] at k
        show (_ : TE) [some (.ref a), some (.int (L : Int)), v, some (.ref Dr), some (.int (b : Int)), some (S r)] H4 QV
        walk_at "go"
        refine i_ix_str (c := r.getD b 0) (by omega) (by omega) ?_ (k H4 (Same.refl H4))
        rw [Int.toNat_natCast, List.getD_eq_getElem?_getD, List.getElem?_eq_getElem (by omega)]
        rfl
      · rw [kept_all, List.length_map, range_getD_map rs [] (fun r => S [r.getD b 0])] at d4
        walk_at "go"
        refine ⟨Di, rs.map fun r => r.getD b 0, rfl, .inl (.inl (by rw [d4, List.map_map]; rfl)), ?_⟩
        exact k H4 s4
    · have e7 : (List.range L).map (fun b => S [firstLit (rs.map fun r => r.getD b 0)]) = ((List.range L).map fun b => firstLit (rs.map fun r => r.getD b 0)).map fun c => S [c] := by rw [List.map_map]; rfl
      rw [e7] at d3
      walk_at "go"
      refine i_join1 (.inl (.inl d3)) (by rw [List.length_map, List.length_range]; omega) ?_
      walk_at "go"
      refine i_new (by show 2 ≤ 100000; omega) fun p np => ?_
      exact q p _ (s2.trans (s3.trans (same_upd np))) upd_same
def p_behind_digits : P2 := fun x y H Q _ => ∃ (z : List Nat) (a : Nat), x = S z ∧ y = .int (a : Int) ∧ z.length ≤ 100000 ∧ a ≤ z.length ∧ Q (.int ((bd z a : Nat) : Int)) H
theorem ok_behind_digits (T : Txt K mg C_GlimError C_BadRound C_BadText C_BadLine C_BadSignal C_BadMessage C_TooLong C_Lines C_Signals C_dt_Signals___init__) : OK P w K mg base CX0 1 "behind_digits" ["text", "at"] (sp2  p_behind_digits) := by
  refine OK.mk (k := 0) T.d_behind_digits sc_behind_digits len2 fun f cdv A outer s H vs Q E hr h => ?_
  obtain ⟨x, y, rfl, h⟩ := h
  refine ⟨_, (pss_cons (ps_while PassesOwn.never (pw_and (pt_cmpR op_ltP (pv 1) (pe_callB (cLen K) (by rfl) T.b_len (by decide +kernel) (pa_cons (pv 0) pa_nil)) (nomark _)) (pw_and1 (pt_cmpR (opIn K) (pe_ix (ixK K) (pv 0) (pv 1) (fun _ _ => rfl)) (pe_gS [48, 49, 50, 51, 52, 53, 54, 55, 56, 57] T.g_DIGITS) (by with_unfolding_all rfl)))).pt (pss_one (ps_aug (i := 1) sc_behind_digits.nd rfl (Or.inl rfl) pe_int ip_add))) (pss_one (ps_ret (pv 1)))), ?_⟩
  show (_ : TS) { nx := fun _ H' => Q .non H', rt := Q } [some x, some y] H
  obtain ⟨z, a, rfl, rfl, hz, ha, q⟩ := h
  walk_at "go"
  refine i_while (fun m σ H' => ∃ n : Nat, σ = [some (S z), some (.int (n : Int))] ∧ H' = H ∧ n + m = z.length ∧ bd z n = bd z a) (z.length - a) ⟨a, rfl, rfl, by omega, rfl⟩ ?_
  rintro m σ H' ⟨n, rfl, rfl, hn, hb⟩
  walk_at "go"
  refine i_dec (fun e => ?_) (fun e => ?_)
  · walk_at "go"
    have hl : n < z.length := by omega
    refine i_ix_str (c := z[n]) hz (by omega) (by rw [Int.toNat_natCast]; exact List.getElem?_eq_getElem hl) ?_
    walk_at "go"
    refine i_dec (fun e => i_turn ?_) (fun e => ?_)
    · walk_at "go"
      exact ⟨m - 1, by omega, n + 1, rfl, rfl, by omega, by rw [bd_step (List.getElem?_eq_getElem hl) e, hb]⟩
    · walk_at "go"
      rw [← hb, bd_stop (fun c hc => by rw [List.getElem?_eq_getElem hl] at hc; cases hc; exact e)] at q
      exact q
  · walk_at "go"
    rw [← hb, bd_stop (fun c hc => by rw [List.getElem?_eq_none (by omega)] at hc; cases hc)] at q
    exact q
def p_within : P3 := fun x y u H Q _ => ∃ (r : List Nat) (lo hi : Nat), x = S r ∧ y = .int (lo : Int) ∧ u = .int (hi : Int) ∧ r.length ≤ 100000 ∧ (∀ c ∈ r, c ∈ DG) ∧ Q (.bl (within r lo hi)) H
theorem ok_is_within (T : Txt K mg C_GlimError C_BadRound C_BadText C_BadLine C_BadSignal C_BadMessage C_TooLong C_Lines C_Signals C_dt_Signals___init__) : OK P w K mg base CX0 1 "is_within" ["run", "low", "high"] (sp3  p_within) := by
  refine OK.mk (k := 0) T.d_is_within sc_is_within len3 fun f cdv A outer s H vs Q E hr h => ?_
  obtain ⟨x, y, z, rfl, h⟩ := h
  refine ⟨_, (pss_one (ps_ret (pe_and (pe_chain op_leP op_leP pe_int (pe_callB (cLen K) (by rfl) T.b_len (by decide +kernel) (pa_cons (pv 0) pa_nil)) pe_int) (pe_one (pe_chain op_leP op_leP (pv 1) (pe_callTy call_intTx (by rfl) T.b_int (by decide +kernel) (pa_cons (pv 0) pa_nil)) (pv 2)))))), ?_⟩
  show (_ : TS) { nx := fun _ H' => Q .non H', rt := Q } [some x, some y, some z] H
  obtain ⟨r, lo, hi, rfl, rfl, rfl, hz, hd, q⟩ := h
  walk_at "go"
  unfold within at q
  have nn : ∀ a b : Nat, decide ((a : Int) ≤ (b : Int)) = decide (a ≤ b) := fun a b => by rw [decide_eq_decide]; omega
  refine i_dec (fun e1 => ?_) (fun e1 => ?_)
  · walk_at "go"
    refine i_dec (fun e2 => ?_) (fun e2 => ?_)
    · walk_at "go"
      refine i_intTx (by omega) (by omega) hd ?_
      walk_at "go"
      rw [decide_eq_true (show 1 ≤ r.length by omega), decide_eq_true (show r.length ≤ 2 by omega), Bool.true_and, Bool.true_and] at q
      rw [nn]
      refine i_bool (fun e => ?_) (fun e => ?_)
      · rw [e, Bool.true_and] at q
        walk_at "go"
        rw [nn]
        exact q
      · rw [e, Bool.false_and] at q
        exact q
    · rw [decide_eq_false (show ¬ r.length ≤ 2 by omega), Bool.and_false, Bool.false_and, Bool.false_and] at q
      walk_at "go"
      exact q
  · rw [decide_eq_false (show ¬ 1 ≤ r.length by omega), Bool.false_and, Bool.false_and, Bool.false_and] at q
    walk_at "go"
    exact q
end
/-- how a reading ends -/
def Out (C : Addr) (H : Hp) (Q : VK) (E : XK) : Res → Prop
  | .error k => Rz E H C "at" (.int (k : Int))
  | .ok (s, e) => ∀ p q H', Same H H' → H' q = some (Sv s.1 s.2) → H' p = some (.tup [.ref q, .int (e : Int)]) → Q (.ref p) H'
def p_rdp (C : Addr) (f : List Nat → Nat → Res) (d : Nat) : P3 := fun x y u H Q E => ∃ (z : List Nat) (a : Nat) (o : Int), x = S z ∧ y = .int (a : Int) ∧ u = .int o ∧ o + (d : Int) = 6 ∧ z.length ≤ 1700 ∧ a ≤ z.length ∧ Out C H Q E (f z a)
/-- the parts behind an opening: never, where no more may be opened -/
def PD (C : Addr) : Nat → P3
  | 0 => fun _ _ _ _ _ _ => False
  | d + 1 => p_rdp C (fun z => rd z d) d
section
variable {P : Program} {w : World} {K : PySem.W.Frag} {mg : Str → Option Value} {base : Heap} {C_GlimError C_BadRound C_BadText C_BadLine C_BadSignal C_BadMessage C_TooLong C_Lines C_Signals C_dt_Signals___init__ : Addr}
theorem ok_read_item (T : Txt K mg C_GlimError C_BadRound C_BadText C_BadLine C_BadSignal C_BadMessage C_TooLong C_Lines C_Signals C_dt_Signals___init__) (d : Nat) (R : OK P w K mg base (L2N.CX P w) (3 * d + 3) "read_parts" ["text", "at", "opened"] (sp3 (PD C_BadText d))) :
    OK P w K mg base (L2N.CX P w) (3 * d + 4) "read_item" ["text", "at", "opened"] (sp3 (p_rdp C_BadText (fun z => rdItem z d) d)) := by
  refine Fg.OK.mkXN (k := 3 * d + 3) T.d_read_item sc_read_item len3 fun f cdv A outer s H vs Q E hr h => ?_
  obtain ⟨x, y, z, rfl, h⟩ := h
  refine ⟨_, (pss_cons (ps_set (i := 3) sc_read_item.nd rfl (Or.inl rfl) (pv 1)) (pss_cons (ps_set (i := 1) sc_read_item.nd rfl (Or.inl rfl) (pe_f (ok_behind_digits (K := K) T) (hr.mono (by omega)) pass0 (pa_cons (pv 0) (pa_cons (pv 3) pa_nil)))) (pss_cons (ps_set (i := 4) sc_read_item.nd rfl (Or.inl rfl) (pe_slice (slK K) (pv 0) (po_some (pv 3)) (po_some (pv 1)))) (pss_cons (ps_if (pt_cmpR (opEq K hr.units) (pe_slice (slK K) (pv 4) po_none (po_some pe_int)) (pe_S [48]) (nomark _)) (pss_one (Fg.ps_raisePN rfl (L2N.takes_of rfl rfl rfl rfl) (Fg.pmk_EN (k := 0) (okx_BadText T) (hr.mono (by omega)) (pa_cons (pv 3) pa_nil)))) pss_nil) (Evl.pss_cut (ps_if (pw_or (pt_cmpR (opEq K hr.units) (pv 1) (pe_callB (cLen K) (by rfl) T.b_len (by decide +kernel) (pa_cons (pv 0) pa_nil)) (nomark _)) (pw_or1 (pw_and (pt_cmpR (opNotIn K) (pe_ix (ixK K) (pv 0) (pv 1) (fun _ _ => rfl)) (pe_gS [46, 103, 114, 119] T.g_SIGNS) (by with_unfolding_all rfl)) (pw_and1 (pt_cmpR (opNe K hr.units) (pe_ix (ixK K) (pv 0) (pv 1) (fun _ _ => rfl)) (pe_S [40]) (nomark _)))).pt)).pt (pss_one (Fg.ps_raisePN rfl (L2N.takes_of rfl rfl rfl rfl) (Fg.pmk_EN (k := 0) (okx_BadText T) (hr.mono (by omega)) (pa_cons (pv 1) pa_nil)))) pss_nil) (Evl.pss_cut (ps_if (pw_and (pt_cmpR (opNe K hr.units) (pv 4) (pe_S []) (nomark _)) (pw_and1 (pt_not (pt_val (pe_f (ok_is_within (K := K) T) (hr.mono (by omega)) pass0 (pa_cons (pv 4) (pa_cons pe_int (pa_cons (pe_gI (24) T.g_MOST_ROUND) pa_nil)))))))).pt (pss_one (Fg.ps_raisePN rfl (L2N.takes_of rfl rfl rfl rfl) (Fg.pmk_EN (k := 0) (okx_BadText T) (hr.mono (by omega)) (pa_cons (pv 3) pa_nil)))) pss_nil) (Evl.pss_cut (ps_set (i := 5) sc_read_item.nd rfl (Or.inl rfl) (pe_ifExp (pt_cmpR (opEq K hr.units) (pv 4) (pe_S []) (nomark _)) pe_int (pe_callTy call_intTx (by rfl) T.b_int (by decide +kernel) (pa_cons (pv 4) pa_nil)))) (pss_cons (ps_if (pt_cmpR (opNe K hr.units) (pe_ix (ixK K) (pv 0) (pv 1) (fun _ _ => rfl)) (pe_S [40]) (nomark _)) (pss_one (ps_ret (pe_tup (pa_cons (pe_f (ok_repeated (K := K) T) (hr.mono (by omega)) pass0 (pa_cons (pe_tup (pa_cons pe_int (pa_cons (pe_ix (ixK K) (pv 0) (pv 1) (fun _ _ => rfl)) pa_nil))) (pa_cons (pv 5) pa_nil))) (pa_cons (pe_op (opAdd K) (pv 1) pe_int) pa_nil))))) pss_nil) (pss_cons (ps_if (pt_cmpR (opEq K hr.units) (pv 2) (pe_gI (6) T.g_MOST_OPEN) (nomark _)) (pss_one (Fg.ps_raisePN rfl (L2N.takes_of rfl rfl rfl rfl) (Fg.pmk_EN (k := 0) (okx_BadText T) (hr.mono (by omega)) (pa_cons (pv 1) pa_nil)))) pss_nil) (pss_cons (ps_asg (pe_f R (hr.mono (by omega)) (L2N.passes_call (L2N.takes_of rfl rfl rfl rfl) (fun _ _ _ _ h => h)) (pa_cons (pv 0) (pa_cons (pe_op (opAdd K) (pv 1) pe_int) (pa_cons (pe_op (opAdd K) (pv 2) pe_int) pa_nil)))) (pgTup (n := 2) K rfl (pgs_cons (pg_name (i := 6) sc_read_item.nd rfl (Or.inl rfl)) (pgs_cons (pg_name (i := 1) sc_read_item.nd rfl (Or.inl rfl)) pgs_nil)))) (pss_cons (ps_if (pw_or (pt_cmpR (opEq K hr.units) (pv 1) (pe_callB (cLen K) (by rfl) T.b_len (by decide +kernel) (pa_cons (pv 0) pa_nil)) (nomark _)) (pw_or1 (pt_cmpR (opNe K hr.units) (pe_ix (ixK K) (pv 0) (pv 1) (fun _ _ => rfl)) (pe_S [41]) (nomark _)))).pt (pss_one (Fg.ps_raisePN rfl (L2N.takes_of rfl rfl rfl rfl) (Fg.pmk_EN (k := 0) (okx_BadText T) (hr.mono (by omega)) (pa_cons (pv 1) pa_nil)))) pss_nil) (pss_one (ps_ret (pe_tup (pa_cons (pe_f (ok_repeated (K := K) T) (hr.mono (by omega)) pass0 (pa_cons (pv 6) (pa_cons (pv 5) pa_nil))) (pa_cons (pe_op (opAdd K) (pv 1) pe_int) pa_nil)))))))))))))))), ?_⟩
  show (_ : TS) { nx := fun _ H' => Q .non H', rt := Q } [some x, some y, some z, none, none, none, none] H
  obtain ⟨z, a, o, rfl, rfl, rfl, ho, hz, ha, h⟩ := h
  replace h : Out C_BadText H Q E (item (rpOf z d) z a) := rdItem_item z d ▸ h
  have ba := bd_le ha
  have ga := bd_ge z a
  have dg := run_digits z a
  have rl : (run z a).length ≤ z.length := by unfold bd at ba; omega
  unfold item at h
  walk_at "go"
  refine ⟨z, a, rfl, rfl, by omega, ha, ?_⟩
  walk_at "go"
  refine i_sl_str (by omega) ?_
  rw [cutN_run ha]
  generalize hrun : run z a = r at *
  generalize hb : bd z a = b at *
  walk_at "go"
  rw [show Int.toNat 1 = 1 from rfl]
  refine i_dec (fun e => ?_) (fun e => ?_)
  · rw [if_pos e] at h
    walk_at "go"
    intro dd nd
    exact Rz.at h nd
  rw [if_neg e] at h
  walk_at "go"
  refine i_cut (fun σ H' => ∃ c, σ = [some (S z), some (.int (b : Int)), some (.int o), some (.int (a : Int)), some (S r), none, none] ∧ H' = H ∧ z[b]? = some c ∧ ¬ (c ∉ SG ∧ c ≠ 40)) ?_ ?_
  · walk_at "go"
    by_cases hl : b < z.length
    case neg =>
      rw [List.getElem?_eq_none (by omega)] at h
      refine i_dec (fun _ => ?_) (fun e' => absurd (by omega) e')
      walk_at "go"
      intro dd nd
      exact Rz.at h nd
    have hc : z[b]? = some z[b] := List.getElem?_eq_getElem hl
    rw [hc] at h
    generalize z[b] = c at *
    dsimp only at h
    have ixc : ∀ {H : Hp} {Q : VK}, Q (S [c]) H → ixP K (S z) (.int (b : Int)) H Q := fun k => i_ix_str (by omega) (by omega) (by rw [Int.toNat_natCast]; exact hc) k
    refine i_dec (fun e' => absurd e' (by omega)) (fun _ => ?_)
    walk_at "go"
    refine ixc ?_
    walk_at "go"
    refine i_decN (fun e1 => ?_) (fun e1 => ?_)
    · walk_at "go"
      refine ixc ?_
      walk_at "go"
      refine i_decN (fun e2 => ?_) (fun e2 => ?_)
      · walk_at "go"
        intro dd nd
        have h : Rz E H C_BadText "at" (.int (b : Int)) := by
          rw [show (if c ∉ SG ∧ c ≠ 40 then Except.error b else _ : Res) = .error b from if_pos ⟨e1, fun z => e2 (by rw [z])⟩] at h
          exact h
        exact Rz.at h nd
      · exact ⟨c, rfl, rfl, hc, fun z => z.2 (List.cons.inj e2).1⟩
    · walk_at "go"
      exact ⟨c, rfl, rfl, hc, fun z => z.1 e1⟩
  rintro σ H' ⟨c, rfl, rfl, hc, hg⟩
  have hl := (List.getElem?_eq_some_iff.mp hc).1
  have ixc : ∀ {H : Hp} {Q : VK}, Q (S [c]) H → ixP K (S z) (.int (b : Int)) H Q := fun k => i_ix_str (by omega) (by omega) (by rw [Int.toNat_natCast]; exact hc) k
  rw [hc] at h
  dsimp only at h
  replace h : Out C_BadText H' Q E (if r ≠ [] ∧ within r 2 24 = false then .error a else if c ≠ 40 then .ok (rep (1, [c]) (timesOf r), b + 1) else match rpOf z d with | none => .error b | some f => close z (timesOf r) (f (b + 1))) := by
    rw [show (if c ∉ SG ∧ c ≠ 40 then Except.error b else _ : Res) = _ from if_neg hg] at h
    exact h
  refine i_cut (fun σ H2 => σ = [some (S z), some (.int (b : Int)), some (.int o), some (.int (a : Int)), some (S r), none, none] ∧ H2 = H' ∧ ¬ (r ≠ [] ∧ within r 2 24 = false)) ?_ ?_
  · walk_at "go"
    refine i_decN (fun e1 => ?_) (fun e1 => ?_)
    · walk_at "go"
      refine ⟨r, 2, 24, rfl, rfl, rfl, by omega, dg, ?_⟩
      walk_at "go"
      cases hw : within r 2 24 with
      | true =>
        walk_at "go"
        exact ⟨rfl, rfl, fun z => by cases z.2⟩
      | false =>
        rw [if_pos ⟨e1, hw⟩] at h
        walk_at "go"
        intro dd nd
        exact Rz.at h nd
    · walk_at "go"
      exact ⟨rfl, rfl, fun z => z.1 e1⟩
  rintro σ H2 ⟨rfl, rfl, ht⟩
  rw [if_neg ht] at h
  obtain ⟨t1, t2, t3⟩ := times_ok ht
  refine i_cut (fun σ H3 => σ = [some (S z), some (.int (b : Int)), some (.int o), some (.int (a : Int)), some (S r), some (.int (timesOf r : Nat)), none] ∧ H3 = H2) ?_ ?_
  · walk_at "go"
    refine i_dec (fun e1 => ?_) (fun e1 => ?_)
    · walk_at "go"
      unfold timesOf
      rw [if_pos e1]
      exact ⟨rfl, rfl⟩
    · walk_at "go"
      have hw : within r 2 24 = true := by
        cases hw : within r 2 24 with
        | true => rfl
        | false => exact absurd ⟨e1, hw⟩ ht
      obtain ⟨w1, w2, _, _⟩ := within_iff.mp hw
      refine i_intTx w1 w2 dg ?_
      unfold timesOf
      rw [if_neg e1]
      exact ⟨rfl, rfl⟩
  rintro σ H3 ⟨rfl, rfl⟩
  generalize timesOf r = t at *
  walk_at "go"
  refine ixc ?_
  walk_at "go"
  refine i_decN (fun e1 => ?_) (fun e1 => ?_)
  · have ne : c ≠ 40 := fun z => e1 (by rw [z])
    rw [if_pos ne] at h
    walk_at "go"
    refine ixc ?_
    walk_at "go"
    refine i_new (by show 2 ≤ 100000; omega) fun p1 n1 => ?_
    walk_at "go"
    refine ⟨p1, 1, [c], t, rfl, rfl, upd_same, by omega, fun _ => rfl, t1, by omega, fun p2 n2 => ?_⟩
    walk_at "go"
    refine i_new (by show 2 ≤ 100000; omega) fun p3 n3 => ?_
    have s2 := (same_upd (o := .tup [.int 1, S [c]]) n1).trans (same_upd (o := Sv (1 * t) (rpt t [c])) n2)
    refine h p3 p2 _ (s2.trans (same_upd n3)) ?_ upd_same
    rw [upd_ne (fun e => by rw [← e, upd_same] at n3; cases n3), upd_same]
    rfl
  have e40 : c = 40 := (List.cons.inj e1).1
  rw [if_neg (fun z => z e40)] at h
  walk_at "go"
  cases d with
  | zero =>
    refine i_dec (fun _ => ?_) (fun e2 => absurd (by omega) e2)
    walk_at "go"
    intro dd nd
    exact Rz.at h nd
  | succ d =>
    refine i_dec (fun e2 => absurd e2 (by omega)) (fun _ => ?_)
    walk_at "go"
    replace h : Out C_BadText H3 Q E (close z t (rd z d (b + 1))) := h
    refine ⟨z, b + 1, o + 1, rfl, by rw [Int.natCast_add]; rfl, rfl, by omega, hz, by omega, ?_⟩
    show Out _ _ _ _ (rd z d (b + 1))
    cases hr2 : rd z d (b + 1) with
    | error k =>
      rw [hr2] at h
      exact h
    | ok se =>
      obtain ⟨s2, e2⟩ := se
      obtain ⟨g1, g2, g3, g4⟩ := rd_gd z d (b + 1) s2 e2 (by omega) hr2
      rw [hr2] at h
      intro p q H4 sm hq hp
      walk_at "go"
      unfold close at h
      dsimp only at h
      by_cases hl2 : e2 < z.length
      case neg =>
        rw [List.getElem?_eq_none (by omega), if_neg (by simp)] at h
        refine i_dec (fun _ => ?_) (fun e' => absurd (by omega) e')
        walk_at "go"
        intro dd nd
        exact Rz.at (Rz.mono h sm) nd
      have hc2 : z[e2]? = some z[e2] := List.getElem?_eq_getElem hl2
      rw [hc2] at h
      generalize z[e2] = c2 at *
      refine i_dec (fun e' => absurd e' (by omega)) (fun _ => ?_)
      walk_at "go"
      refine i_ix_str (c := c2) (by omega) (by omega) (by rw [Int.toNat_natCast]; exact hc2) ?_
      walk_at "go"
      refine i_decN (fun e' => ?_) (fun e' => ?_)
      · rw [if_neg (fun z => e' (by rw [Option.some.inj z]))] at h
        walk_at "go"
        intro dd nd
        exact Rz.at (Rz.mono h sm) nd
      · rw [if_pos (by rw [(List.cons.inj e').1])] at h
        walk_at "go"
        refine ⟨q, s2.1, s2.2, t, rfl, rfl, hq, g3, g4.2, t1, by omega, fun p2 n2 => ?_⟩
        walk_at "go"
        refine i_new (by show 2 ≤ 100000; omega) fun p3 n3 => ?_
        refine h p3 p2 _ ((sm.trans (same_upd n2)).trans (same_upd n3)) ?_ upd_same
        rw [upd_ne (fun e => by rw [← e, upd_same] at n3; cases n3), upd_same]
        rfl
end
theorem flat_one' (k : Nat) : (List.replicate k [46]).flatten = List.replicate k 46 := by
  induction k with
  | zero => rfl
  | succ k ih => rw [List.replicate_succ, List.flatten_cons, ih, List.replicate_succ]; rfl
section
variable {P : Program} {w : World} {K : PySem.W.Frag} {mg : Str → Option Value} {base : Heap} {C_GlimError C_BadRound C_BadText C_BadLine C_BadSignal C_BadMessage C_TooLong C_Lines C_Signals C_dt_Signals___init__ : Addr}
def p_filled (C : Addr) : P3 := fun x y u H Q E => ∃ (z : List Nat) (a : Nat) (q : Addr) (p : Stv), x = S z ∧ y = .int (a : Int) ∧ u = .ref q ∧ H q = some (Sv p.1 p.2) ∧ (p.1 ≤ 24 → p.2.length = p.1) ∧ z.length ≤ 1700 ∧ a ≤ z.length ∧ Out C H Q E (filled z a p)
theorem ok_read_filled (T : Txt K mg C_GlimError C_BadRound C_BadText C_BadLine C_BadSignal C_BadMessage C_TooLong C_Lines C_Signals C_dt_Signals___init__) : OK P w K mg base (L2N.CX P w) 4 "read_filled" ["text", "at", "part"] (sp3  (p_filled C_BadText)) := by
  refine Fg.OK.mkXN (k := 3) T.d_read_filled sc_read_filled len3 fun f cdv A outer s H vs Q E hr h => ?_
  obtain ⟨x, y, z, rfl, h⟩ := h
  refine ⟨_, (pss_cons (ps_set (i := 3) sc_read_filled.nd rfl (Or.inl rfl) (pe_f (ok_behind_digits (K := K) T) (hr.mono (by decide)) pass0 (pa_cons (pv 0) (pa_cons (pv 1) pa_nil)))) (pss_cons (ps_if (pt_cmpR (opEq K hr.units) (pv 3) (pv 1) (nomark _)) (pss_one (Fg.ps_raisePN rfl (L2N.takes_of rfl rfl rfl rfl) (Fg.pmk_EN (k := 0) (okx_BadText T) (hr.mono (by decide)) (pa_cons (pv 1) pa_nil)))) pss_nil) (pss_cons (ps_set (i := 4) sc_read_filled.nd rfl (Or.inl rfl) (pe_slice (slK K) (pv 0) (po_some (pv 1)) (po_some (pv 3)))) (Evl.pss_cut (ps_if (pw_or (pt_cmpR (opEq K hr.units) (pe_ix (ixK K) (pv 4) pe_int (fun _ _ => rfl)) (pe_S [48]) (nomark _)) (pw_or1 (pt_not (pt_val (pe_f (ok_is_within (K := K) T) (hr.mono (by decide)) pass0 (pa_cons (pv 4) (pa_cons (pe_callB (call_max2 rfl) (by rfl) T.b_max (by decide +kernel) (pa_cons pe_int (pa_cons (pe_ix (ixK K) (pv 2) pe_int (fun _ _ => rfl)) pa_nil))) (pa_cons (pe_gI (24) T.g_MOST_ROUND) pa_nil)))))))).pt (pss_one (Fg.ps_raisePN rfl (L2N.takes_of rfl rfl rfl rfl) (Fg.pmk_EN (k := 0) (okx_BadText T) (hr.mono (by decide)) (pa_cons (pv 1) pa_nil)))) pss_nil) (pss_cons (ps_set (i := 5) sc_read_filled.nd rfl (Or.inl rfl) (pe_callTy call_intTx (by rfl) T.b_int (by decide +kernel) (pa_cons (pv 4) pa_nil))) (pss_one (ps_ret (pe_tup (pa_cons (pe_tup (pa_cons (pv 5) (pa_cons (pe_op (opAdd K) (pe_ix (ixK K) (pv 2) pe_int (fun _ _ => rfl)) (pe_op op_mulP (pe_S [46]) (pe_op op_subP (pv 5) (pe_ix (ixK K) (pv 2) pe_int (fun _ _ => rfl))))) pa_nil))) (pa_cons (pv 3) pa_nil)))))))))), ?_⟩
  show (_ : TS) { nx := fun _ H' => Q .non H', rt := Q } [some x, some y, some z, none, none, none] H
  obtain ⟨z, a, q, ⟨n, l⟩, rfl, rfl, rfl, hq, hl, hz, ha, h⟩ := h
  dsimp only at hq hl
  have ba := bd_le ha
  have ga := bd_ge z a
  have dg := run_digits z a
  have rl : (run z a).length ≤ z.length := by unfold bd at ba; omega
  have rb := bd_eq (z := z) (a := a)
  unfold filled at h
  walk_at "go"
  refine ⟨z, a, rfl, rfl, by omega, ha, ?_⟩
  walk_at "go"
  refine i_dec (fun e => ?_) (fun e => ?_)
  · rw [if_pos (rb.mp (by omega))] at h
    walk_at "go"
    intro dd nd
    exact Rz.at h nd
  have rne : run z a ≠ [] := fun e' => e (by rw [rb.mpr e'])
  rw [if_neg rne] at h
  walk_at "go"
  refine i_sl_str (by omega) ?_
  rw [cutN_run ha]
  clear rb
  generalize run z a = r at *
  generalize bd z a = b at *
  walk_at "go"
  obtain ⟨c, r', rfl⟩ : ∃ c r', r = c :: r' := by
    cases r with
    | nil => exact absurd rfl rne
    | cons c r' => exact ⟨c, r', rfl⟩
  refine i_cut (fun σ H' => σ = [some (S z), some (.int (a : Int)), some (.ref q), some (.int (b : Int)), some (S (c :: r')), none] ∧ H' = H ∧ ¬ ((c :: r').take 1 = [48] ∨ within (c :: r') (max 1 n) 24 = false)) ?_ ?_
  · walk_at "go"
    refine i_ix_str (c := c) (by omega) (by decide) rfl ?_
    walk_at "go"
    refine i_dec (fun e1 => ?_) (fun e1 => ?_)
    · rw [if_pos (.inl e1)] at h
      walk_at "go"
      intro dd nd
      exact Rz.at h nd
    · unfold Sv at hq
      walk_at "go"
      refine ⟨1, (n : Int), rfl, ?_⟩
      have em : (if (n : Int) > 1 then (n : Int) else 1) = ((max 1 n : Nat) : Int) := by split <;> omega
      rw [em]
      walk_at "go"
      refine ⟨c :: r', max 1 n, 24, rfl, rfl, rfl, by omega, dg, ?_⟩
      walk_at "go"
      cases hw : within (c :: r') (max 1 n) 24 with
      | true =>
        walk_at "go"
        exact ⟨rfl, rfl, fun z => z.elim e1 (fun z => nomatch z)⟩
      | false =>
        rw [if_pos (.inr hw)] at h
        walk_at "go"
        intro dd nd
        exact Rz.at h nd
  rintro σ H' ⟨rfl, rfl, hg⟩
  rw [if_neg hg] at h
  have hw : within (c :: r') (max 1 n) 24 = true := by
    cases hw : within (c :: r') (max 1 n) 24 with
    | true => rfl
    | false => exact absurd (.inr hw) hg
  obtain ⟨w1, w2, w3, w4⟩ := within_iff.mp hw
  walk_at "go"
  refine i_intTx w1 w2 dg ?_
  generalize num (c :: r') = m at *
  have hn : n ≤ 24 := by omega
  unfold Sv at hq
  rw [if_pos hn] at hq
  walk_at "go"
  refine i_mul_strI (by omega) ⟨by show 1 * _ ≤ _; omega, by omega⟩ ?_
  rw [flat_one', show ((m : Int) - (n : Int)).toNat = m - n by omega]
  walk_at "go"
  refine i_add_str (by rw [hl hn, List.length_replicate]; omega) ?_
  walk_at "go"
  refine i_new (by show 2 ≤ 100000; omega) fun p1 n1 => ?_
  walk_at "go"
  refine i_new (by show 2 ≤ 100000; omega) fun p2 n2 => ?_
  refine h p2 p1 _ ((same_upd n1).trans (same_upd n2)) ?_ upd_same
  rw [upd_ne (fun e => by rw [← e, upd_same] at n2; cases n2), upd_same]
  show _ = some (HO.tup [.int (m : Int), if m ≤ 24 then _ else _])
  rw [if_pos w4]
  rfl
theorem ok_read_part (T : Txt K mg C_GlimError C_BadRound C_BadText C_BadLine C_BadSignal C_BadMessage C_TooLong C_Lines C_Signals C_dt_Signals___init__) (d : Nat) (R : OK P w K mg base (L2N.CX P w) (3 * d + 4) "read_item" ["text", "at", "opened"] (sp3 (p_rdp C_BadText (fun z => rdItem z d) d))) :
    OK P w K mg base (L2N.CX P w) (3 * d + 5) "read_part" ["text", "at", "opened"] (sp3 (p_rdp C_BadText (fun z => Fg.part (rdItem z d) z) d)) := by
  refine Fg.OK.mkXN (k := 3 * d + 4) T.d_read_part sc_read_part len3 fun f cdv A outer s H vs Q E hr h => ?_
  obtain ⟨x, y, z, rfl, h⟩ := h
  refine ⟨_, (pss_cons (ps_set (i := 3) sc_read_part.nd rfl (Or.inl rfl) (pe_tup (pa_cons pe_int (pa_cons (pe_S []) pa_nil)))) (Evl.pss_cut (ps_while (passes_of rfl) (pw_and (pt_cmpR op_ltP (pv 1) (pe_callB (cLen K) (by rfl) T.b_len (by decide +kernel) (pa_cons (pv 0) pa_nil)) (nomark _)) (pw_and1 (pw_or (pt_cmpR (opIn K) (pe_ix (ixK K) (pv 0) (pv 1) (fun _ _ => rfl)) (pe_gS [46, 103, 114, 119] T.g_SIGNS) (by with_unfolding_all rfl)) (pw_or1 (pt_cmpR (opIn K) (pe_ix (ixK K) (pv 0) (pv 1) (fun _ _ => rfl)) (pe_gS [48, 49, 50, 51, 52, 53, 54, 55, 56, 57] T.g_DIGITS) (by with_unfolding_all rfl)))).pt)).pt (pss_cons (ps_asg (pe_f R (hr.mono (by omega)) (L2N.passes_call (L2N.takes_of rfl rfl rfl rfl) (fun _ _ _ _ h => h)) (pa_cons (pv 0) (pa_cons (pv 1) (pa_cons (pv 2) pa_nil)))) (pgTup (n := 2) K rfl (pgs_cons (pg_name (i := 4) sc_read_part.nd rfl (Or.inl rfl)) (pgs_cons (pg_name (i := 1) sc_read_part.nd rfl (Or.inl rfl)) pgs_nil)))) (pss_one (ps_set (i := 3) sc_read_part.nd rfl (Or.inl rfl) (pe_f (ok_put_behind (K := K) T) (hr.mono (by omega)) pass0 (pa_cons (pv 3) (pa_cons (pv 4) pa_nil))))))) (pss_cons (ps_if (pt_cmpR (opEq K hr.units) (pe_ix (ixK K) (pv 3) pe_int (fun _ _ => rfl)) pe_int (nomark _)) (pss_one (Fg.ps_raisePN rfl (L2N.takes_of rfl rfl rfl rfl) (Fg.pmk_EN (k := 0) (okx_BadText T) (hr.mono (by omega)) (pa_cons (pv 1) pa_nil)))) pss_nil) (pss_cons (ps_if (pw_and (pt_cmpR op_ltP (pv 1) (pe_callB (cLen K) (by rfl) T.b_len (by decide +kernel) (pa_cons (pv 0) pa_nil)) (nomark _)) (pw_and1 (pt_cmpR (opEq K hr.units) (pe_ix (ixK K) (pv 0) (pv 1) (fun _ _ => rfl)) (pe_S [64]) (nomark _)))).pt (pss_one (ps_ret (pe_f (ok_read_filled (K := K) T) (hr.mono (by omega)) (L2N.passes_call (L2N.takes_of rfl rfl rfl rfl) (fun _ _ _ _ h => h)) (pa_cons (pv 0) (pa_cons (pe_op (opAdd K) (pv 1) pe_int) (pa_cons (pv 3) pa_nil)))))) pss_nil) (pss_one (ps_ret (pe_tup (pa_cons (pv 3) (pa_cons (pv 1) pa_nil))))))))), ?_⟩
  show (_ : TS) { nx := fun _ H' => Q .non H', rt := Q } [some x, some y, some z, none, none] H
  obtain ⟨z, a, o, rfl, rfl, rfl, ho, hz, ha, h⟩ := h
  replace h : Out C_BadText H Q E (Fg.part (rdItem z d) z a) := h
  unfold Fg.part at h
  have gd := rdItem_gd z d
  walk_at "go"
  refine i_new (by show 2 ≤ 100000; omega) fun p0 n0 => ?_
  walk_at "go"
  refine i_cut (fun σ H' => ∃ (b : Nat) (p : Stv) (pq : Addr) (v : Option V), σ = [some (S z), some (.int (b : Int)), some (.int o), some (.ref pq), v] ∧ a ≤ b ∧ b ≤ z.length ∧ Same H H' ∧ H' pq = some (Sv p.1 p.2) ∧ Gb p (b - a) ∧
    Out C_BadText H Q E (partEnd z p b)) ?_ ?_
  · refine i_while (fun m σ H' => ∃ (f b : Nat) (p : Stv) (pq : Addr) (v : Option V), m = z.length - b ∧ σ = [some (S z), some (.int (b : Int)), some (.int o), some (.ref pq), v] ∧ a ≤ b ∧ b ≤ z.length ∧ z.length + 1 ≤ f + b ∧ Same H H' ∧ H' pq = some (Sv p.1 p.2) ∧ Gb p (b - a) ∧
      Out C_BadText H Q E (goOn (partEnd z) (items (rdItem z d) z f b p))) (z.length - a) ⟨z.length + 1 - a, a, (0, []), p0, _, rfl, rfl, Nat.le_refl _, ha, by omega, same_upd n0, upd_same, ⟨by rw [Nat.sub_self]; decide, fun _ => rfl⟩, h⟩ ?_
    rintro m σ H' ⟨f, b, p, pq, v, rfl, rfl, hab, hb, hf, s1, hp, gp, h⟩
    obtain ⟨f', rfl⟩ : ∃ f', f = f' + 1 := ⟨f - 1, by omega⟩
    unfold items at h
    walk_at "go"
    by_cases hl : b < z.length
    case neg =>
      rw [List.getElem?_eq_none (by omega)] at h
      refine i_dec (fun e => absurd (by omega) hl) (fun _ => ?_)
      walk_at "go"
      exact ⟨b, p, pq, v, rfl, hab, hb, s1, hp, gp, h⟩
    have hc : z[b]? = some z[b] := List.getElem?_eq_getElem hl
    rw [hc] at h
    generalize z[b] = c at *
    dsimp only at h
    have ixc : ∀ {H : Hp} {Q : VK}, Q (S [c]) H → ixP K (S z) (.int (b : Int)) H Q := fun k => i_ix_str (by omega) (by omega) (by rw [Int.toNat_natCast]; exact hc) k
    have turn : isStart c = true → tSeq (tAsg (tCall (sp3 (p_rdp C_BadText (fun z => rdItem z d) d)) [] E (tCons (tVar 0) (tCons (tVar 1) (tCons (tVar 2) tNil)))) (gTup K 2 (gCons (gName 4) (gCons (gName 1) gNil)))) (tAsg (tCall (sp2 p_behind) [] E0 (tCons (tVar 3) (tCons (tVar 4) tNil))) (gName 3))
        { nx := fun σ' H2 => ∃ m', m' < z.length - b ∧ ∃ (f b : Nat) (p : Stv) (pq : Addr) (v : Option V), m' = z.length - b ∧ σ' = [some (S z), some (.int (b : Int)), some (.int o), some (.ref pq), v] ∧ a ≤ b ∧ b ≤ z.length ∧ z.length + 1 ≤ f + b ∧ Same H H2 ∧ H2 pq = some (Sv p.1 p.2) ∧ Gb p (b - a) ∧ Out C_BadText H Q E (goOn (partEnd z) (items (rdItem z d) z f b p)), rt := Q }
        [some (S z), some (.int (b : Int)), some (.int o), some (.ref pq), v] H' := fun hs => by
      rw [if_pos hs] at h
      walk_at "go"
      refine ⟨z, b, o, rfl, rfl, rfl, ho, hz, hb, ?_⟩
      show Out _ _ _ _ (rdItem z d b)
      cases hr2 : rdItem z d b with
      | error k =>
        rw [hr2] at h
        exact Rz.mono h s1
      | ok se =>
        obtain ⟨s2, e2⟩ := se
        obtain ⟨g1, g2, g3, g4⟩ := gd b s2 e2 (by omega) hr2
        rw [hr2] at h
        intro p4 q4 H4 sm hq hp4
        walk_at "go"
        refine ⟨pq, q4, p.1, s2.1, p.2, s2.2, rfl, rfl, sm _ _ hp, hq, gp.2, g4.2, fun p5 n5 => ?_⟩
        walk_at "go"
        refine ⟨z.length - e2, by omega, f', e2, beh p s2, p5, _, rfl, rfl, by omega, g2, by omega, (s1.trans sm).trans (same_upd n5), upd_same, ?_, h⟩
        have := gp.beh g4
        rw [show b - a + (e2 - b) = e2 - a by omega] at this
        exact this
    have stop : isStart c = false → Out C_BadText H Q E (partEnd z p b) := fun hs => by
      rw [if_neg (by rw [hs]; decide)] at h
      exact h
    refine i_dec (fun _ => ?_) (fun e => absurd (by omega) e)
    walk_at "go"
    refine ixc ?_
    walk_at "go"
    refine i_dec (fun e1 => ?_) (fun e1 => ?_)
    · walk_at "go"
      refine i_turn ?_
      exact turn (by unfold isStart; rw [decide_eq_true e1]; rfl)
    walk_at "go"
    refine ixc ?_
    walk_at "go"
    refine i_dec (fun e2 => i_turn ?_) (fun e2 => ?_)
    · exact turn (by unfold isStart; rw [decide_eq_true e2, Bool.or_true])
    · exact ⟨b, p, pq, v, rfl, hab, hb, s1, hp, gp, stop (by unfold isStart; rw [decide_eq_false e1, decide_eq_false e2]; rfl)⟩
  · rintro σ H' ⟨b, ⟨n, l⟩, pq, v, rfl, hab, hb, s1, hp, gp, h⟩
    unfold partEnd at h
    dsimp only at h hp
    have ps : H' pq = some (.tup [.int (n : Int), if n ≤ 24 then S l else .non]) := hp
    walk_at "go"
    refine i_dec (fun e => ?_) (fun e => ?_)
    · rw [if_pos (by omega)] at h
      walk_at "go"
      intro dd nd
      exact Rz.at (Rz.mono h s1) nd
    rw [if_neg (by omega)] at h
    walk_at "go"
    have plain : Out C_BadText H Q E (.ok ((n, l), b)) → ∀ p4, H' p4 = none → Q (.ref p4) (upd H' p4 (.tup [.ref pq, .int (b : Int)])) := fun h p4 n4 =>
      h p4 pq _ (s1.trans (same_upd n4)) ((upd_ne (ne_of_none hp n4)).trans hp) upd_same
    by_cases hl : b < z.length
    case neg =>
      rw [List.getElem?_eq_none (by omega), if_neg (by simp)] at h
      refine i_dec (fun e => absurd (by omega) hl) (fun _ => ?_)
      walk_at "go"
      exact i_new (by show 2 ≤ 100000; omega) (plain h)
    have hc : z[b]? = some z[b] := List.getElem?_eq_getElem hl
    rw [hc] at h
    generalize z[b] = c at *
    refine i_dec (fun _ => ?_) (fun e => absurd (by omega) e)
    walk_at "go"
    refine i_ix_str (c := c) (by omega) (by omega) (by rw [Int.toNat_natCast]; exact hc) ?_
    walk_at "go"
    refine i_dec (fun e2 => ?_) (fun e2 => ?_)
    · rw [if_pos (by rw [(List.cons.inj e2).1])] at h
      walk_at "go"
      refine ⟨z, b + 1, pq, (n, l), rfl, by rw [Int.natCast_add]; rfl, rfl, hp, gp.2, hz, by omega, ?_⟩
      revert h
      generalize filled z (b + 1) (n, l) = r
      cases r with
      | error k => exact fun h => Rz.mono h s1
      | ok se => exact fun h p q H2 s2 => h p q H2 (s1.trans s2)
    · rw [if_neg (fun z => e2 (by rw [Option.some.inj z]))] at h
      walk_at "go"
      exact i_new (by show 2 ≤ 100000; omega) (plain h)
end
theorem Out.mono {C : Addr} {H H' : Hp} {Q : VK} {E : XK} {r : Res} (h : Out C H Q E r) (s : Same H H') : Out C H' Q E r := by
  cases r with
  | error k => exact Rz.mono h s
  | ok se => exact fun p q H2 s2 => h p q H2 (s.trans s2)
section
variable {P : Program} {w : World} {K : PySem.W.Frag} {mg : Str → Option Value} {base : Heap} {C_GlimError C_BadRound C_BadText C_BadLine C_BadSignal C_BadMessage C_TooLong C_Lines C_Signals C_dt_Signals___init__ : Addr}
theorem ok_read_parts (T : Txt K mg C_GlimError C_BadRound C_BadText C_BadLine C_BadSignal C_BadMessage C_TooLong C_Lines C_Signals C_dt_Signals___init__) (d : Nat) (R : OK P w K mg base (L2N.CX P w) (3 * d + 5) "read_part" ["text", "at", "opened"] (sp3 (p_rdp C_BadText (fun z => Fg.part (rdItem z d) z) d))) :
    OK P w K mg base (L2N.CX P w) (3 * d + 6) "read_parts" ["text", "at", "opened"] (sp3 (PD C_BadText (d + 1))) := by
  refine Fg.OK.mkXN (k := 3 * d + 5) T.d_read_parts sc_read_parts len3 fun f cdv A outer s H vs Q E hr h => ?_
  obtain ⟨x, y, z, rfl, h⟩ := h
  refine ⟨_, (pss_cons (ps_asg (pe_f R (hr.mono (by omega)) (L2N.passes_call (L2N.takes_of rfl rfl rfl rfl) (fun _ _ _ _ h => h)) (pa_cons (pv 0) (pa_cons (pv 1) (pa_cons (pv 2) pa_nil)))) (pgTup (n := 2) K rfl (pgs_cons (pg_name (i := 3) sc_read_parts.nd rfl (Or.inl rfl)) (pgs_cons (pg_name (i := 1) sc_read_parts.nd rfl (Or.inl rfl)) pgs_nil)))) (pss_cons (ps_set (i := 4) sc_read_parts.nd rfl (Or.inl rfl) (pe_lst (pa_cons (pv 3) pa_nil))) (Evl.pss_cut (ps_while (passes_of rfl) (pw_and (pt_cmpR op_ltP (pv 1) (pe_callB (cLen K) (by rfl) T.b_len (by decide +kernel) (pa_cons (pv 0) pa_nil)) (nomark _)) (pw_and1 (pt_cmpR (opEq K hr.units) (pe_ix (ixK K) (pv 0) (pv 1) (fun _ _ => rfl)) (pe_S [38]) (nomark _)))).pt (pss_cons (ps_asg (pe_f R (hr.mono (by omega)) (L2N.passes_call (L2N.takes_of rfl rfl rfl rfl) (fun _ _ _ _ h => h)) (pa_cons (pv 0) (pa_cons (pe_op (opAdd K) (pv 1) pe_int) (pa_cons (pv 2) pa_nil)))) (pgTup (n := 2) K rfl (pgs_cons (pg_name (i := 3) sc_read_parts.nd rfl (Or.inl rfl)) (pgs_cons (pg_name (i := 1) sc_read_parts.nd rfl (Or.inl rfl)) pgs_nil)))) (pss_one (ps_expr (peApp K (pv 4) (pa_cons (pv 3) pa_nil)))))) (pss_one (ps_ret (pe_tup (pa_cons (pe_f (ok_shown_together (K := K) T) (hr.mono (by omega)) pass0 (pa_cons (pv 4) pa_nil)) (pa_cons (pv 1) pa_nil)))))))), ?_⟩
  show (_ : TS) { nx := fun _ H' => Q .non H', rt := Q } [some x, some y, some z, none, none] H
  obtain ⟨z, a, o, rfl, rfl, rfl, ho, hz, ha, h⟩ := h
  replace h : Out C_BadText H Q E (rd z d a) := h
  rw [rd_eq] at h
  unfold Fg.parts at h
  have gd := part_gd (rdItem_gd z d)
  walk_at "go"
  refine ⟨z, a, o, rfl, rfl, rfl, ho, hz, ha, ?_⟩
  show Out _ _ _ _ (Fg.part (rdItem z d) z a)
  cases hr1 : Fg.part (rdItem z d) z a with
  | error k =>
    rw [hr1] at h
    exact h
  | ok se =>
  obtain ⟨s1, e1⟩ := se
  obtain ⟨g1, g2, g3, g4⟩ := gd a s1 e1 ha hr1
  rw [hr1] at h
  intro p1 q1 H1 sm1 hq1 hp1
  walk_at "go"
  refine i_new (by show 1 ≤ 100000; omega) fun Dl nD => ?_
  walk_at "go"
  have nD0 := sm1.free nD
  refine i_cut (fun σ H' => ∃ (b : Nat) (ps : List Stv) (qs : List Addr) (v : Option V), σ = [some (S z), some (.int (b : Int)), some (.int o), v, some (.ref Dl)] ∧ a ≤ b ∧ b ≤ z.length ∧ Same H H' ∧ H' Dl = some (.lst (qs.map V.ref)) ∧ PartsAt H' qs ps ∧ ps.length ≤ b ∧ Gps ps (b - a) ∧
    Out C_BadText H Q E (.ok (shown ps, b))) ?_ ?_
  · refine i_while (fun m σ H' => ∃ (f b : Nat) (ps : List Stv) (qs : List Addr) (v : Option V), m = z.length - b ∧ σ = [some (S z), some (.int (b : Int)), some (.int o), v, some (.ref Dl)] ∧ a ≤ b ∧ b ≤ z.length ∧ z.length + 1 ≤ f + b ∧ Same H H' ∧ H' Dl = some (.lst (qs.map V.ref)) ∧ PartsAt H' qs ps ∧ ps.length ≤ b ∧ Gps ps (b - a) ∧
      Out C_BadText H Q E (more (Fg.part (rdItem z d) z) z f b ps)) (z.length - e1) ⟨z.length + 1 - e1, e1, [s1], [q1], _, rfl, rfl, by omega, g2, by omega, Same.upd sm1 nD0, upd_same, ⟨rfl, ?_⟩, by show 1 ≤ e1; omega, Gps.one g3 g4, h⟩ ?_
    · intro i q p h1 h2
      match i, h1, h2 with
      | 0, h1, h2 => cases h1; cases h2; exact (upd_ne (ne_of_none hq1 nD)).trans hq1
    rintro m σ H' ⟨f, b, ps, qs, v, rfl, rfl, hab, hb, hf, sm, hD, hP, hL, gp, h⟩
    obtain ⟨f', rfl⟩ : ∃ f', f = f' + 1 := ⟨f - 1, by omega⟩
    unfold more at h
    walk_at "go"
    by_cases hl : b < z.length
    case neg =>
      rw [List.getElem?_eq_none (by omega), if_neg (by simp)] at h
      refine i_dec (fun e => absurd (by omega) hl) (fun _ => ?_)
      walk_at "go"
      exact ⟨b, ps, qs, v, rfl, hab, hb, sm, hD, hP, hL, gp, h⟩
    have hc : z[b]? = some z[b] := List.getElem?_eq_getElem hl
    rw [hc] at h
    generalize z[b] = c at *
    refine i_dec (fun _ => ?_) (fun e => absurd (by omega) e)
    walk_at "go"
    refine i_ix_str (c := c) (by omega) (by omega) (by rw [Int.toNat_natCast]; exact hc) ?_
    walk_at "go"
    refine i_dec (fun e2 => i_turn ?_) (fun e2 => ?_)
    · rw [if_pos (by rw [(List.cons.inj e2).1])] at h
      walk_at "go"
      refine ⟨z, b + 1, o, rfl, by rw [Int.natCast_add]; rfl, rfl, ho, hz, by omega, ?_⟩
      show Out _ _ _ _ (Fg.part (rdItem z d) z (b + 1))
      cases hr2 : Fg.part (rdItem z d) z (b + 1) with
      | error k =>
        rw [hr2] at h
        exact Rz.mono h sm
      | ok se =>
        obtain ⟨s2, e2⟩ := se
        obtain ⟨g5, g6, g7, g8⟩ := gd (b + 1) s2 e2 (by omega) hr2
        rw [hr2] at h
        intro p2 q2 H2 sm2 hq2 hp2
        walk_at "go"
        have hD2 := sm2 _ _ hD
        refine i_appAt hD2 ?_
        walk_at "go"
        have hlen := hP.1
        refine i_appEnd hD2 (by rw [List.length_map]; omega) ?_
        refine ⟨z.length - e2, by omega, f', e2, ps ++ [s2], qs ++ [q2], _, rfl, rfl, by omega, g6, by omega, Same.upd (sm.trans sm2) nD0, ?_, ⟨by rw [List.length_append, List.length_append, hlen]; rfl, ?_⟩, by rw [List.length_append]; show ps.length + 1 ≤ e2; omega, ?_, h⟩
        · rw [upd_same, List.map_append]; rfl
        · intro i q p h1 h2
          have key : H2 q = some (Sv p.1 p.2) := by
            by_cases hi : i < qs.length
            · rw [List.getElem?_append_left hi] at h1
              rw [List.getElem?_append_left (by omega)] at h2
              exact sm2 _ _ (hP.2 i q p h1 h2)
            · rw [List.getElem?_append_right (by omega)] at h1
              rw [List.getElem?_append_right (by omega)] at h2
              have e0 : i - qs.length = 0 := by
                have := (List.getElem?_eq_some_iff.mp h1).1
                rw [List.length_singleton] at this
                omega
              rw [e0] at h1
              rw [show i - ps.length = 0 by omega] at h2
              cases h1; cases h2
              exact hq2
          rw [upd_ne (fun e => by rw [e, hD2] at key; cases key)]
          exact key
        · exact (gp.snoc g7 g8).mono (by omega)
    · rw [if_neg (fun z => e2 (by rw [Option.some.inj z]))] at h
      exact ⟨b, ps, qs, v, rfl, hab, hb, sm, hD, hP, hL, gp, h⟩
  · rintro σ H' ⟨b, ps, qs, v, rfl, hab, hb, sm, hD, hP, hL, gp, h⟩
    walk_at "go"
    refine ⟨Dl, qs, ps, rfl, .inl (.inl hD), hP, by omega, gp.2, gp.big (by omega), fun p H3 s3 h3 => ?_⟩
    walk_at "go"
    refine i_new (by show 2 ≤ 100000; omega) fun p4 n4 => ?_
    exact h p4 p _ ((sm.trans s3).trans (same_upd n4)) ((upd_ne (ne_of_none h3 n4)).trans h3) upd_same
theorem parts_all (T : Txt K mg C_GlimError C_BadRound C_BadText C_BadLine C_BadSignal C_BadMessage C_TooLong C_Lines C_Signals C_dt_Signals___init__) : ∀ d, OK P w K mg base (L2N.CX P w) (3 * d + 3) "read_parts" ["text", "at", "opened"] (sp3 (PD C_BadText d))
  | 0 => by
    refine Fg.OK.mkXN (k := 2) T.d_read_parts sc_read_parts len3 fun f cdv A outer s H vs Q E hr h => ?_
    obtain ⟨x, y, u, rfl, h⟩ := h
    exact h.elim
  | d + 1 => ok_read_parts T d (ok_read_part T d (ok_read_item T d (parts_all T d)))
/-- the whole text -/
def OutR (C CT : Addr) (H : Hp) (Q : VK) (E : XK) (z : List Nat) : Prop :=
  match rd z 6 0 with
  | .error k => Rz E H C "at" (.int (k : Int))
  | .ok (s, e) => if e < z.length then Rz E H C "at" (.int (e : Int)) else if 24 < s.1 then Rz E H CT "number" (.int (s.1 : Int)) else ∀ H', Same H H' → Q (S s.2) H'
def p_round (C CT : Addr) : P1 := fun x H Q E => (∃ z : List Nat, x = S z ∧ z.length ≤ 1700 ∧ OutR C CT H Q E z) ∨ (NoStr H x ∧ Rz E H C "at" (.int (-1)))
theorem ok_read_round (T : Txt K mg C_GlimError C_BadRound C_BadText C_BadLine C_BadSignal C_BadMessage C_TooLong C_Lines C_Signals C_dt_Signals___init__) : OK P w K mg base (L2N.CX P w) 25 "read_round" ["text"] (sp1  (p_round C_BadText C_TooLong)) := by
  refine Fg.OK.mkXN (k := 24) T.d_read_round sc_read_round len1 fun f cdv A outer s H vs Q E hr h => ?_
  obtain ⟨x, rfl, h⟩ := h
  refine ⟨_, (pss_cons (ps_if (pt_not (pt_val (pe_callB (cIsi K) (by rfl) T.b_isinstance (by decide +kernel) (pa_cons (pv 0) (pa_cons (pe_bltn (v := .ty "str") (by rfl) T.b_str (by decide +kernel) rfl) pa_nil))))) (pss_one (Fg.ps_raisePN rfl (L2N.takes_of rfl rfl rfl rfl) (Fg.pmk_EN (k := 0) (okx_BadText T) (hr.mono (by decide)) (pa_cons (pe_un un_neg pe_int) pa_nil)))) pss_nil) (pss_cons (ps_asg (pe_f (parts_all (K := K) T 7) (hr.mono (by decide)) (L2N.passes_call (L2N.takes_of rfl rfl rfl rfl) (fun _ _ _ _ h => h)) (pa_cons (pv 0) (pa_cons pe_int (pa_cons pe_int pa_nil)))) (pgTup (n := 2) K rfl (pgs_cons (pg_name (i := 1) sc_read_round.nd rfl (Or.inl rfl)) (pgs_cons (pg_name (i := 2) sc_read_round.nd rfl (Or.inl rfl)) pgs_nil)))) (pss_cons (ps_if (pt_cmpR op_ltP (pv 2) (pe_callB (cLen K) (by rfl) T.b_len (by decide +kernel) (pa_cons (pv 0) pa_nil)) (nomark _)) (pss_one (Fg.ps_raisePN rfl (L2N.takes_of rfl rfl rfl rfl) (Fg.pmk_EN (k := 0) (okx_BadText T) (hr.mono (by decide)) (pa_cons (pv 2) pa_nil)))) pss_nil) (pss_cons (ps_if (pt_cmpR op_gtP (pe_ix (ixK K) (pv 1) pe_int (fun _ _ => rfl)) (pe_gI (24) T.g_MOST_ROUND) (nomark _)) (pss_one (Fg.ps_raisePN rfl (L2N.takes_of rfl rfl rfl rfl) (Fg.pmk_EN (k := 0) (okx_TooLong T) (hr.mono (by decide)) (pa_cons (pe_ix (ixK K) (pv 1) pe_int (fun _ _ => rfl)) pa_nil)))) pss_nil) (pss_one (ps_ret (pe_ix (ixK K) (pv 1) pe_int (fun _ _ => rfl)))))))), ?_⟩
  show (_ : TS) { nx := fun _ H' => Q .non H', rt := Q } [some x, none, none] H
  rcases h with ⟨z, rfl, hz, h⟩ | ⟨h, hr⟩
  · unfold OutR at h
    walk_at "go"
    refine ⟨z, 0, 0, rfl, rfl, rfl, by decide, hz, by omega, ?_⟩
    show Out _ _ _ _ (rd z 6 0)
    cases hr1 : rd z 6 0 with
    | error k =>
      rw [hr1] at h
      exact h
    | ok se =>
    obtain ⟨⟨n, l⟩, e⟩ := se
    obtain ⟨g1, g2, g3, g4⟩ := rd_gd z 6 0 (n, l) e (by omega) hr1
    rw [hr1] at h
    dsimp only at h g3
    intro p q H1 sm hq hp
    have ps : H1 q = some (.tup [.int (n : Int), if n ≤ 24 then S l else .non]) := hq
    walk_at "go"
    refine i_dec (fun e1 => ?_) (fun e1 => ?_)
    · rw [if_pos (by omega)] at h
      walk_at "go"
      intro dd nd
      exact Rz.at (Rz.mono h sm) nd
    rw [if_neg (by omega)] at h
    walk_at "go"
    refine i_dec (fun e2 => ?_) (fun e2 => ?_)
    · rw [if_pos (by omega)] at h
      walk_at "go"
      intro dd nd
      exact Rz.at (Rz.mono h sm) nd
    · rw [if_neg (by omega)] at h
      walk_at "go"
      rw [if_pos (by omega)]
      exact h H1 sm
  · rcases h with rfl | ⟨b, rfl⟩ | ⟨i, rfl⟩ | ⟨a, xs, rfl, h | h⟩
    · walk_at "go"
      intro dd nd
      exact Rz.at hr nd
    · walk_at "go"
      intro dd nd
      exact Rz.at hr nd
    · walk_at "go"
      intro dd nd
      exact Rz.at hr nd
    · walk_at "go"
      refine i_isi_tup_str h ?_
      walk_at "go"
      intro dd nd
      exact Rz.at hr nd
    · walk_at "go"
      refine i_isi_lst_str h ?_
      walk_at "go"
      intro dd nd
      exact Rz.at hr nd
end
def IsRound (l : List Nat) : Prop := 1 ≤ l.length ∧ l.length ≤ 24 ∧ ∀ c ∈ l, c ∈ SG
def oS : Option (List Nat) → V
  | none => .non
  | some t => S t
theorem flat_rep (n c : Nat) : (List.replicate n [c]).flatten = List.replicate n c := by
  induction n with
  | zero => rfl
  | succ n ih => rw [List.replicate_succ, List.flatten_cons, ih, List.replicate_succ]; rfl
theorem cutN_mid {z : List Nat} {a b : Nat} : cutN z (some (a : Int)) (some ((a + b : Nat) : Int)) = (z.drop a).take b := by
  unfold cutN
  rw [HT.sIx_nat, HT.sIx_nat]
  by_cases h : a ≤ z.length
  · rw [Nat.min_eq_left h]
    by_cases h2 : a + b ≤ z.length
    · rw [Nat.min_eq_left h2]; congr 1; omega
    · rw [Nat.min_eq_right (by omega), List.take_of_length_le (by rw [List.length_drop]; omega), List.take_of_length_le (by rw [List.length_drop]; omega)]
  · have e1 : min a z.length = z.length := by omega
    have e2 : min (a + b) z.length = z.length := by omega
    rw [e1, e2, Nat.sub_self, List.take_zero, List.drop_of_length_le (show z.length ≤ a by omega), List.take_nil]
section
variable {P : Program} {w : World} {K : PySem.W.Frag} {mg : Str → Option Value} {base : Heap} {C_GlimError C_BadRound C_BadText C_BadLine C_BadSignal C_BadMessage C_TooLong C_Lines C_Signals C_dt_Signals___init__ : Addr}
def p_shortlex : P1 := fun x H Q _ => ∃ l, x = S l ∧ l.length ≤ 100000 ∧ ∀ p, H p = none → Q (.ref p) (upd H p (.tup [.int (l.length : Int), S l]))
theorem ok_shortlex (T : Txt K mg C_GlimError C_BadRound C_BadText C_BadLine C_BadSignal C_BadMessage C_TooLong C_Lines C_Signals C_dt_Signals___init__) : OK P w K mg base CX0 1 "shortlex" ["row"] (sp1  p_shortlex) := by
  refine OK.mk (k := 0) T.d_shortlex sc_shortlex len1 fun f cdv A outer s H vs Q E hr h => ?_
  obtain ⟨x, rfl, h⟩ := h
  refine ⟨_, (pss_one (ps_ret (pe_tup (pa_cons (pe_callB (cLen K) (by rfl) T.b_len (by decide +kernel) (pa_cons (pv 0) pa_nil)) (pa_cons (pv 0) pa_nil))))), ?_⟩
  show (_ : TS) { nx := fun _ H' => Q .non H', rt := Q } [some x] H
  obtain ⟨l, rfl, h1, q⟩ := h
  walk_at "go"
  exact i_new (by show 2 ≤ 100000; omega) q
def p_least : P1 := fun x H Q _ => ∃ (a : Addr) (xs : List (List Nat)), x = .ref a ∧ H a = some (.lst (xs.map S)) ∧ xs ≠ [] ∧ (∀ y ∈ xs, y.length ≤ 1000) ∧ ∀ m H', m ∈ xs → (∀ y ∈ xs, ¬ lt2 y m) → Same H H' → Q (S m) H'
theorem ok_least_text (T : Txt K mg C_GlimError C_BadRound C_BadText C_BadLine C_BadSignal C_BadMessage C_TooLong C_Lines C_Signals C_dt_Signals___init__) : OK P w K mg base CX0 3 "least_text" ["texts"] (sp1  p_least) := by
  refine OK.mk (k := 2) T.d_least_text sc_least_text len1 fun f cdv A outer s H vs Q E hr h => ?_
  obtain ⟨x, rfl, h⟩ := h
  refine ⟨_, (pss_one (ps_ret (pe_minK K (ok_shortlex (K := K) T) (hr.mono (by decide)) T.b_min (pv 0)))), ?_⟩
  show (_ : TS) { nx := fun _ H' => Q .non H', rt := Q } [some x] H
  obtain ⟨a, xs, rfl, ha, hne, hl, q⟩ := h
  walk_at "go"
  refine i_minK ?_
  walk_at "go"
  exact ⟨a, xs, rfl, .inl (.inl ha), hne, fun H' y s hy Q' k => ⟨y, rfl, Nat.le_trans (hl y hy) (by decide), k⟩, q⟩
def p_closed : P2 := fun x y H Q _ => ∃ (p : List Nat) (a : Addr) (n : Nat) (g : List Nat → Option V), x = S p ∧ y = .ref a ∧ 1 ≤ p.length ∧ p.length ≤ 24 ∧ TD n H a g ∧ (∀ u, u ≠ [] → u <+: p → g u = some (S (fT u))) ∧ ∀ H', Same H H' → Q (S (fC p)) H'
theorem ok_closed_text (T : Txt K mg C_GlimError C_BadRound C_BadText C_BadLine C_BadSignal C_BadMessage C_TooLong C_Lines C_Signals C_dt_Signals___init__) : OK P w K mg base CX0 4 "closed_text" ["part", "texts"] (sp2  p_closed) := by
  refine OK.mk (k := 3) T.d_closed_text sc_closed_text len2 fun f cdv A outer s H vs Q E hr h => ?_
  obtain ⟨x, y, rfl, h⟩ := h
  refine ⟨_, (pss_cons (ps_set (i := 2) sc_closed_text.nd rfl (Or.inl rfl) (pe_lst (pa_cons (pe_dget (hu_of hr) (pv 1) (pv 0) (fun _ _ => rfl)) pa_nil))) (pss_cons (ps_for PassesOwn.never rfl (pi_range2 rfl T.b_range (pa_cons pe_int (pa_cons (pe_callB (cLen K) (by rfl) T.b_len (by decide +kernel) (pa_cons (pv 0) pa_nil)) pa_nil))) (pg_name (i := 3) sc_closed_text.nd rfl (Or.inl rfl)) (pss_one (ps_if (pt_cmpR (opEq K hr.units) (pe_slice (slK K) (pv 0) (po_some (pv 3)) po_none) (pe_op op_mulP (pe_S [46]) (pe_op op_subP (pe_callB (cLen K) (by rfl) T.b_len (by decide +kernel) (pa_cons (pv 0) pa_nil)) (pv 3))) (nomark _)) (pss_one (ps_expr (peApp K (pv 2) (pa_cons (pe_op (opAdd K) (pe_op (opAdd K) (pe_dget (hu_of hr) (pv 1) (pe_slice (slK K) (pv 0) po_none (po_some (pv 3))) (fun _ _ => rfl)) (pe_S [64])) (pe_callTy Fg.call_strS (by rfl) T.b_str (by decide +kernel) (pa_cons (pe_callB (cLen K) (by rfl) T.b_len (by decide +kernel) (pa_cons (pv 0) pa_nil)) pa_nil))) pa_nil)))) pss_nil))) (pss_one (ps_ret (pe_f (ok_least_text (K := K) T) (hr.mono (by decide)) pass0 (pa_cons (pv 2) pa_nil)))))), ?_⟩
  show (_ : TS) { nx := fun _ H' => Q .non H', rt := Q } [some x, some y, none, none] H
  obtain ⟨p, a, n, g, rfl, rfl, h1, h2, td, hg, q⟩ := h
  have hp : p ≠ [] := List.length_pos_iff.mp h1
  walk_at "go"
  refine td_get td (hg p hp (List.prefix_refl p)) ?_
  walk_at "go"
  refine i_new (by show 1 ≤ 100000; omega) fun L nL => ?_
  walk_at "go"
  refine f_rng2 1 p.length (fun R k => by walk_at "go"; exact k) (by omega) (fun i σ H' => ∃ (v : Option V) (xs : List (List Nat)), σ = [some (S p), some (.ref a), some (.ref L), v] ∧ Same H H' ∧ H' L = some (.lst (xs.map S)) ∧ xs.length ≤ 1 + i ∧ (∀ t ∈ xs, t.length ≤ 100) ∧ ∀ t, t ∈ xs ↔ (t = fT p ∨ ∃ u j, u ≠ [] ∧ 1 ≤ j ∧ p = u ++ List.replicate j 46 ∧ u.length < 1 + i ∧ t = fT u ++ (64 :: dec p.length)))
    ⟨none, [fT p], rfl, same_upd nL, upd_same, Nat.le_refl _, fun t ht => by rw [List.mem_singleton.mp ht]; exact Nat.le_trans (fT_len p) (by omega), fun t => ?_⟩ ?_ ?_
  · rw [List.mem_singleton]
    refine ⟨.inl, ?_⟩
    rintro (h | ⟨u, j, hu, hj, _, hl, _⟩)
    · exact h
    · have := List.length_pos_iff.mpr hu; omega
  · rintro i σ H' hi ⟨v, xs, rfl, s1, eL, hx1, hx2, hx3⟩
    walk_at "go"
    refine i_mul_strI (by omega) ⟨by show 1 * _ ≤ _; omega, by omega⟩ ?_
    rw [flat_rep, show ((p.length : Int) - ((1 + i : Nat) : Int)).toNat = p.length - (1 + i) by omega, Int.toNat_natCast]
    walk_at "go"
    have td1 := td.mono s1
    refine i_dec (fun e => ?_) (fun e => ?_)
    · have hpre : p.take (1 + i) <+: p := List.take_prefix _ _
      have htl : (p.take (1 + i)).length = 1 + i := by rw [List.length_take]; omega
      have hne : p.take (1 + i) ≠ [] := fun z => by
        have htl := htl
        rw [z] at htl
        have : 0 = 1 + i := htl
        omega
      have hfl := fT_len (p.take (1 + i))
      walk_at "go"
      refine i_appAt eL ?_
      walk_at "go"
      rw [Int.toNat_natCast]
      refine td_get td1 (hg _ hne hpre) ?_
      walk_at "go"
      refine ⟨p.length, rfl, by omega, ?_⟩
      have dl := dec_len p.length
      walk_at "go"
      refine i_appEnd eL (by rw [List.length_map]; omega) ?_
      have ht : fT (p.take (1 + i)) ++ [64] ++ dec p.length = fT (p.take (1 + i)) ++ (64 :: dec p.length) := by simp
      refine ⟨_, xs ++ [fT (p.take (1 + i)) ++ (64 :: dec p.length)], rfl, Same.upd s1 nL, by rw [upd_same, List.map_append, ← ht]; rfl, by rw [List.length_append]; show xs.length + 1 ≤ _; omega, fun t h => ?_, fun t => ?_⟩
      · rcases List.mem_append.mp h with h | h
        · exact hx2 t h
        · rw [List.mem_singleton.mp h, List.length_append, List.length_cons]; omega
      · rw [List.mem_append, List.mem_singleton, hx3]
        constructor
        · rintro ((h | ⟨u, j, hu, hj, he, hl, h⟩) | h)
          · exact .inl h
          · exact .inr ⟨u, j, hu, hj, he, by omega, h⟩
          · exact .inr ⟨p.take (1 + i), p.length - (1 + i), hne, by omega, by rw [← e, List.take_append_drop], by omega, h⟩
        · rintro (h | ⟨u, j, hu, hj, he, hl, h⟩)
          · exact .inl (.inl h)
          · by_cases hlu : u.length < 1 + i
            · exact .inl (.inr ⟨u, j, hu, hj, he, hlu, h⟩)
            · have : u = p.take (1 + i) := by rw [he, show 1 + i = u.length by omega, List.take_left]
              exact .inr (by rw [h, this])
    · walk_at "go"
      refine ⟨_, xs, rfl, s1, eL, by omega, hx2, fun t => ?_⟩
      rw [hx3]
      refine or_congr Iff.rfl ⟨?_, ?_⟩
      · rintro ⟨u, j, hu, hj, he, hl, h⟩
        exact ⟨u, j, hu, hj, he, by omega, h⟩
      · rintro ⟨u, j, hu, hj, he, hl, h⟩
        refine ⟨u, j, hu, hj, he, ?_, h⟩
        by_cases hlu : u.length < 1 + i
        · exact hlu
        · have hul : u.length = 1 + i := by omega
          refine absurd ?_ e
          rw [← hul, he, List.drop_left, List.length_append, List.length_replicate]
          congr 1; omega
  · rintro σ H' ⟨v, xs, rfl, s1, eL, hx1, hx2, hx3⟩
    walk_at "go"
    have hmem : fT p ∈ xs := (hx3 _).mpr (.inl rfl)
    refine ⟨L, xs, rfl, eL, List.ne_nil_of_mem hmem, fun y hy => Nat.le_trans (hx2 y hy) (by decide), fun m H2 hm hb s2 => ?_⟩
    have key : ∀ t, ClC fT p t ↔ t ∈ xs := fun t => by
      rw [hx3]
      refine or_congr Iff.rfl ⟨?_, ?_⟩
      · rintro ⟨u, j, hu, hj, he, h⟩
        have := congrArg List.length he
        rw [List.length_append, List.length_replicate] at this
        exact ⟨u, j, hu, hj, he, by omega, h⟩
      · rintro ⟨u, j, hu, hj, he, hl, h⟩
        exact ⟨u, j, hu, hj, he, h⟩
    have : fC p = m := fC_isL hp ⟨(key m).mpr hm, fun y hy => hb y ((key y).mp hy)⟩
    rw [← this]
    exact q H2 (s1.trans s2)
end
/-- what a stretch's repeated parts give, of parts shorter than m -/
def CandB (m : Nat) (p t : List Nat) : Prop := ∃ k u, u ≠ [] ∧ 2 ≤ k ∧ p = rpt k u ∧ u.length < m ∧ ((u.length = 1 ∧ t = dec k ++ u) ∨ t = dec k ++ ([40] ++ (fC u ++ [41])))
theorem rpt_take {k : Nat} {u p : List Nat} (hk : 1 ≤ k) (h : p = rpt k u) : p.take u.length = u := by
  obtain ⟨k', rfl⟩ : ∃ k', k = k' + 1 := ⟨k - 1, by omega⟩
  rw [h, rpt_succ, List.take_left]
section
variable {P : Program} {w : World} {K : PySem.W.Frag} {mg : Str → Option Value} {base : Heap} {C_GlimError C_BadRound C_BadText C_BadLine C_BadSignal C_BadMessage C_TooLong C_Lines C_Signals C_dt_Signals___init__ : Addr}
def p_item : P2 := fun x y H Q _ => ∃ (p : List Nat) (a : Addr) (n : Nat) (g : List Nat → Option V), x = S p ∧ y = .ref a ∧ 1 ≤ p.length ∧ p.length ≤ 24 ∧ TD n H a g ∧ (∀ u, u ≠ [] → u <+: p → u.length < p.length → g u = some (S (fT u))) ∧ ∀ H', Same H H' → Q (oS (fI p)) H'
theorem ok_item_text (T : Txt K mg C_GlimError C_BadRound C_BadText C_BadLine C_BadSignal C_BadMessage C_TooLong C_Lines C_Signals C_dt_Signals___init__) : OK P w K mg base CX0 5 "item_text" ["part", "texts"] (sp2  p_item) := by
  refine OK.mk (k := 4) T.d_item_text sc_item_text len2 fun f cdv A outer s H vs Q E hr h => ?_
  obtain ⟨x, y, rfl, h⟩ := h
  refine ⟨_, (pss_cons (ps_if (pt_cmpR (opEq K hr.units) (pe_callB (cLen K) (by rfl) T.b_len (by decide +kernel) (pa_cons (pv 0) pa_nil)) pe_int (nomark _)) (pss_one (ps_ret (pv 0))) pss_nil) (pss_cons (ps_set (i := 2) sc_item_text.nd rfl (Or.inl rfl) (pe_lst pa_nil)) (pss_cons (ps_for PassesOwn.never rfl (pi_range2 rfl T.b_range (pa_cons pe_int (pa_cons (pe_op (opAdd K) (pe_op op_fdivP (pe_callB (cLen K) (by rfl) T.b_len (by decide +kernel) (pa_cons (pv 0) pa_nil)) pe_int) pe_int) pa_nil))) (pg_name (i := 3) sc_item_text.nd rfl (Or.inl rfl)) (pss_cons (ps_set (i := 4) sc_item_text.nd rfl (Or.inl rfl) (pe_op op_fdivP (pe_callB (cLen K) (by rfl) T.b_len (by decide +kernel) (pa_cons (pv 0) pa_nil)) (pv 3))) (pss_one (ps_if (pt_cmpR (opEq K hr.units) (pe_op op_mulP (pe_slice (slK K) (pv 0) po_none (po_some (pv 3))) (pv 4)) (pv 0) (nomark _)) (Evl.pss_cut (ps_if (pt_cmpR (opEq K hr.units) (pv 3) pe_int (nomark _)) (pss_one (ps_expr (peApp K (pv 2) (pa_cons (pe_op (opAdd K) (pe_callTy Fg.call_strS (by rfl) T.b_str (by decide +kernel) (pa_cons (pv 4) pa_nil)) (pe_ix (ixK K) (pv 0) pe_int (fun _ _ => rfl))) pa_nil)))) pss_nil) (pss_one (ps_expr (peApp K (pv 2) (pa_cons (pe_op (opAdd K) (pe_op (opAdd K) (pe_op (opAdd K) (pe_callTy Fg.call_strS (by rfl) T.b_str (by decide +kernel) (pa_cons (pv 4) pa_nil)) (pe_S [40])) (pe_f (ok_closed_text (K := K) T) (hr.mono (by decide)) pass0 (pa_cons (pe_slice (slK K) (pv 0) po_none (po_some (pv 3))) (pa_cons (pv 1) pa_nil)))) (pe_S [41])) pa_nil))))) pss_nil)))) (pss_cons (ps_if (pt_not (ptTruth K (pv 2) (fun _ => rfl))) (pss_one (ps_ret pe_non)) pss_nil) (pss_one (ps_ret (pe_f (ok_least_text (K := K) T) (hr.mono (by decide)) pass0 (pa_cons (pv 2) pa_nil)))))))), ?_⟩
  show (_ : TS) { nx := fun _ H' => Q .non H', rt := Q } [some x, some y, none, none, none] H
  obtain ⟨p, a, n, g, rfl, rfl, h1, h2, td, hg, q⟩ := h
  have hp : p ≠ [] := List.length_pos_iff.mp h1
  walk_at "go"
  refine i_dec (fun e1 => ?_) (fun e1 => ?_)
  · walk_at "go"
    have := q H (Same.refl H)
    rw [show fI p = some p by unfold fI itS; exact if_pos (by omega)] at this
    exact this
  have hp1 : p.length ≠ 1 := fun z => e1 (by omega)
  walk_at "go"
  refine i_new (by show 0 ≤ 100000; omega) fun L nL => ?_
  walk_at "go"
  refine f_rng2 1 (p.length / 2 + 1) (fun R k => by walk_at "go"; rw [show (p.length : Int) / 2 + 1 = ((p.length / 2 + 1 : Nat) : Int) by omega]; exact k) (by omega) (fun i σ H' => ∃ (v4 v5 : Option V) (xs : List (List Nat)), σ = [some (S p), some (.ref a), some (.ref L), v4, v5] ∧ Same H H' ∧ H' L = some (.lst (xs.map S)) ∧ xs.length ≤ 2 * i ∧ (∀ t ∈ xs, t.length ≤ 100) ∧ ∀ t, t ∈ xs ↔ CandB (1 + i) p t)
    ⟨none, none, [], rfl, same_upd nL, upd_same, Nat.le_refl _, by simp, fun t => ?_⟩ ?_ ?_
  · constructor
    · intro h; simp at h
    · rintro ⟨k, u, hu, _, _, hl, _⟩
      have := List.length_pos_iff.mpr hu
      omega
  · rintro i σ H' hi ⟨v4, v5, xs, rfl, s1, eL, hx1, hx2, hx3⟩
    have hm : 1 + i ≤ p.length / 2 := by omega
    have hk2 : 2 ≤ p.length / (1 + i) := (Nat.le_div_iff_mul_le (by omega)).mpr (by omega)
    have hk24 : p.length / (1 + i) ≤ 24 := Nat.le_trans (Nat.div_le_self _ _) h2
    walk_at "go"
    have hdiv : (p.length : Int) / ((1 + i : Nat) : Int) = ((p.length / (1 + i) : Nat) : Int) := by rw [Int.natCast_ediv]
    rw [hdiv]
    generalize hk : p.length / (1 + i) = k at *
    have htl : (p.take (1 + i)).length = 1 + i := by rw [List.length_take]; omega
    have hkl : (1 + i) * k ≤ p.length := by rw [← hk]; exact Nat.mul_div_le _ _
    rw [Int.toNat_natCast]
    refine i_mul_strI (Int.natCast_nonneg _) ⟨by rw [htl, Int.toNat_natCast]; omega, by rw [Int.toNat_natCast]; omega⟩ ?_
    rw [Int.toNat_natCast, show (List.replicate k (p.take (1 + i))).flatten = rpt k (p.take (1 + i)) from rfl]
    walk_at "go"
    refine i_dec (fun e => ?_) (fun e => ?_)
    · have hne : p.take (1 + i) ≠ [] := fun z => by
        have htl := htl
        rw [z] at htl
        have : 0 = 1 + i := htl
        omega
      have dl := dec_len k
      have hcl := fC_len hne
      -- what stands behind the inner if
      refine i_cut (fun σ' H' => ∃ ys : List (List Nat), σ' = [some (S p), some (.ref a), some (.ref L), some (.int ((1 + i : Nat) : Int)), some (.int (k : Int))] ∧ Same H H' ∧ H' L = some (.lst (ys.map S)) ∧ ys.length ≤ 2 * i + 1 ∧ (∀ t ∈ ys, t.length ≤ 100) ∧ ∀ t, t ∈ ys ↔ (CandB (1 + i) p t ∨ ((p.take (1 + i)).length = 1 ∧ t = dec k ++ p.take (1 + i)))) ?_ ?_
      · walk_at "go"
        refine i_dec (fun e0 => ?_) (fun e0 => ?_)
        · walk_at "go"
          refine i_appAt eL ?_
          walk_at "go"
          refine ⟨k, rfl, by omega, ?_⟩
          walk_at "go"
          obtain ⟨c, hc⟩ : ∃ c, p[0]? = some c := ⟨_, List.getElem?_eq_getElem (by omega)⟩
          have hi0 : i = 0 := by omega
          have htk : p.take (1 + i) = [c] := by
            rw [hi0]
            cases p with
            | nil => simp at hc
            | cons x r => cases hc; rfl
          refine i_ix_str (by omega) (by decide) hc ?_
          walk_at "go"
          refine i_appEnd eL (by rw [List.length_map]; omega) ?_
          refine ⟨xs ++ [dec k ++ p.take (1 + i)], rfl, Same.upd s1 nL, by rw [upd_same, List.map_append, htk]; rfl, by rw [List.length_append]; show xs.length + 1 ≤ _; omega, fun t h => ?_, fun t => ?_⟩
          · rcases List.mem_append.mp h with h | h
            · exact hx2 t h
            · rw [List.mem_singleton.mp h, List.length_append]; omega
          · rw [List.mem_append, List.mem_singleton, hx3]
            refine or_congr Iff.rfl ⟨fun h => ⟨by omega, h⟩, fun h => h.2⟩
        · walk_at "go"
          refine ⟨xs, rfl, s1, eL, by omega, hx2, fun t => ?_⟩
          rw [hx3]
          exact ⟨.inl, fun h => h.elim id fun h => absurd h.1 (by omega)⟩
      rintro σ' H1 ⟨ys, rfl, s2, eL2, hy1, hy2, hy3⟩
      walk_at "go"
      refine i_appAt eL2 ?_
      walk_at "go"
      refine ⟨k, rfl, by omega, ?_⟩
      walk_at "go"
      rw [Int.toNat_natCast]
      refine ⟨p.take (1 + i), a, n, g, rfl, rfl, by omega, by omega, td.mono s2, fun u hu hpre => hg u hu (hpre.trans (List.take_prefix _ _)) (by have := hpre.length_le; omega), fun H2 s3 => ?_⟩
      walk_at "go"
      have eL3 := s3 _ _ eL2
      refine i_appEnd eL3 (by rw [List.length_map]; omega) ?_
      have hg2 : dec k ++ [40] ++ fC (p.take (1 + i)) ++ [41] = dec k ++ ([40] ++ (fC (p.take (1 + i)) ++ [41])) := by simp
      refine ⟨_, _, ys ++ [dec k ++ ([40] ++ (fC (p.take (1 + i)) ++ [41]))], rfl, Same.upd (s2.trans s3) nL, by rw [upd_same, List.map_append, ← hg2]; rfl, by rw [List.length_append]; show ys.length + 1 ≤ _; omega, fun t h => ?_, fun t => ?_⟩
      · rcases List.mem_append.mp h with h | h
        · exact hy2 t h
        · rw [List.mem_singleton.mp h]; simp only [List.length_append, List.length_singleton]; omega
      · rw [List.mem_append, List.mem_singleton, hy3]
        constructor
        · rintro ((⟨k', u, hu, hk', hp', hl, h⟩ | ⟨h, ht⟩) | h)
          · exact ⟨k', u, hu, hk', hp', by omega, h⟩
          · exact ⟨k, p.take (1 + i), hne, hk2, e.symm, by omega, .inl ⟨h, ht⟩⟩
          · exact ⟨k, p.take (1 + i), hne, hk2, e.symm, by omega, .inr h⟩
        · rintro ⟨k', u, hu, hk', hp', hl, h⟩
          by_cases hlu : u.length < 1 + i
          · exact .inl (.inl ⟨k', u, hu, hk', hp', hlu, h⟩)
          · have hul : u.length = 1 + i := by omega
            have hut : u = p.take (1 + i) := by rw [← hul, rpt_take (by omega) hp']
            have hkk : k' = k := by
              have := congrArg List.length hp'
              rw [rpt_len, hul] at this
              rw [← hk, this, Nat.mul_div_cancel _ (by omega)]
            subst hkk hut
            rcases h with h | h
            · exact .inl (.inr h)
            · exact .inr h
    · walk_at "go"
      refine ⟨_, _, xs, rfl, s1, eL, by omega, hx2, fun t => ?_⟩
      rw [hx3]
      constructor
      · rintro ⟨k', u, hu, hk', hp', hl, h⟩
        exact ⟨k', u, hu, hk', hp', by omega, h⟩
      · rintro ⟨k', u, hu, hk', hp', hl, h⟩
        refine ⟨k', u, hu, hk', hp', ?_, h⟩
        by_cases hlu : u.length < 1 + i
        · exact hlu
        · have hul : u.length = 1 + i := by omega
          have hut : u = p.take (1 + i) := by rw [← hul, rpt_take (by omega) hp']
          have hkk : k' = k := by
            have := congrArg List.length hp'
            rw [rpt_len, hul] at this
            rw [← hk, this, Nat.mul_div_cancel _ (by omega)]
          exact absurd (by rw [← hut, ← hkk, ← hp']) e
  · rintro σ H' ⟨v4, v5, xs, rfl, s1, eL, hx1, hx2, hx3⟩
    have key : ∀ t, Cand fC p t ↔ t ∈ xs := fun t => by
      rw [hx3]
      constructor
      · rintro ⟨k, u, hu, hk, hp', h⟩
        have := congrArg List.length hp'
        rw [rpt_len] at this
        have h2u : 2 * u.length ≤ k * u.length := Nat.mul_le_mul_right _ hk
        exact ⟨k, u, hu, hk, hp', by omega, h⟩
      · rintro ⟨k, u, hu, hk, hp', hl, h⟩
        exact ⟨k, u, hu, hk, hp', h⟩
    walk_at "go"
    cases xs with
    | nil =>
      refine i_truL0 eL ?_
      have := q H' s1
      rw [fI_none hp1 fun t h => by have := (key t).mp h; simp at this] at this
      walk_at "go"
      exact this
    | cons x r =>
      refine i_truL1 eL (by simp) ?_
      walk_at "go"
      refine ⟨L, x :: r, rfl, eL, by simp, fun y hy => Nat.le_trans (hx2 y hy) (by decide), fun m H2 hm hb s2 => ?_⟩
      have := q H2 (s1.trans s2)
      rw [fI_isL hp1 (m := m) ⟨(key m).mpr hm, fun y hy => hb y ((key y).mp hy)⟩] at this
      exact this
end
def sub (z : List Nat) (a m : Nat) : List Nat := (z.drop a).take m
theorem sub_len {z : List Nat} {a m : Nat} (h : a + m ≤ z.length) : (sub z a m).length = m := by
  unfold sub
  rw [List.length_take, List.length_drop]
  omega
theorem sub_ne {z : List Nat} {a m : Nat} (h : a + m ≤ z.length) (hm : 1 ≤ m) : sub z a m ≠ [] := fun e => by
  have := sub_len h
  rw [e] at this
  have : 0 = m := this
  omega
theorem sub_take {z : List Nat} {a m k : Nat} (h : k ≤ m) : (sub z a m).take k = sub z a k := by
  unfold sub
  rw [List.take_take, Nat.min_eq_left h]
theorem sub_drop {z : List Nat} {a m k : Nat} : (sub z a m).drop k = sub z (a + k) (m - k) := by
  unfold sub
  rw [List.drop_take, List.drop_drop]
theorem sub_pre {z u : List Nat} {a m : Nat} (h : a + m ≤ z.length) (hp : u <+: sub z a m) : u = sub z a u.length ∧ u.length ≤ m := by
  have hl := hp.length_le
  rw [sub_len h] at hl
  refine ⟨?_, hl⟩
  rw [← sub_take hl]
  exact List.prefix_iff_eq_take.mp hp
theorem sub_all (z : List Nat) : sub z 0 z.length = z := by unfold sub; rw [List.drop_zero, List.take_length]
section
variable {P : Program} {w : World} {K : PySem.W.Frag} {mg : Str → Option Value} {base : Heap} {C_GlimError C_BadRound C_BadText C_BadLine C_BadSignal C_BadMessage C_TooLong C_Lines C_Signals C_dt_Signals___init__ : Addr}
def p_items : P3 := fun x y z H Q _ => ∃ (p : List Nat) (a b : Addr) (n m : Nat) (gi gt : List Nat → Option V), x = S p ∧ y = .ref a ∧ z = .ref b ∧ 1 ≤ p.length ∧ p.length ≤ 24 ∧ TD n H a gi ∧ TD m H b gt ∧ (∀ k, 1 ≤ k → k ≤ p.length → gi (p.take k) = some (oS (fI (p.take k)))) ∧ (∀ k, 1 ≤ k → k ≤ p.length → gt (p.drop k) = some (S (fT (p.drop k)))) ∧ ∀ H', Same H H' → Q (S (fT p)) H'
theorem ok_items_text (T : Txt K mg C_GlimError C_BadRound C_BadText C_BadLine C_BadSignal C_BadMessage C_TooLong C_Lines C_Signals C_dt_Signals___init__) : OK P w K mg base CX0 4 "items_text" ["part", "items", "texts"] (sp3  p_items) := by
  refine OK.mk (k := 3) T.d_items_text sc_items_text len3 fun f cdv A outer s H vs Q E hr h => ?_
  obtain ⟨x, y, z, rfl, h⟩ := h
  refine ⟨_, (pss_cons (ps_set (i := 3) sc_items_text.nd rfl (Or.inl rfl) (pe_lst pa_nil)) (pss_cons (ps_for PassesOwn.never rfl (pi_range2 rfl T.b_range (pa_cons pe_int (pa_cons (pe_op (opAdd K) (pe_callB (cLen K) (by rfl) T.b_len (by decide +kernel) (pa_cons (pv 0) pa_nil)) pe_int) pa_nil))) (pg_name (i := 4) sc_items_text.nd rfl (Or.inl rfl)) (pss_one (ps_if (pt_cmpR op_isNotP (pe_dget (hu_of hr) (pv 1) (pe_slice (slK K) (pv 0) po_none (po_some (pv 4))) (fun _ _ => rfl)) pe_non (nomark _)) (pss_one (ps_expr (peApp K (pv 3) (pa_cons (pe_op (opAdd K) (pe_dget (hu_of hr) (pv 1) (pe_slice (slK K) (pv 0) po_none (po_some (pv 4))) (fun _ _ => rfl)) (pe_dget (hu_of hr) (pv 2) (pe_slice (slK K) (pv 0) (po_some (pv 4)) po_none) (fun _ _ => rfl))) pa_nil)))) pss_nil))) (pss_one (ps_ret (pe_f (ok_least_text (K := K) T) (hr.mono (by decide)) pass0 (pa_cons (pv 3) pa_nil)))))), ?_⟩
  show (_ : TS) { nx := fun _ H' => Q .non H', rt := Q } [some x, some y, some z, none, none] H
  obtain ⟨p, a, b, n, m, gi, gt, rfl, rfl, rfl, h1, h2, ti, tt, hi, ht, q⟩ := h
  have hp : p ≠ [] := List.length_pos_iff.mp h1
  walk_at "go"
  refine i_new (by show 0 ≤ 100000; omega) fun L nL => ?_
  walk_at "go"
  refine f_rng2 1 (p.length + 1) (fun R k => by walk_at "go"; rw [Int.natCast_add] at k; exact k) (by omega) (fun i σ H' => ∃ (v4 : Option V) (xs : List (List Nat)), σ = [some (S p), some (.ref a), some (.ref b), some (.ref L), v4] ∧ Same H H' ∧ H' L = some (.lst (xs.map S)) ∧ xs.length ≤ i ∧ (∀ t ∈ xs, t.length ≤ 100) ∧ ∀ t, t ∈ xs ↔ ∃ k s, 1 ≤ k ∧ k < 1 + i ∧ fI (p.take k) = some s ∧ t = s ++ fT (p.drop k))
    ⟨none, [], rfl, same_upd nL, upd_same, Nat.le_refl _, by simp, fun t => ?_⟩ ?_ ?_
  · constructor
    · intro h; simp at h
    · rintro ⟨k, s, hk, hk', _⟩
      omega
  · rintro i σ H' hlt ⟨v4, xs, rfl, s1, eL, hx1, hx2, hx3⟩
    have tl : (p.take (1 + i)).length = 1 + i := by rw [List.length_take]; omega
    have hne : p.take (1 + i) ≠ [] := fun z => by
      have tl := tl
      rw [z] at tl
      have : 0 = 1 + i := tl
      omega
    have e1 := hi (1 + i) (by omega) (by omega)
    have e2 := ht (1 + i) (by omega) (by omega)
    walk_at "go"
    rw [Int.toNat_natCast]
    refine td_get (ti.mono s1) e1 ?_
    cases hI : fI (p.take (1 + i)) with
    | none =>
      show (_ : Prop)
      rw [show oS none = V.non from rfl]
      walk_at "go"
      refine ⟨_, xs, rfl, s1, eL, by omega, hx2, fun t => ?_⟩
      rw [hx3]
      constructor
      · rintro ⟨k, s, hk, hk', hs, h⟩
        exact ⟨k, s, hk, by omega, hs, h⟩
      · rintro ⟨k, s, hk, hk', hs, h⟩
        refine ⟨k, s, hk, ?_, hs, h⟩
        by_cases e : k < 1 + i
        · exact e
        · rw [show k = 1 + i by omega, hI] at hs; cases hs
    | some s =>
      have sl := fI_len hne (by omega) hI
      have fl := fT_len (p.drop (1 + i))
      rw [List.length_drop] at fl
      rw [hI] at e1
      show (_ : Prop)
      rw [show oS (some s) = S s from rfl] at e1 ⊢
      walk_at "go"
      refine i_appAt eL ?_
      walk_at "go"
      rw [Int.toNat_natCast]
      refine td_get (ti.mono s1) e1 ?_
      walk_at "go"
      rw [Int.toNat_natCast]
      refine td_get (tt.mono s1) e2 ?_
      walk_at "go"
      refine i_appEnd eL (by rw [List.length_map]; omega) ?_
      refine ⟨_, xs ++ [s ++ fT (p.drop (1 + i))], rfl, Same.upd s1 nL, by rw [upd_same, List.map_append]; rfl, by rw [List.length_append]; show xs.length + 1 ≤ _; omega, fun t h => ?_, fun t => ?_⟩
      · rcases List.mem_append.mp h with h | h
        · exact hx2 t h
        · rw [List.mem_singleton.mp h, List.length_append]; omega
      · rw [List.mem_append, List.mem_singleton, hx3]
        constructor
        · rintro (⟨k, s', hk, hk', hs, h⟩ | h)
          · exact ⟨k, s', hk, by omega, hs, h⟩
          · exact ⟨1 + i, s, by omega, by omega, hI, h⟩
        · rintro ⟨k, s', hk, hk', hs, h⟩
          by_cases e : k < 1 + i
          · exact .inl ⟨k, s', hk, e, hs, h⟩
          · rw [show k = 1 + i by omega] at hs h
            rw [hI] at hs
            cases hs
            exact .inr h
  · rintro σ H' ⟨v4, xs, rfl, s1, eL, hx1, hx2, hx3⟩
    have h0 : [p[0]] ++ fT (p.drop 1) ∈ xs := (hx3 _).mpr ⟨1, [p[0]], Nat.le_refl _, by omega, by
      have : p.take 1 = [p[0]] := by
        cases p with
        | nil => exact absurd rfl hp
        | cons x r => rfl
      rw [this]; exact fI_one, rfl⟩
    walk_at "go"
    refine ⟨L, xs, rfl, eL, List.ne_nil_of_mem h0, fun y hy => Nat.le_trans (hx2 y hy) (by decide), fun m' H2 hm hb s2 => ?_⟩
    have hT : fT p = m' := by
      refine fT_first hp ?_ ?_
      · obtain ⟨k, s, hk, hk', hs, h⟩ := (hx3 m').mp hm
        refine ⟨p.take k, p.drop k, s, (List.take_append_drop k p).symm, fun z => ?_, hs, h⟩
        have := congrArg List.length z
        rw [List.length_take] at this
        have this : min k p.length = 0 := this
        omega
      · intro a b s e ha hs
        have h1' : 1 ≤ a.length := List.length_pos_iff.mpr ha
        have hl : a.length ≤ p.length := by rw [e, List.length_append]; omega
        refine hb _ ((hx3 _).mpr ⟨a.length, s, h1', by omega, by rw [e, List.take_left]; exact hs, by rw [e, List.drop_left]⟩)
    rw [← hT]
    exact q H2 (s1.trans s2)
/-- the dicts behind so many turns -/
def Ds (z : List Nat) (H : Hp) (I T : Addr) (N : Nat) (dom : Nat → Nat → Prop) : Prop := ∃ gi gt n m, TD n H I gi ∧ TD m H T gt ∧ n ≤ N ∧ m ≤ N + 1 ∧ gt [] = some (S []) ∧ (∀ u v, u ≠ [] → gt u = some v → v = S (fT u) ∧ gi u = some (oS (fI u))) ∧ ∀ a k, dom a k → 1 ≤ k → a + k ≤ z.length → (gt (sub z a k)).isSome = true
theorem Ds.got {z : List Nat} {H : Hp} {I T : Addr} {N : Nat} {dom dom' : Nat → Nat → Prop} (h : Ds z H I T N dom) (hd : ∀ a k, dom' a k → 1 ≤ k → a + k ≤ z.length → dom a k) : Ds z H I T N dom' := by
  obtain ⟨gi, gt, n, m, a1, a2, a3, a4, a5, a6, a7⟩ := h
  exact ⟨gi, gt, n, m, a1, a2, a3, a4, a5, a6, fun a k x y w => a7 a k (hd a k x y w) y w⟩
theorem rnd_none {z : List Nat} (hz : IsRound z) : rndD (dS z) = none := by
  show rndL z = none
  unfold rndL
  rw [if_pos ⟨hz.1, hz.2.1⟩, firstBad_none hz.2.2]
  rfl
def p_fold : P1 := fun x H Q E => ∃ l, x = S l ∧ IsRound l ∧ ∀ H', Same H H' → Q (S (fC l)) H'
theorem ok_fold_round (T : Txt K mg C_GlimError C_BadRound C_BadText C_BadLine C_BadSignal C_BadMessage C_TooLong C_Lines C_Signals C_dt_Signals___init__) : OK P w K mg base (L2.CX P w) 6 "fold_round" ["row"] (sp1  p_fold) := by
  refine OK.mkX (k := 5) T.d_fold_round sc_fold_round len1 fun f cdv A outer s H vs Q E hr h => ?_
  obtain ⟨x, rfl, h⟩ := h
  refine ⟨_, (pss_cons (ps_expr (pe_f (ok_check_round (K := K) T) (hr.mono (by decide)) (passes_call (takes_of rfl rfl rfl rfl) (fun _ _ _ _ h => h)) (pa_cons (pv 0) pa_nil))) (pss_cons (ps_set (i := 1) sc_fold_round.nd rfl (Or.inl rfl) pe_dnewK) (pss_cons (ps_set (i := 2) sc_fold_round.nd rfl (Or.inl rfl) (pe_disp (pps_cons (pe_S []) (pe_S []) pps_nil) (by rfl) (by rfl) (fun z => by cases z) (by decide))) (pss_cons (ps_for (passes_of rfl) rfl (pi_range2 rfl T.b_range (pa_cons pe_int (pa_cons (pe_op (opAdd K) (pe_callB (cLen K) (by rfl) T.b_len (by decide +kernel) (pa_cons (pv 0) pa_nil)) pe_int) pa_nil))) (pg_name (i := 3) sc_fold_round.nd rfl (Or.inl rfl)) (pss_one (ps_for (passes_of rfl) rfl (pi_range1 rfl T.b_range (pa_cons (pe_op (opAdd K) (pe_op op_subP (pe_callB (cLen K) (by rfl) T.b_len (by decide +kernel) (pa_cons (pv 0) pa_nil)) (pv 3)) pe_int) pa_nil)) (pg_name (i := 4) sc_fold_round.nd rfl (Or.inl rfl)) (pss_cons (ps_set (i := 5) sc_fold_round.nd rfl (Or.inl rfl) (pe_slice (slK K) (pv 0) (po_some (pv 4)) (po_some (pe_op (opAdd K) (pv 4) (pv 3))))) (pss_one (ps_if (pt_cmp (pc_dnotin (hu_of hr) (pv 5) (pv 2))) (pss_cons (ps_dput (hu_of hr) (pv 1) (pv 5) (pe_f (ok_item_text (K := K) T) (hr.mono (by decide)) pass0 (pa_cons (pv 5) (pa_cons (pv 2) pa_nil))) rfl) (pss_one (ps_dput (hu_of hr) (pv 2) (pv 5) (pe_f (ok_items_text (K := K) T) (hr.mono (by decide)) pass0 (pa_cons (pv 5) (pa_cons (pv 1) (pa_cons (pv 2) pa_nil)))) rfl))) pss_nil)))))) (pss_one (ps_ret (pe_f (ok_closed_text (K := K) T) (hr.mono (by decide)) pass0 (pa_cons (pv 0) (pa_cons (pv 2) pa_nil))))))))), ?_⟩
  show (_ : TS) { nx := fun _ H' => Q .non H', rt := Q } [some x, none, none, none, none, none] H
  obtain ⟨z, rfl, hz, q⟩ := h
  have hz1 := hz.1
  have hz2 := hz.2.1
  walk_at "go"
  refine ⟨dS z, .str _ (by omega), ?_⟩
  rw [show rndD (dS z) = none from rnd_none hz]
  intro H1 s1
  walk_at "go"
  refine i_dnewK fun I nI => ?_
  walk_at "go"
  refine i_disp1 (l := []) (v := S []) (fun H R k => k) (fun H R k => k) fun Tt o nT td => ?_
  have neIT : I ≠ Tt := fun e => by rw [← e, upd_same] at nT; cases nT
  have nT1 : H1 Tt = none := by rw [upd_ne (Ne.symm neIT)] at nT; exact nT
  have ti : TD 0 (upd (upd H1 I (.dK [])) Tt o) I (fun _ => none) := TD.new.at (upd_ne neIT)
  have sB : Same H1 (upd (upd H1 I (.dK [])) Tt o) := Same.upd (same_upd nI) nT1
  have ds0 : Ds z (upd (upd H1 I (.dK [])) Tt o) I Tt 0 (fun a k => k < 1) := ⟨_, _, 0, 1, ti, td, Nat.le_refl _, Nat.le_refl _, by unfold setT; rw [if_pos rfl], (fun u v hu e => by
    unfold setT at e
    rw [if_neg hu] at e
    cases e), fun a k h1 h2 => absurd h2 (by have : k < 1 := h1; omega)⟩
  generalize (upd (upd H1 I (.dK [])) Tt o) = H2 at *
  walk_at "go"
  refine f_rng2 1 (z.length + 1) (fun R k => by walk_at "go"; rw [Int.natCast_add] at k; exact k) (by omega) (fun i σ H' => ∃ v3 v4 v5 : Option V, σ = [some (S z), some (.ref I), some (.ref Tt), v3, v4, v5] ∧ Same H1 H' ∧ Ds z H' I Tt (30 * i) (fun a k => k < 1 + i) ∧ i ≤ 24) ⟨_, _, _, rfl, sB, ds0, by omega⟩ ?_ ?_
  · rintro i σ H3 hi ⟨v3, v4, v5, rfl, s3, ds, hi24⟩
    walk_at "go"
    refine f_rng1 (z.length - i) (fun R k => by walk_at "go"; rw [show (z.length : Int) - ((1 + i : Nat) : Int) + 1 = ((z.length - i : Nat) : Int) by omega]; exact k) (by omega) (fun j σ H' => ∃ v4 v5 : Option V, σ = [some (S z), some (.ref I), some (.ref Tt), some (.int ((1 + i : Nat) : Int)), v4, v5] ∧ Same H1 H' ∧ Ds z H' I Tt (30 * i + j) (fun a k => k < 1 + i ∨ (k = 1 + i ∧ a < j)) ∧ j ≤ 24) ⟨_, _, rfl, s3, ds.got (fun a k h _ _ => by omega), by omega⟩ ?_ ?_
    · rintro j σ H4 hj ⟨v4, v5, rfl, s4, ds4, hj24⟩
      have hjm : j + (1 + i) ≤ z.length := by omega
      have hpl := sub_len hjm
      have hpn := sub_ne hjm (by omega)
      walk_at "go"
      rw [← Int.natCast_add]
      refine i_sl_str (by omega) ?_
      rw [cutN_mid, show (z.drop j).take (1 + i) = sub z j (1 + i) from rfl]
      walk_at "go"
      obtain ⟨gi, gt, n, m, t1, t2, hn, hm, g0, gv, gd⟩ := id ds4
      refine td_ask t2 ?_
      -- what is known of its parts
      have pre : ∀ k, 1 ≤ k → k ≤ i → gt (sub z j k) = some (S (fT (sub z j k))) ∧ gi (sub z j k) = some (oS (fI (sub z j k))) := fun k k1 k2 => by
        have h := gd j k (.inl (by omega)) k1 (by omega)
        obtain ⟨v, hv⟩ := Option.isSome_iff_exists.mp h
        obtain ⟨e1, e2⟩ := gv _ v (sub_ne (by omega) k1) hv
        exact ⟨by rw [hv, e1], e2⟩
      cases hgt : gt (sub z j (1 + i)) with
      | some v =>
        simp only [Option.isSome_some, Bool.not_true]
        walk_at "go"
        refine ⟨_, _, rfl, s4, ?_, by omega⟩
        refine ⟨gi, gt, n, m, t1, t2, by omega, by omega, g0, gv, fun a k hd k1 k2 => ?_⟩
        by_cases e : k = 1 + i ∧ a = j
        · rw [e.1, e.2, hgt]; rfl
        · exact gd a k (by omega) k1 k2
      | none =>
        simp only [Option.isSome_none, Bool.not_false]
        walk_at "go"
        refine ⟨sub z j (1 + i), Tt, m, gt, rfl, rfl, by omega, by omega, t2, fun u hu hpre hlt => ?_, fun H5 s5 => ?_⟩
        · obtain ⟨e1, e2⟩ := sub_pre hjm hpre
          have hu1 := List.length_pos_iff.mpr hu
          rw [e1]
          exact (pre u.length hu1 (by omega)).1
        walk_at "go"
        refine td_put (t1.mono s5) (by omega) fun o5 t3 => ?_
        have nI4 : H1 I = none := by
          cases hI : H1 I with
          | none => rfl
          | some x => rw [hI] at nI; cases nI
        have t4 : TD m (upd H5 I o5) Tt gt := (t2.mono s5).at (upd_ne (Ne.symm neIT))
        walk_at "go"
        refine ⟨sub z j (1 + i), I, Tt, n + 1, m, _, gt, rfl, rfl, rfl, by omega, by omega, t3, t4, fun k k1 k2 => ?_, fun k k1 k2 => ?_, fun H6 s6 => ?_⟩
        · rw [hpl] at k2
          unfold setT
          by_cases e : k = 1 + i
          · rw [e, List.take_of_length_le (by omega), if_pos rfl]
          · rw [sub_take (by omega)]
            rw [if_neg (fun h => by
              have := congrArg List.length h
              rw [sub_len (by omega), hpl] at this
              omega)]
            exact (pre k k1 (by omega)).2
        · rw [hpl] at k2
          rw [sub_drop]
          by_cases e : k = 1 + i
          · rw [e, Nat.sub_self]
            show gt (((z.drop _).take 0)) = _
            rw [List.take_zero, g0]
            show _ = some (S (fT (((z.drop _).take 0))))
            rw [List.take_zero, fT_nil]
          · have h := gd (j + k) (1 + i - k) (.inl (by omega)) (by omega) (by omega)
            obtain ⟨v, hv⟩ := Option.isSome_iff_exists.mp h
            rw [hv, (gv _ v (sub_ne (by omega) (by omega)) hv).1]
        walk_at "go"
        refine td_put (t4.mono s6) (by omega) fun o6 t5 => ?_
        have t6 : TD (n + 1) (upd H6 Tt o6) I _ := (t3.mono s6).at (upd_ne neIT)
        refine ⟨_, _, rfl, Same.upd (Same.trans (Same.upd (s4.trans s5) nI4) s6) nT1, ?_, by omega⟩
        refine ⟨_, _, n + 1, m + 1, t6, t5, by omega, by omega, ?_, fun u v hu e => ?_, fun a k hd k1 k2 => ?_⟩
        · unfold setT
          rw [if_neg (fun h => hpn h.symm)]
          exact g0
        · unfold setT at e ⊢
          by_cases hu' : u = sub z j (1 + i)
          · rw [if_pos hu'] at e ⊢
            rw [hu']
            exact ⟨(Option.some.inj e).symm, rfl⟩
          · rw [if_neg hu'] at e ⊢
            exact gv u v hu e
        · unfold setT
          by_cases hu' : sub z a k = sub z j (1 + i)
          · rw [if_pos hu']; rfl
          · rw [if_neg hu']
            refine gd a k ?_ k1 k2
            rcases hd with hd | ⟨hd1, hd2⟩
            · exact .inl hd
            · refine .inr ⟨hd1, ?_⟩
              by_cases e : a = j
              · exact absurd (by rw [hd1, e]) hu'
              · omega
    · rintro σ H4 ⟨v4, v5, rfl, s4, ds4, hj24⟩
      refine ⟨_, _, _, rfl, s4, ?_, by omega⟩
      obtain ⟨gi, gt, n, m, t1, t2, hn, hm, g0, gv, gd⟩ := ds4
      exact ⟨gi, gt, n, m, t1, t2, by omega, by omega, g0, gv, fun a k hd k1 k2 => gd a k (by omega) k1 k2⟩
  · rintro σ H3 ⟨v3, v4, v5, rfl, s3, ds, hi24⟩
    obtain ⟨gi, gt, n, m, t1, t2, hn, hm, g0, gv, gd⟩ := ds
    walk_at "go"
    refine ⟨z, Tt, m, gt, rfl, rfl, hz1, hz2, t2, fun u hu hpre => ?_, fun H4 s4 => q H4 ((s1.trans s3).trans s4)⟩
    have e1 := List.prefix_iff_eq_take.mp hpre
    have hl := hpre.length_le
    have hu1 := List.length_pos_iff.mpr hu
    have h := gd 0 u.length (by omega) hu1 (by omega)
    have e2 : sub z 0 u.length = u := by unfold sub; rw [List.drop_zero, ← e1]
    rw [e2] at h
    obtain ⟨v, hv⟩ := Option.isSome_iff_exists.mp h
    rw [hv, (gv u v hu hv).1]
end
theorem kN : ¬ (("texts" : Str) = "now") := by decide +kernel
def LF (t : Addr) (n : Nat) : List (Str × V) := putF "now" (.int (n : Int)) (putF "texts" (.ref t) [])
theorem LF_eq (t : Addr) (n : Nat) : LF t n = ([("texts", V.ref t), ("now", V.int (n : Int))] : List (Str × V)) := by
  show (if ("texts" : Str) = "now" then [(("texts" : Str), V.int (n : Int))] else (("texts" : Str), V.ref t) :: putF "now" (V.int (n : Int)) []) = _
  rw [if_neg kN]
  all_goals rfl
theorem LF_texts (t : Addr) (n : Nat) : (LF t n).lookup ("texts" : Str) = some (.ref t) := by
  unfold LF
  rw [lookup_putF, if_neg kN, lookup_putF, if_pos rfl]
theorem LF_now (t : Addr) (n : Nat) : (LF t n).lookup ("now" : Str) = some (.int (n : Int)) := by
  unfold LF
  rw [lookup_putF, if_pos rfl]
theorem LF_no (t : Addr) (n : Nat) {m : Str} (h1 : ¬ m = "now") (h2 : ¬ m = "texts") : (LF t n).lookup m = none := by
  unfold LF
  rw [lookup_putF, if_neg h1, lookup_putF, if_neg h2]
  all_goals rfl
theorem LF_put (t : Addr) (n m : Nat) : putF "now" (.int (m : Int)) (LF t n) = LF t m := by
  rw [LF_eq, LF_eq]
  show (if ("texts" : Str) = "now" then _ else (("texts" : Str), V.ref t) :: (if ("now" : Str) = "now" then [(("now" : Str), V.int (m : Int))] else _)) = _
  rw [if_neg kN, if_pos rfl]
  all_goals rfl
/-- a reader at p over the lines ds, at line n -/
structure Rdr (C : Addr) (A H : Hp) (p t : Addr) (n : Nat) (ds : List PyData) : Prop where
  sa : Same A H
  tx : At A (.ref t) (.tuple ds)
  ob : ∃ dx, H p = some (.ins C dx (LF t n))
theorem Rdr.same {C : Addr} {A H H' : Hp} {p t : Addr} {n : Nat} {ds : List PyData} (r : Rdr C A H p t n ds) (s : Same H H') : Rdr C A H' p t n ds := by
  obtain ⟨sa, tx, dx, ob⟩ := r
  exact ⟨sa.trans s, tx, dx, s _ _ ob⟩
/-- the wish for BadLine -/
def Bl (E : XK) (H : Hp) (C : Addr) (line word : Nat) : Prop := Rzf E H C [("word", .int (word : Int)), ("line", .int (line : Int))]
theorem Bl.mono {E : XK} {H H1 : Hp} {C : Addr} {l w : Nat} (h : Bl E H C l w) (s : Same H H1) : Bl E H1 C l w := Rzf.mono h s
theorem Bl.at {E : XK} {H : Hp} {C : Addr} {l w : Nat} (h : Bl E H C l w) {d : Addr} (n : H d = none) : E (.ref C) (some d) (upd H d (.xd [("word", .int (w : Int)), ("line", .int (l : Int))])) := Rzf.at h n
section
variable {P : Program} {w : World} {K : PySem.W.Frag} {mg : Str → Option Value} {base : Heap} {C_GlimError C_BadRound C_BadText C_BadLine C_BadSignal C_BadMessage C_TooLong C_Lines C_Signals C_dt_Signals___init__ : Addr}
def p_over (C : Addr) : P1 := fun x H Q _ => ∃ A p t n ds, x = .ref p ∧ Rdr C A H p t n ds ∧ Q (.bl (decide (ds.length ≤ n))) H
theorem ok_Lines_is_over (T : Txt K mg C_GlimError C_BadRound C_BadText C_BadLine C_BadSignal C_BadMessage C_TooLong C_Lines C_Signals C_dt_Signals___init__) : MOK P w K mg base CX0 1 C_Lines "is_over" ["self"] [] (sp1  (p_over C_Lines)) := by
  refine MOK.mk (k := 0) T.m_Lines_is_over sc_Lines_is_over len1 fun f cdv A outer s H vs Q E hr h => ?_
  obtain ⟨x, rfl, h⟩ := h
  refine ⟨_, (pss_one (ps_ret (pe_cmpR op_geP (peFld K (pv 0)) (pe_callB (cLen K) (by rfl) T.b_len (by decide +kernel) (pa_cons (peFld K (pv 0)) pa_nil)) (nomark _)))), ?_⟩
  show (_ : TS) { nx := fun _ H' => Q .non H', rt := Q } [some x] H
  obtain ⟨A0, p, t, n, ds, rfl, ⟨sa, tx, dx, ob⟩, q⟩ := h
  obtain ⟨t', xs, e, hH, hl, al⟩ := tx.tupled
  cases e
  walk_at "go"
  refine i_fld ob T.cl_Lines T.na_Lines_now (LF_now t n) ?_
  walk_at "go"
  refine i_fld ob T.cl_Lines T.na_Lines_texts (LF_texts t n) ?_
  walk_at "go"
  refine i_len_tup (.inl (.inl (sa _ _ hH))) ?_
  walk_at "go"
  have e1 : decide ((xs.length : Int) ≤ (n : Int)) = decide (ds.length ≤ n) := by
    rw [al.len, Bool.eq_iff_iff]; simp
  rw [e1]
  exact q
def p_words (C CB : Addr) : P1 := fun x H Q E => ∃ A p t n ds, x = .ref p ∧ Rdr C A H p t n ds ∧
  (match ds[n]? with | some (.str z) => (∀ l, H l = none → Q (.ref l) (upd H l (.lst ((wrds z).map S)))) | _ => Bl E H CB n 0)
theorem ok_Lines_words (T : Txt K mg C_GlimError C_BadRound C_BadText C_BadLine C_BadSignal C_BadMessage C_TooLong C_Lines C_Signals C_dt_Signals___init__) : MOK P w K mg base (L2.CX P w) 3 C_Lines "words" ["self"] [] (sp1  (p_words C_Lines C_BadLine)) := by
  refine MOK.mkX (k := 2) T.m_Lines_words sc_Lines_words len1 fun f cdv A outer s H vs Q E hr h => ?_
  obtain ⟨x, rfl, h⟩ := h
  refine ⟨_, (pss_cons (ps_if (pw_or (pt_cmpR op_geP (peFld K (pv 0)) (pe_callB (cLen K) (by rfl) T.b_len (by decide +kernel) (pa_cons (peFld K (pv 0)) pa_nil)) (nomark _)) (pw_or1 (pt_not (pt_val (pe_callB (cIsi K) (by rfl) T.b_isinstance (by decide +kernel) (pa_cons (pe_ix (ixK K) (peFld K (pv 0)) (peFld K (pv 0)) (fun _ _ => rfl)) (pa_cons (pe_bltn (v := .ty "str") (by rfl) T.b_str (by decide +kernel) rfl) pa_nil))))))).pt (pss_one (ps_raiseP rfl (takes_of rfl rfl rfl rfl) (pmk_E2 (k := 0) (okx_BadLine T) (hr.mono (by decide)) (pa_cons (peFld K (pv 0)) (pa_cons pe_int pa_nil))))) pss_nil) (pss_one (ps_ret (peSplit K (pe_ix (ixK K) (peFld K (pv 0)) (peFld K (pv 0)) (fun _ _ => rfl)) (pa_cons (pe_S [32]) pa_nil))))), ?_⟩
  show (_ : TS) { nx := fun _ H' => Q .non H', rt := Q } [some x] H
  obtain ⟨A0, p, t, n, ds, rfl, ⟨sa, tx, dx, ob⟩, q⟩ := h
  obtain ⟨t', xs, e, hH, hl, al⟩ := tx.tupled
  cases e
  have ll := al.len
  have now : ∀ {P : V → Prop}, P (.int (n : Int)) → _ := fun {P} k => i_fld (P := P) ob T.cl_Lines T.na_Lines_now (LF_now t n) k
  have txt : ∀ {P : V → Prop}, P (.ref t) → _ := fun {P} k => i_fld (P := P) ob T.cl_Lines T.na_Lines_texts (LF_texts t n) k
  walk_at "go"
  refine now ?_
  walk_at "go"
  refine txt ?_
  walk_at "go"
  refine i_len_tup (.inl (.inl (sa _ _ hH))) ?_
  walk_at "go"
  refine i_dec (fun e => ?_) (fun e => ?_)
  · rw [List.getElem?_eq_none (by omega)] at q
    walk_at "go"
    refine now ?_
    walk_at "go"
    intro dd nd
    exact Bl.at q nd
  have hn : n < ds.length := by omega
  have hd : ds[n]? = some ds[n] := List.getElem?_eq_getElem hn
  obtain ⟨v, hv, av⟩ := al.at hd
  rw [hd] at q
  have av := av.same sa
  generalize ds[n] = d at *
  have ix : ∀ {R : VK}, R v H → ixP K (.ref t) (.int (n : Int)) H R := fun k => i_ix_tup (.inl (.inl (sa _ _ hH))) (atI_nat hv) k
  walk_at "go"
  refine txt ?_
  walk_at "go"
  refine now ?_
  walk_at "go"
  refine ix ?_
  walk_at "go"
  cases es : isStrD d with
  | false =>
    refine i_isiStr false av es ?_
    walk_at "go"
    refine now ?_
    walk_at "go"
    intro dd nd
    have q' : Bl E H C_BadLine n 0 := by
      cases d <;> first
        | exact q
        | cases es
    exact Bl.at q' nd
  | true =>
    obtain ⟨z, rfl⟩ : ∃ z, d = .str z := by
      cases d <;> first
        | exact ⟨_, rfl⟩
        | cases es
    refine i_isiStr true av rfl ?_
    walk_at "go"
    refine txt ?_
    walk_at "go"
    refine now ?_
    walk_at "go"
    refine ix ?_
    walk_at "go"
    obtain ⟨l, rfl, rfl, hl0⟩ := av.strl
    refine ⟨rfl, ?_⟩
    walk_at "go"
    refine ⟨⟨l.toArray⟩, ⟨#[32]⟩, rfl, rfl, rfl, ?_, ?_⟩
    · rw [str_len]
      exact Nat.le_trans (show l.length + 2 ≤ 100000 by omega) (by decide)
    · intro pp np
      rw [words_V]
      exact q pp np
end
/-- the word at place k of line n, or what is told of it -/
def wd (ds : List PyData) (n k : Nat) : List Nat ⊕ Nat := match ds[n]? with
  | some (.str z) => if k < (wrds z).length then .inl ((wrds z).getD k []) else .inr (wrds z).length
  | _ => .inr 0
theorem line_len {A : Hp} {t : Addr} {ds : List PyData} {n : Nat} {z : Str} (h : At A (.ref t) (.tuple ds)) (e : ds[n]? = some (.str z)) : z.length ≤ 10000 := by
  obtain ⟨_, xs, _, _, _, al⟩ := h.tupled
  obtain ⟨v, _, av⟩ := al.at e
  obtain ⟨l, _, rfl, hl⟩ := av.strl
  rw [str_len]; exact hl
theorem wd_len {A : Hp} {t : Addr} {ds : List PyData} {n k : Nat} {w : List Nat} (h : At A (.ref t) (.tuple ds)) (e : wd ds n k = .inl w) : w.length ≤ 10000 := by
  unfold wd at e
  split at e
  · rename_i z ez
    split at e
    · rename_i hk
      have hz := line_len h ez
      have e2 : (wrds z).getD k [] = w := by injection e
      rw [List.getD_eq_getElem?_getD, List.getElem?_eq_getElem hk] at e2
      have := words_len (x := z) (w := w) (by rw [← e2]; exact List.getElem_mem hk)
      omega
    · cases e
  · cases e
def seqOf : PyData → Option (List PyData)
  | .list ds => some ds
  | .tuple ds => some ds
  | _ => none
section
variable {P : Program} {w : World} {K : PySem.W.Frag} {mg : Str → Option Value} {base : Heap} {C_GlimError C_BadRound C_BadText C_BadLine C_BadSignal C_BadMessage C_TooLong C_Lines C_Signals C_dt_Signals___init__ : Addr}
def p_word_at (C CB : Addr) : P2 := fun x y H Q E => ∃ A p t n ds, ∃ k : Nat, x = .ref p ∧ y = .int (k : Int) ∧ Rdr C A H p t n ds ∧
  (match wd ds n k with | .inl w => ∀ H', Same H H' → Q (S w) H' | .inr e => Bl E H CB n e)
theorem ok_Lines_word_at (T : Txt K mg C_GlimError C_BadRound C_BadText C_BadLine C_BadSignal C_BadMessage C_TooLong C_Lines C_Signals C_dt_Signals___init__) : MOK P w K mg base (L2.CX P w) 4 C_Lines "word_at" ["self", "number"] [] (sp2  (p_word_at C_Lines C_BadLine)) := by
  refine MOK.mkX (k := 3) T.m_Lines_word_at sc_Lines_word_at len2 fun f cdv A outer s H vs Q E hr h => ?_
  obtain ⟨x, y, rfl, h⟩ := h
  refine ⟨_, (pss_cons (ps_set (i := 2) sc_Lines_word_at.nd rfl (Or.inl rfl) (pe_m0 (pv 0) T.cl_Lines (ok_Lines_words (K := K) T) (hr.mono (by decide)) (passes_call (takes_of rfl rfl rfl rfl) (fun _ _ _ _ h => h)))) (pss_cons (ps_if (pt_cmpR op_geP (pv 1) (pe_callB (cLen K) (by rfl) T.b_len (by decide +kernel) (pa_cons (pv 2) pa_nil)) (nomark _)) (pss_one (ps_raiseP rfl (takes_of rfl rfl rfl rfl) (pmk_E2 (k := 0) (okx_BadLine T) (hr.mono (by decide)) (pa_cons (peFld K (pv 0)) (pa_cons (pe_callB (cLen K) (by rfl) T.b_len (by decide +kernel) (pa_cons (pv 2) pa_nil)) pa_nil))))) pss_nil) (pss_one (ps_ret (pe_ix (ixK K) (pv 2) (pv 1) (fun _ _ => rfl)))))), ?_⟩
  show (_ : TS) { nx := fun _ H' => Q .non H', rt := Q } [some x, some y, none] H
  obtain ⟨A0, p, t, n, ds, k, rfl, rfl, R, q⟩ := h
  obtain ⟨sa, tx, dx, ob⟩ := id R
  unfold wd at q
  walk_at "go"
  refine i_self ob (LF_no t n (by decide +kernel) (by decide +kernel)) ?_
  walk_at "go"
  refine ⟨A0, p, t, n, ds, rfl, R, ?_⟩
  cases e : ds[n]? with
  | none => rw [e] at q; exact q
  | some d =>
  rw [e] at q
  cases d with
  | str z =>
    intro l nl
    have s1 : Same H (upd H l (.lst ((wrds z).map S))) := same_upd nl
    have zl := line_len tx e
    have wm := words_many z
    walk_at "go"
    refine i_len_lst (.inl (.inl upd_same)) ?_
    walk_at "go"
    rw [List.length_map]
    change (match (if k < (wrds z).length then Sum.inl ((wrds z).getD k []) else Sum.inr (wrds z).length) with | .inl w => ∀ H', Same H H' → Q (S w) H' | .inr e => Bl E H C_BadLine n e) at q
    refine i_dec (fun e1 => ?_) (fun e1 => ?_)
    · rw [if_neg (by omega)] at q
      walk_at "go"
      refine i_fld (s1 _ _ ob) T.cl_Lines T.na_Lines_now (LF_now t n) ?_
      walk_at "go"
      refine i_len_lst (.inl (.inl upd_same)) ?_
      walk_at "go"
      rw [List.length_map]
      intro dd nd
      exact Bl.at (q.mono s1) nd
    · have hk : k < (wrds z).length := by omega
      rw [if_pos hk] at q
      walk_at "go"
      refine i_ix_lst (v := S ((wrds z).getD k [])) (.inl (.inl upd_same)) (atI_nat ?_) ?_
      · rw [List.getElem?_map, List.getD_eq_getElem?_getD, List.getElem?_eq_getElem hk]
        rfl
      · exact q _ s1
  | _ => exact q
end
section
variable {P : Program} {w : World} {K : PySem.W.Frag} {mg : Str → Option Value} {base : Heap} {C_GlimError C_BadRound C_BadText C_BadLine C_BadSignal C_BadMessage C_TooLong C_Lines C_Signals C_dt_Signals___init__ : Addr}
def p_close (C CB : Addr) : P2 := fun x y H Q E => ∃ A p t n ds dx z, ∃ k : Nat, x = .ref p ∧ y = .int (k : Int) ∧ Same A H ∧ At A (.ref t) (.tuple ds) ∧ H p = some (.ins C dx (LF t n)) ∧ ds[n]? = some (.str z) ∧
  (if k < (wrds z).length then Bl E H CB n k else ∀ H', But p H H' → H' p = some (.ins C dx (LF t (n + 1))) → Q .non H')
theorem ok_Lines_close_at (T : Txt K mg C_GlimError C_BadRound C_BadText C_BadLine C_BadSignal C_BadMessage C_TooLong C_Lines C_Signals C_dt_Signals___init__) : MOK P w K mg base (L2.CX P w) 4 C_Lines "close_at" ["self", "number"] [] (sp2  (p_close C_Lines C_BadLine)) := by
  refine MOK.mkX (k := 3) T.m_Lines_close_at sc_Lines_close_at len2 fun f cdv A outer s H vs Q E hr h => ?_
  obtain ⟨x, y, rfl, h⟩ := h
  refine ⟨_, (pss_cons (ps_if (pt_cmpR op_gtP (pe_callB (cLen K) (by rfl) T.b_len (by decide +kernel) (pa_cons (pe_m0 (pv 0) T.cl_Lines (ok_Lines_words (K := K) T) (hr.mono (by decide)) (passes_call (takes_of rfl rfl rfl rfl) (fun _ _ _ _ h => h))) pa_nil)) (pv 1) (nomark _)) (pss_one (ps_raiseP rfl (takes_of rfl rfl rfl rfl) (pmk_E2 (k := 0) (okx_BadLine T) (hr.mono (by decide)) (pa_cons (peFld K (pv 0)) (pa_cons (pv 1) pa_nil))))) pss_nil) (pss_one (psFldAug K (pv 0) pe_int in_add))), ?_⟩
  show (_ : TS) { nx := fun _ H' => Q .non H', rt := Q } [some x, some y] H
  obtain ⟨A0, p, t, n, ds, dx, z, k, rfl, rfl, sa, tx, ob, e, q⟩ := h
  have R : Rdr C_Lines A0 H p t n ds := ⟨sa, tx, dx, ob⟩
  have zl := line_len tx e
  have wm := words_many z
  walk_at "go"
  refine i_self ob (LF_no t n (by decide +kernel) (by decide +kernel)) ?_
  walk_at "go"
  refine ⟨A0, p, t, n, ds, rfl, R, ?_⟩
  rw [e]
  intro l nl
  have s1 : Same H (upd H l (.lst ((wrds z).map S))) := same_upd nl
  have ob1 := s1 _ _ ob
  walk_at "go"
  refine i_len_lst (.inl (.inl upd_same)) ?_
  walk_at "go"
  rw [List.length_map]
  refine i_dec (fun e1 => ?_) (fun e1 => ?_)
  · rw [if_pos (by omega)] at q
    walk_at "go"
    refine i_fld ob1 T.cl_Lines T.na_Lines_now (LF_now t n) ?_
    walk_at "go"
    intro dd nd
    exact Bl.at (q.mono s1) nd
  · rw [if_neg (by omega)] at q
    walk_at "go"
    refine ⟨_, rfl, p, C_Lines, dx, _, _, rfl, ob1, T.cl_Lines, T.na_Lines_now, LF_now t n, _, _, rfl, rfl, dx, _, ob1, by rw [LF_eq]; show 2 < 1000; decide, ?_⟩
    have e2 : putF "now" (V.int ((n : Int) + 1)) (LF t n) = LF t (n + 1) := by
      have := LF_put t n (n + 1)
      rw [← this]
      rfl
    rw [e2]
    exact q _ ((But.of s1).trans But.put) upd_same
def p_linit (C CB : Addr) : P3 := fun x y z H Q E => ∃ A p dx d, x = .ref p ∧ z = .int 0 ∧ Same A H ∧ A p = none ∧ H p = some (.ins C dx []) ∧ At A y d ∧
  (match seqOf d with
    | none => Bl E H CB 0 0
    | some ds => ∀ A' H' t, Same A A' → Same A' H' → But p H H' → (∀ b, A b = none → A' b ≠ none → H b = none) → H' p = some (.ins C dx (LF t 0)) → At A' (.ref t) (.tuple ds) → Q .non H')
theorem ok_Lines___init__ (T : Txt K mg C_GlimError C_BadRound C_BadText C_BadLine C_BadSignal C_BadMessage C_TooLong C_Lines C_Signals C_dt_Signals___init__) : MkOK P w K mg base (L2.CX P w) 3 "Lines" C_Lines ["self", "texts", "at"] [.int (0)] (sp3  (p_linit C_Lines C_BadLine)) := by
  refine MkOK.mkX (k := 2) T.m_Lines___init__ sc_Lines___init__ len3 fun f cdv A outer s H vs Q E hr h => ?_
  obtain ⟨x, y, z, rfl, h⟩ := h
  refine ⟨_, (pss_cons (ps_if (pt_not (pt_val (pe_callB (cIsiT K) (by rfl) T.b_isinstance (by decide +kernel) (pa_cons (pv 1) (pa_cons (pe_tup (pa_cons (pe_bltn (v := .ty "list") (by rfl) T.b_list (by decide +kernel) rfl) (pa_cons (pe_bltn (v := .ty "tuple") (by rfl) T.b_tuple (by decide +kernel) rfl) pa_nil))) pa_nil))))) (pss_one (ps_raiseP rfl (takes_of rfl rfl rfl rfl) (pmk_E2 (k := 0) (okx_BadLine T) (hr.mono (by decide)) (pa_cons pe_int (pa_cons pe_int pa_nil))))) pss_nil) (pss_cons (psFld K (pv 0) (pe_callTy (cTup K) (by rfl) T.b_tuple (by decide +kernel) (pa_cons (pv 1) pa_nil))) (pss_one (psFld K (pv 0) (pv 2))))), ?_⟩
  show (_ : TS) { nx := fun _ H' => Q .non H', rt := Q } [some x, some y, some z] H
  obtain ⟨A0, p, dx, d, rfl, rfl, sa, np, ob, hd, q⟩ := h
  walk_at "go"
  refine i_new (by show 2 ≤ 100000; omega) fun tp ntp => ?_
  have s1 : Same H (upd H tp (.tup [.ty "list", .ty "tuple"])) := same_upd ntp
  have ob1 := s1 _ _ ob
  have fin : ∀ (A' H2 : Hp) (t : Addr) (ds : List PyData), seqOf d = some ds → Same A0 A' → Same A' H2 → Same H H2 → A' p = none → (∀ b, A0 b = none → A' b ≠ none → H b = none) → At A' (.ref t) (.tuple ds) →
      Q .non (upd (upd H2 p (.ins C_Lines dx (putF "texts" (.ref t) []))) p (.ins C_Lines dx (putF "now" (.int 0) (putF "texts" (.ref t) [])))) := fun A' H2 t ds e sA s2 s3 n2 nw at2 => by
    rw [e] at q
    refine q A' _ t sA (fun b o eb => ?_) (fun b o nb eb => ?_) nw upd_same at2
    · have nb := ne_of_none eb n2
      rw [upd_ne nb, upd_ne nb]; exact s2 b o eb
    · rw [upd_ne nb, upd_ne nb]; exact s3 b o eb
  walk_at "go"
  cases es : isSeqD d with
  | false =>
    refine i_isiSeq false ((hd.same sa).same s1) upd_same es ?_
    walk_at "go"
    intro dd nd
    have q' : Bl E H C_BadLine 0 0 := by
      cases d <;> first
        | exact q
        | cases es
    exact Bl.at (q'.mono s1) nd
  | true =>
    refine i_isiSeq true ((hd.same sa).same s1) upd_same es ?_
    walk_at "go"
    cases d
    case list ds =>
      obtain ⟨a, xs, rfl, hH, hl, al⟩ := hd.listed
      refine i_tuple_lst (.inl (.inl (s1 _ _ (sa _ _ hH)))) fun t nt => ?_
      have s2 := s1.trans (same_upd (o := .tup xs) nt)
      have nat0 : A0 t = none := sa.free (s1.free nt)
      have ob2 := s2 _ _ ob
      walk_at "go"
      refine i_put ob2 T.cl_Lines T.na_Lines_texts (by show 0 < 1000; decide) ?_
      walk_at "go"
      refine i_put upd_same T.cl_Lines T.na_Lines_now (by show 1 < 1000; decide) ?_
      refine fin (upd A0 t (.tup xs)) _ t ds rfl (same_upd nat0) (fun b o eb => ?_) s2 ?_ (fun b h1 h2 => ?_) (At.mkTup upd_same (al.same (same_upd nat0)) (by rw [← al.len]; exact hl))
      · by_cases hb : b = t
        · rw [hb, upd_same] at eb
          rw [hb, upd_same]; exact eb
        · rw [upd_ne hb] at eb
          rw [upd_ne hb]; exact s1 _ _ (sa _ _ eb)
      · have : p ≠ t := ne_of_none (s1 _ _ ob) nt
        rw [upd_ne this]; exact np
      · by_cases hb : b = t
        · rw [hb]; exact s1.free nt
        · rw [upd_ne hb] at h2
          exact absurd h1 h2
    case tuple ds =>
      obtain ⟨a, xs, rfl, hH, hl, al⟩ := hd.tupled
      refine ⟨a, xs, rfl, .inr ⟨.inl (.inl (s1 _ _ (sa _ _ hH))), ?_⟩⟩
      walk_at "go"
      refine i_put ob1 T.cl_Lines T.na_Lines_texts (by show 0 < 1000; decide) ?_
      walk_at "go"
      refine i_put upd_same T.cl_Lines T.na_Lines_now (by show 1 < 1000; decide) ?_
      exact fin A0 _ a ds rfl (Same.refl _) (sa.trans s1) s1 np (fun b h1 h2 => absurd h1 h2) hd
    all_goals cases es
end
/-- the round that a text stands for, if it does -/
def rdP (w : List Nat) : Option (List Nat) := match rd w 6 0 with
  | .error _ => none
  | .ok (s, e) => if e < w.length then none else if 24 < s.1 then none else some s.2
section
variable {P : Program} {w : World} {K : PySem.W.Frag} {mg : Str → Option Value} {base : Heap} {C_GlimError C_BadRound C_BadText C_BadLine C_BadSignal C_BadMessage C_TooLong C_Lines C_Signals C_dt_Signals___init__ : Addr}
def p_letter_at (C CB : Addr) : P2 := fun x y H Q E => ∃ A p t n ds, ∃ k : Nat, x = .ref p ∧ y = .int (k : Int) ∧ Rdr C A H p t n ds ∧
  (match wd ds n k with | .inl w => if letL w = true then ∀ H', Same H H' → Q (S w) H' else Bl E H CB n k | .inr e => Bl E H CB n e)
theorem ok_Lines_letter_at (T : Txt K mg C_GlimError C_BadRound C_BadText C_BadLine C_BadSignal C_BadMessage C_TooLong C_Lines C_Signals C_dt_Signals___init__) : MOK P w K mg base (L2.CX P w) 5 C_Lines "letter_at" ["self", "number"] [] (sp2  (p_letter_at C_Lines C_BadLine)) := by
  refine MOK.mkX (k := 4) T.m_Lines_letter_at sc_Lines_letter_at len2 fun f cdv A outer s H vs Q E hr h => ?_
  obtain ⟨x, y, rfl, h⟩ := h
  refine ⟨_, (pss_cons (ps_set (i := 2) sc_Lines_letter_at.nd rfl (Or.inl rfl) (pe_m (pv 0) T.cl_Lines (ok_Lines_word_at (K := K) T) (hr.mono (by decide)) (passes_call (takes_of rfl rfl rfl rfl) (fun _ _ _ _ h => h)) (pa_cons (pv 1) pa_nil))) (pss_cons (ps_if (pt_not (pt_val (pe_f (ok_is_letter (K := K) T) (hr.mono (by decide)) pass0 (pa_cons (pv 2) pa_nil)))) (pss_one (ps_raiseP rfl (takes_of rfl rfl rfl rfl) (pmk_E2 (k := 0) (okx_BadLine T) (hr.mono (by decide)) (pa_cons (peFld K (pv 0)) (pa_cons (pv 1) pa_nil))))) pss_nil) (pss_one (ps_ret (pv 2))))), ?_⟩
  show (_ : TS) { nx := fun _ H' => Q .non H', rt := Q } [some x, some y, none] H
  obtain ⟨A0, p, t, n, ds, k, rfl, rfl, R, q⟩ := h
  obtain ⟨sa, tx, dx, ob⟩ := id R
  walk_at "go"
  refine i_self ob (LF_no t n (by decide +kernel) (by decide +kernel)) ?_
  walk_at "go"
  refine ⟨A0, p, t, n, ds, k, rfl, rfl, R, ?_⟩
  cases e : wd ds n k with
  | inr e1 => rw [e] at q; exact q
  | inl w =>
  rw [e] at q
  have wl := wd_len tx e
  have q : if letL w = true then ∀ H', Same H H' → Q (S w) H' else Bl E H C_BadLine n k := q
  intro H1 s1
  walk_at "go"
  refine ⟨dS w, .str _ wl, ?_⟩
  change ∃ c, V.bl (letL w) = .bl c ∧ _
  refine ⟨_, rfl, ?_⟩
  cases es : letL w with
  | true =>
    rw [es, if_pos rfl] at q
    walk_at "go"
    exact q _ s1
  | false =>
    rw [es, if_neg (by decide)] at q
    walk_at "go"
    refine i_fld (s1 _ _ ob) T.cl_Lines T.na_Lines_now (LF_now t n) ?_
    walk_at "go"
    intro dd nd
    exact Bl.at (q.mono s1) nd
def p_row_at (C CB : Addr) : P4 := fun x y z u H Q E => ∃ A p t n ds, ∃ k : Nat, x = .ref p ∧ y = .int (k : Int) ∧ z = .int 1 ∧ u = .int 12 ∧ Rdr C A H p t n ds ∧
  (match wd ds n k with | .inl w => if rowL 12 w = true ∧ 1 ≤ w.length then ∀ H', Same H H' → Q (S w) H' else Bl E H CB n k | .inr e => Bl E H CB n e)
theorem ok_Lines_row_at (T : Txt K mg C_GlimError C_BadRound C_BadText C_BadLine C_BadSignal C_BadMessage C_TooLong C_Lines C_Signals C_dt_Signals___init__) : MOK P w K mg base (L2.CX P w) 5 C_Lines "row_at" ["self", "number", "low", "high"] [] (sp4  (p_row_at C_Lines C_BadLine)) := by
  refine MOK.mkX (k := 4) T.m_Lines_row_at sc_Lines_row_at len4 fun f cdv A outer s H vs Q E hr h => ?_
  obtain ⟨x, y, z, u, rfl, h⟩ := h
  refine ⟨_, (pss_cons (ps_set (i := 4) sc_Lines_row_at.nd rfl (Or.inl rfl) (pe_m (pv 0) T.cl_Lines (ok_Lines_word_at (K := K) T) (hr.mono (by decide)) (passes_call (takes_of rfl rfl rfl rfl) (fun _ _ _ _ h => h)) (pa_cons (pv 1) pa_nil))) (pss_cons (ps_if (pw_or (pt_not (pt_val (pe_f (ok_is_row (K := K) T) (hr.mono (by decide)) pass0 (pa_cons (pv 4) (pa_cons (pv 3) pa_nil))))) (pw_or1 (pt_cmpR op_ltP (pe_callB (cLen K) (by rfl) T.b_len (by decide +kernel) (pa_cons (pv 4) pa_nil)) (pv 2) (nomark _)))).pt (pss_one (ps_raiseP rfl (takes_of rfl rfl rfl rfl) (pmk_E2 (k := 0) (okx_BadLine T) (hr.mono (by decide)) (pa_cons (peFld K (pv 0)) (pa_cons (pv 1) pa_nil))))) pss_nil) (pss_one (ps_ret (pv 4))))), ?_⟩
  show (_ : TS) { nx := fun _ H' => Q .non H', rt := Q } [some x, some y, some z, some u, none] H
  obtain ⟨A0, p, t, n, ds, k, rfl, rfl, rfl, rfl, R, q⟩ := h
  obtain ⟨sa, tx, dx, ob⟩ := id R
  walk_at "go"
  refine i_self ob (LF_no t n (by decide +kernel) (by decide +kernel)) ?_
  walk_at "go"
  refine ⟨A0, p, t, n, ds, k, rfl, rfl, R, ?_⟩
  cases e : wd ds n k with
  | inr e1 => rw [e] at q; exact q
  | inl w =>
  rw [e] at q
  have wl := wd_len tx e
  have q : if rowL 12 w = true ∧ 1 ≤ w.length then ∀ H', Same H H' → Q (S w) H' else Bl E H C_BadLine n k := q
  intro H1 s1
  have bad : ∀ {G : Hp}, Same H G → ¬ (rowL 12 w = true ∧ 1 ≤ w.length) → ∀ dd, G dd = none → E (.ref C_BadLine) (some dd) (upd G dd (.xd [("word", .int (k : Int)), ("line", .int (n : Int))])) := fun s hn dd nd => by
    rw [if_neg hn] at q
    exact Bl.at (q.mono s) nd
  walk_at "go"
  refine ⟨dS w, 12, .str _ wl, rfl, fun H2 s2 => ?_⟩
  have s12 := s1.trans s2
  change ∃ c, V.bl (rowL 12 w) = .bl c ∧ _
  refine ⟨_, rfl, ?_⟩
  cases es : rowL 12 w with
  | false =>
    walk_at "go"
    refine i_fld (s12 _ _ ob) T.cl_Lines T.na_Lines_now (LF_now t n) ?_
    walk_at "go"
    exact bad s12 (fun z => by rw [es] at z; cases z.1)
  | true =>
    walk_at "go"
    refine i_dec (fun e1 => ?_) (fun e1 => ?_)
    · walk_at "go"
      refine i_fld (s12 _ _ ob) T.cl_Lines T.na_Lines_now (LF_now t n) ?_
      walk_at "go"
      exact bad s12 (fun z => by omega)
    · rw [es, if_pos ⟨rfl, by omega⟩] at q
      walk_at "go"
      exact q _ s12
def p_want (C CB : Addr) : P2 := fun x y H Q E => ∃ A p t n ds l, x = .ref p ∧ y = S l ∧ Rdr C A H p t n ds ∧
  (match ds[n]? with | some (.str z) => if (wrds z).getD 0 [] = l then ∀ H', Same H H' → Q .non H' else Bl E H CB n 0 | _ => Bl E H CB n 0)
theorem ok_Lines_want (T : Txt K mg C_GlimError C_BadRound C_BadText C_BadLine C_BadSignal C_BadMessage C_TooLong C_Lines C_Signals C_dt_Signals___init__) : MOK P w K mg base (L2.CX P w) 4 C_Lines "want" ["self", "word"] [] (sp2  (p_want C_Lines C_BadLine)) := by
  refine MOK.mkX (k := 3) T.m_Lines_want sc_Lines_want len2 fun f cdv A outer s H vs Q E hr h => ?_
  obtain ⟨x, y, rfl, h⟩ := h
  refine ⟨_, (pss_one (ps_if (pt_cmpR (opNe K hr.units) (pe_ix (ixK K) (pe_m0 (pv 0) T.cl_Lines (ok_Lines_words (K := K) T) (hr.mono (by decide)) (passes_call (takes_of rfl rfl rfl rfl) (fun _ _ _ _ h => h))) pe_int (fun _ _ => rfl)) (pv 1) (nomark _)) (pss_one (ps_raiseP rfl (takes_of rfl rfl rfl rfl) (pmk_E2 (k := 0) (okx_BadLine T) (hr.mono (by decide)) (pa_cons (peFld K (pv 0)) (pa_cons pe_int pa_nil))))) pss_nil)), ?_⟩
  show (_ : TS) { nx := fun _ H' => Q .non H', rt := Q } [some x, some y] H
  obtain ⟨A0, p, t, n, ds, l, rfl, rfl, R, q⟩ := h
  obtain ⟨sa, tx, dx, ob⟩ := id R
  walk_at "go"
  refine i_self ob (LF_no t n (by decide +kernel) (by decide +kernel)) ?_
  walk_at "go"
  refine ⟨A0, p, t, n, ds, rfl, R, ?_⟩
  cases e : ds[n]? with
  | none => rw [e] at q; exact q
  | some d =>
  rw [e] at q
  cases d with
  | str z =>
    have q : if (wrds z).getD 0 [] = l then ∀ H', Same H H' → Q .non H' else Bl E H C_BadLine n 0 := q
    intro r nr
    have hw := words_pos z
    walk_at "go"
    refine i_ix_lst (v := S ((wrds z).getD 0 [])) (.inl (.inl upd_same)) (atI_int (by decide) ?_) ?_
    · show ((wrds z).map S)[0]? = _
      rw [List.getElem?_map, List.getD_eq_getElem?_getD, List.getElem?_eq_getElem (by omega)]
      rfl
    have s1 : Same H (upd H r (.lst ((wrds z).map S))) := same_upd nr
    walk_at "go"
    refine i_decN (fun e1 => ?_) (fun e1 => ?_)
    · rw [if_neg e1] at q
      walk_at "go"
      refine i_fld (s1 _ _ ob) T.cl_Lines T.na_Lines_now (LF_now t n) ?_
      walk_at "go"
      intro dd nd
      exact Bl.at (q.mono s1) nd
    · rw [if_pos e1] at q
      walk_at "go"
      exact q _ s1
  | _ => exact q
def p_round_at (C CB : Addr) : P2 := fun x y H Q E => ∃ A p t n ds, ∃ k : Nat, x = .ref p ∧ y = .int (k : Int) ∧ Rdr C A H p t n ds ∧ (∀ w, wd ds n k = .inl w → w.length ≤ 1700) ∧
  (match wd ds n k with | .inl w => (match rdP w with | some r => ∀ H', Same H H' → Q (S r) H' | none => Bl E H CB n k) | .inr e => Bl E H CB n e)
theorem ok_Lines_round_at (T : Txt K mg C_GlimError C_BadRound C_BadText C_BadLine C_BadSignal C_BadMessage C_TooLong C_Lines C_Signals C_dt_Signals___init__) : MOK P w K mg base (L2.CX P w) 26 C_Lines "round_at" ["self", "number"] [] (sp2  (p_round_at C_Lines C_BadLine)) := by
  refine MOK.mkX (k := 25) T.m_Lines_round_at sc_Lines_round_at len2 fun f cdv A outer s H vs Q E hr h => ?_
  obtain ⟨x, y, rfl, h⟩ := h
  refine ⟨_, (pss_cons (ps_set (i := 2) sc_Lines_round_at.nd rfl (Or.inl rfl) (pe_m (pv 0) T.cl_Lines (ok_Lines_word_at (K := K) T) (hr.mono (by decide)) (passes_call (takes_of rfl rfl rfl rfl) (fun _ _ _ _ h => h)) (pa_cons (pv 1) pa_nil))) (pss_one (Fg.ps_try_tupAsX (i := 3) rfl rfl rfl sc_Lines_round_at.nd rfl rfl rfl rfl T.c_BadText rfl rfl T.c_TooLong (fun v => L2H.passesAt_of rfl v) (takes_of rfl rfl rfl rfl) (fun W pn xe tk _ => (pss_one (ps_ret (pe_fS (ok_read_round (K := K) T) (hr.mono (by decide)) (fun σ => L2N.passAt tk σ) (pa_cons (pv 2) pa_nil))))) (fun a oe cls d pn xe zn fl tk hot => pss_one (Fg.ps_raiseHK (i := 3) K rfl List.mem_cons_self zn fl tk (Fg.pmk_E2H (k := 0) (okxH_BadLine T) (L2H.roomH_mark (hr.mono (by decide)) _) hot (pa_cons (peFld K (pv 0)) (pa_cons (pv 1) pa_nil))) rfl rfl rfl))))), ?_⟩
  show (_ : TS) { nx := fun _ H' => Q .non H', rt := Q } [some x, some y, none, none] H
  obtain ⟨A0, p, t, n, ds, k, rfl, rfl, R, hl, q⟩ := h
  obtain ⟨sa, tx, dx, ob⟩ := id R
  walk_at "go"
  refine i_self ob (LF_no t n (by decide +kernel) (by decide +kernel)) ?_
  walk_at "go"
  refine ⟨A0, p, t, n, ds, k, rfl, rfl, R, ?_⟩
  cases e : wd ds n k with
  | inr e1 => rw [e] at q; exact q
  | inl w =>
  rw [e] at q
  have wl := hl w e
  intro H1 s1
  have bad : rdP w = none → ∀ (C : Addr) (f : Str) (v : V) {D : Ends}, (C = C_BadText ∨ C = C_TooLong) → Rz (fun cls d H' => wTA K (.ref C_BadText) (.ref C_TooLong) 3
      (fun a cls d D τ G => RsK K cls ∧ τ[3]? = some (some (V.ref a)) ∧ tMkE2 C_BadLine "line" "word" (tCons (tFld K (tVar 0) "now") (tCons (tVar 1) tNil)) τ G fun cls d G' => E cls d G')
      (fun cls d τ G => E cls d G) D cls d [some (.ref p), some (.int (k : Int)), some (S w), none] H') H1 C f v := fun hn C f v D hC => by
    intro d H' nd s' e'
    have q : Bl E H C_BadLine n k := by
      have q2 : (match rdP w with | some r => ∀ H', Same H H' → Q (S r) H' | none => Bl E H C_BadLine n k) := q
      rw [hn] at q2
      exact q2
    have s2 := s1.trans s'
    refine ⟨true, ?_, fun _ a na => ?_, fun z => by cases z⟩
    · rcases hC with rfl | rfl
      · simp [PySem.W.exmAny, T.m_BadText_BadText, T.m_BadText_TooLong]
      · simp [PySem.W.exmAny, T.m_TooLong_BadText, T.m_TooLong_TooLong]
    · refine ⟨?_, rfl, ?_⟩
      · rcases hC with rfl | rfl
        · exact ⟨T.o_BadText.exC, T.o_BadText.tyC⟩
        · exact ⟨T.o_TooLong.exC, T.o_TooLong.tyC⟩
      · refine i_mkE2 ?_
        show (_ : TA) [some (.ref p), some (.int (k : Int)), some (S w), some (.ref a)] _ _
        walk_at "go"
        refine i_fld (s2 _ _ ob) T.cl_Lines T.na_Lines_now (LF_now t n) ?_
        walk_at "go"
        intro dd nd
        exact Bl.at (q.mono s2) nd
  walk_at "go"
  refine .inl ⟨w, rfl, wl, ?_⟩
  unfold OutR
  unfold rdP at bad
  have q : (match (match rd w 6 0 with | .error _ => none | .ok (s, e) => if e < w.length then none else if 24 < s.1 then none else some s.2 : Option (List Nat)) with | some r => ∀ H', Same H H' → Q (S r) H' | none => Bl E H C_BadLine n k) := q
  cases hr : rd w 6 0 with
  | error j =>
    rw [hr] at bad
    exact bad rfl C_BadText _ _ (.inl rfl)
  | ok se =>
    obtain ⟨s, e2⟩ := se
    rw [hr] at bad q
    dsimp only at bad q ⊢
    by_cases h1 : e2 < w.length
    · rw [if_pos h1] at bad ⊢
      exact bad rfl C_BadText _ _ (.inl rfl)
    rw [if_neg h1] at bad q ⊢
    by_cases h2 : 24 < s.1
    · rw [if_pos h2] at bad ⊢
      exact bad rfl C_TooLong _ _ (.inr rfl)
    rw [if_neg h2] at q ⊢
    intro H2 s2
    exact q _ (s1.trans s2)
end
abbrev cRnd : List Nat := [114, 111, 117, 110, 100]
abbrev cSig : List Nat := [115, 105, 103, 110, 97, 108]
noncomputable def rndL1 (pl : List Nat) : List Nat := cRnd ++ [32] ++ fC pl
def sigL1 (p : Nat × List Nat) : List Nat := cSig ++ [32] ++ [p.1] ++ [32] ++ p.2
noncomputable def linesD (pl : List Nat) (ps : Tb) : List PyData := dS (rndL1 pl) :: ps.map fun p => dS (sigL1 p)
theorem Hid.new1 {A G : Hp} {a : Addr} {zs : List V} {es : List PyData} (sa : Same A G) (n : G a = none) (al : AtAll A zs es) : Hid A G a es (upd G a (.lst zs)) := ⟨n, A, zs, (Ext.refl sa).hid n, sa.free n, upd_same, al⟩
section
variable {P : Program} {w : World} {K : PySem.W.Frag} {mg : Str → Option Value} {base : Heap} {C_GlimError C_BadRound C_BadText C_BadLine C_BadSignal C_BadMessage C_TooLong C_Lines C_Signals C_dt_Signals___init__ : Addr}
def p_write (C : Addr) : P1 := fun x H Q E => ∃ A a pl ps, Same A H ∧ x = .ref a ∧ Sg C H a pl ps ∧ IsRound pl ∧ ∀ A' H' v, Ext A H A' H' → At A' v (.tuple (linesD pl ps)) → Q v H'
theorem ok_write_signals (T : Txt K mg C_GlimError C_BadRound C_BadText C_BadLine C_BadSignal C_BadMessage C_TooLong C_Lines C_Signals C_dt_Signals___init__) : OK P w K mg base (L2.CX P w) 7 "write_signals" ["signals"] (sp1  (p_write C_Signals)) := by
  refine OK.mkX (k := 6) T.d_write_signals sc_write_signals len1 fun f cdv A outer s H vs Q E hr h => ?_
  obtain ⟨x, rfl, h⟩ := h
  refine ⟨_, (pss_cons (ps_set (i := 1) sc_write_signals.nd rfl (Or.inl rfl) (pe_lst (pa_cons (pe_op (opAdd K) (pe_S [114, 111, 117, 110, 100, 32]) (pe_f (ok_fold_round (K := K) T) (hr.mono (by decide)) (passes_call (takes_of rfl rfl rfl rfl) (fun _ _ _ _ h => h)) (pa_cons (peFld K (pv 0)) pa_nil))) pa_nil))) (pss_cons (ps_for (passes_of rfl) rfl (piAny K (peFld K (pv 0))) (pgTup (n := 2) K rfl (pgs_cons (pg_name (i := 2) sc_write_signals.nd rfl (Or.inl rfl)) (pgs_cons (pg_name (i := 3) sc_write_signals.nd rfl (Or.inl rfl)) pgs_nil))) (pss_one (ps_expr (peApp K (pv 1) (pa_cons (pe_op (opAdd K) (pe_op (opAdd K) (pe_op (opAdd K) (pe_S [115, 105, 103, 110, 97, 108, 32]) (pv 2)) (pe_S [32])) (pv 3)) pa_nil))))) (pss_one (ps_ret (pe_callTy (cTup K) (by rfl) T.b_tuple (by decide +kernel) (pa_cons (pv 1) pa_nil)))))), ?_⟩
  show (_ : TS) { nx := fun _ H' => Q .non H', rt := Q } [some x, none, none, none] H
  obtain ⟨A, a, pl, ps, sa, rfl, ⟨dx, t, d, sg⟩, hr, q⟩ := h
  have f1 := fC_len (p := pl) (List.length_pos_iff.mp hr.1)
  have p24 := hr.2.1
  walk_at "go"
  refine i_fld sg.ob T.cl_Signals T.na_Signals_plain (SF_pl ..) ?_
  walk_at "go"
  refine ⟨pl, rfl, hr, fun G1 s1 => ?_⟩
  walk_at "go"
  refine i_new (by show 1 ≤ 100000; omega) fun L nL => ?_
  have sg1 := sg.same s1
  have x0 : Ext A H A G1 := ⟨Same.refl _, sa.trans s1, s1, fun b h1 h2 => absurd h1 h2⟩
  have hid0 : Hid A G1 L [dS (rndL1 pl)] (upd G1 L (.lst [S (rndL1 pl)])) := Hid.new1 x0.ag nL (.one (.str _ (by unfold rndL1; simp only [List.length_append, List.length_cons, List.length_nil]; omega)))
  have sL : Same G1 (upd G1 L (.lst [S (rndL1 pl)])) := same_upd nL
  have s2 : Same H (upd G1 L (.lst [S (rndL1 pl)])) := s1.trans sL
  obtain ⟨_, xs, et, ht, htl, al⟩ := sg1.sg.tupled
  cases et
  have ln := al.len
  rw [List.length_map] at ln
  walk_at "go"
  refine i_fld (sL _ _ sg1.ob) T.cl_Signals T.na_Signals_signals (SF_si ..) ?_
  refine Fg.i_forT (xs := xs) (.inl (.inl (sL _ _ ht))) (fun i σ G => ∃ v2 v3, σ = [some (.ref a), some (.ref L), v2, v3] ∧ Hid A G1 L (dS (rndL1 pl) :: (ps.take i).map fun p => dS (sigL1 p)) G ∧ i ≤ ps.length)
    ⟨none, none, rfl, hid0, Nat.zero_le _⟩ (fun i σ' G _ p => ?_) ?_ ?_
  · obtain ⟨v2, v3, rfl, h, _⟩ := p
    obtain ⟨_, _, x, _⟩ := h.ex
    exact .inl (.inl (x.gg _ _ ht))
  · rintro i y σ G hy ⟨v2, v3, rfl, hid, hi⟩
    obtain ⟨A2, l, x2, eL, al2, ll, k⟩ := hid.op
    obtain ⟨e, he, ae⟩ := al.get hy
    obtain ⟨p, hp, rfl⟩ : ∃ p, ps[i]? = some p ∧ sgP p = e := by
      rw [List.getElem?_map] at he
      exact Option.map_eq_some_iff.mp he
    obtain ⟨c, zs, rfl, hc, _, az⟩ := (ae.same x2.gg).tupled
    cases az with
    | cons a0 az =>
    cases az with
    | cons a1 az =>
    cases az
    obtain ⟨l0, rfl, e0, _⟩ := a0.strl
    obtain ⟨l1, rfl, e1, _⟩ := a1.strl
    obtain rfl : [p.1] = l0 := by
      injection e0 with e0
      simpa using congrArg Array.toList e0
    obtain rfl : p.2 = l1 := by
      injection e1 with e1
      simpa using congrArg Array.toList e1
    have p12 := sg.lw p (List.mem_of_getElem? hp)
    have li := (List.getElem?_eq_some_iff.mp hp).1
    walk_at "go"
    refine i_appAt eL ?_
    walk_at "go"
    refine i_appEnd eL (by rw [ll, List.length_cons, List.length_map, List.length_take]; omega) ?_
    obtain ⟨_, _, k2⟩ := k _ _ (Ext.refl x2.ag)
    refine ⟨_, _, rfl, ?_, by omega⟩
    rw [List.take_succ, hp, List.map_append, ← List.cons_append]
    exact k2 _ _ (al2.app (.one (.str (sigL1 p) (by unfold sigL1; simp only [List.length_append, List.length_cons, List.length_nil]; omega))))
  · rintro σ G ⟨v2, v3, rfl, hid, hi⟩
    rw [ln, List.take_length] at hid
    obtain ⟨A2, l, x2, eL, eA, al2, _, ll⟩ := hid.cl x0.ag (by rw [List.length_cons, List.length_map]; have := sg.ls; omega)
    walk_at "go"
    refine i_tuple_lst (.inl (.inl eL)) fun tl ntl => ?_
    have na := x2.ag.free ntl
    exact q _ _ _ ((x0.trans x2).new ntl) (At.mkTup upd_same (al2.same (same_upd na)) (by unfold linesD; rw [List.length_cons, List.length_map]; have := sg.ls; omega))
end
def ShortL (d : PyData) : Prop := ∀ z, d = .str z → z.length ≤ 1700
def rndW (ws : List (List Nat)) : List Nat ⊕ Nat := if ws.getD 0 [] = cRnd then (if 1 < ws.length then (match rdP (ws.getD 1 []) with
    | some r => if 2 < ws.length then .inr 2 else .inl r
    | none => .inr 1) else .inr ws.length) else .inr 0
def lnRnd : PyData → List Nat ⊕ Nat
  | .str z => rndW (wrds z)
  | _ => .inr 0
def sigW (ws : List (List Nat)) : List PyData ⊕ Nat := if ws.getD 0 [] = cSig then (if 1 < ws.length then (if letL (ws.getD 1 []) = true then (if 2 < ws.length then
    (if rowL 12 (ws.getD 2 []) = true ∧ 1 ≤ (ws.getD 2 []).length then (if 3 < ws.length then .inr 3 else .inl [dS (ws.getD 1 []), dS (ws.getD 2 [])]) else .inr 2) else .inr ws.length) else .inr 1) else .inr ws.length) else .inr 0
def lnSig : PyData → List PyData ⊕ Nat
  | .str z => sigW (wrds z)
  | _ => .inr 0
inductive Rs
  | line (n k : Nat)
  | sig (k : Int)
  | good (pl : List Nat) (ws : List PyData)
def resW (pl : List Nat) (ws : List PyData) : Rs := match sgsD (.tuple ws) with
  | some k => .sig k
  | none => .good pl ws
def resB (pl : List Nat) : List PyData ⊕ (Nat × Nat) → Rs
  | .inr (n, k) => .line n k
  | .inl ws => resW pl ws
def resA : List PyData → Rs
  | [] => .line 0 0
  | d :: r => match lnRnd d with
    | .inr k => .line 0 k
    | .inl pl => resB pl (readAll lnSig r 1)
def resD (d : PyData) : Rs := match seqOf d with
  | none => .line 0 0
  | some ds => resA ds
theorem all_turn {R : List PyData ⊕ (Nat × Nat)} {ds ws es : List PyData} {n : Nat} {d : PyData} (h : R = comb ws (readAll lnSig (ds.drop n) n)) (hd : ds[n]? = some d) (e : lnSig d = .inl es) : R = comb (ws ++ [.tuple es]) (readAll lnSig (ds.drop (n + 1)) (n + 1)) := by
  obtain ⟨hn, e1⟩ := List.getElem?_eq_some_iff.mp hd
  rw [h, List.drop_eq_getElem_cons hn, e1]
  show comb ws (match lnSig d with | .inr e => .inr (n, e) | .inl es => match readAll lnSig (ds.drop (n + 1)) (n + 1) with | .inl ws => .inl (.tuple es :: ws) | .inr p => .inr p) = _
  rw [e]
  show comb ws (match readAll lnSig (ds.drop (n + 1)) (n + 1) with | .inl ws => .inl (.tuple es :: ws) | .inr p => .inr p) = _
  cases readAll lnSig (ds.drop (n + 1)) (n + 1) with
  | inl r => show Sum.inl _ = Sum.inl _; rw [List.append_assoc]; rfl
  | inr p => rfl
theorem all_bad {R : List PyData ⊕ (Nat × Nat)} {ds ws : List PyData} {n e : Nat} {d : PyData} (h : R = comb ws (readAll lnSig (ds.drop n) n)) (hd : ds[n]? = some d) (e1 : lnSig d = .inr e) : R = .inr (n, e) := by
  obtain ⟨hn, e2⟩ := List.getElem?_eq_some_iff.mp hd
  rw [h, List.drop_eq_getElem_cons hn, e2]
  show comb ws (match lnSig d with | .inr e => .inr (n, e) | .inl es => match readAll lnSig (ds.drop (n + 1)) (n + 1) with | .inl ws => .inl (.tuple es :: ws) | .inr p => .inr p) = _
  rw [e1]
  rfl
theorem sig_small {d : PyData} {es : List PyData} (h : lnSig d = .inl es) : (∃ l m, es = [dS l, dS m] ∧ l.length ≤ 1 ∧ m.length ≤ 12) := by
  cases d with
  | str z =>
    have h : sigW (wrds z) = .inl es := h
    unfold sigW at h
    split at h
    · split at h
      · split at h
        · rename_i hl
          split at h
          · split at h
            · rename_i hr
              split at h
              · cases h
              · cases h
                refine ⟨_, _, rfl, ?_, ?_⟩
                · unfold letL at hl
                  rw [Bool.and_eq_true, decide_eq_true_eq] at hl
                  omega
                · have := hr.1
                  unfold rowL at this
                  rw [Bool.and_eq_true, decide_eq_true_eq] at this
                  omega
            · cases h
          · cases h
        · cases h
      · cases h
    · cases h
  | _ => cases h
theorem dS_inj {l m : List Nat} (h : dS l = dS m) : l = m := by
  injection h with h
  exact List.toArray_inj (congrArg PySem.Str.cps h)
theorem sgT_inj : ∀ {ps qs : Tb}, sgT ps = sgT qs → ps = qs := by
  have key : ∀ ps qs : Tb, ps.map sgP = qs.map sgP → ps = qs := fun ps => by
    induction ps with
    | nil =>
      intro qs h
      cases qs with
      | nil => rfl
      | cons q r => cases h
    | cons p r ih =>
      intro qs h
      cases qs with
      | nil => cases h
      | cons q s =>
        rw [List.map_cons, List.map_cons] at h
        injection h with h1 h2
        injection h1 with h1
        injection h1 with h3 h4
        injection h4 with h5 _
        have e1 := dS_inj h3
        injection e1 with e1 _
        have e2 := dS_inj h5
        obtain ⟨p1, p2⟩ := p
        obtain ⟨q1, q2⟩ := q
        cases e1
        cases e2
        rw [ih s h2]
  intro ps qs h
  injection h with h
  exact key ps qs h
theorem deps_of {ds : List PyData} {n : Nat} (h : ∀ d ∈ ds, d.depth ≤ n) : PyData.depthAll ds ≤ n := by
  induction ds with
  | nil => exact Nat.zero_le _
  | cons d r ih =>
    have h1 := h d (List.mem_cons_self ..)
    have h2 := ih fun e he => h e (List.mem_cons_of_mem _ he)
    show max d.depth (PyData.depthAll r) ≤ n
    omega
theorem deeps_id {ds : List PyData} (h : ∀ d ∈ ds, deepD d = d) : deepD.deepDs ds = ds := by
  rw [deepDs_map]
  exact (List.map_congr_left h).trans (List.map_id _)
section
variable {P : Program} {w : World} {K : PySem.W.Frag} {mg : Str → Option Value} {base : Heap} {C_GlimError C_BadRound C_BadText C_BadLine C_BadSignal C_BadMessage C_TooLong C_Lines C_Signals C_dt_Signals___init__ : Addr}
def wish (E : XK) (H : Hp) (CB CS C : Addr) (Q : VK) : Rs → Prop
  | .line n k => Bl E H CB n k
  | .sig k => Rz E H CS "number" (.int k)
  | .good pl ws => ∀ H' p ps, Same H H' → ws = ps.map sgP → Sg C H' p pl ps → GoodT ps → Q (.ref p) H'
def p_read (CB CS C : Addr) : P1 := fun x H Q E => ∃ A d, Same A H ∧ At A x d ∧ (∀ ds, seqOf d = some ds → (∀ e ∈ ds, ShortL e) ∧ ∀ e pl, ds.head? = some e → lnRnd e = .inl pl → IsRound pl) ∧ wish E H CB CS C Q (resD d)
theorem ok_read_signals (T : Txt K mg C_GlimError C_BadRound C_BadText C_BadLine C_BadSignal C_BadMessage C_TooLong C_Lines C_Signals C_dt_Signals___init__) : OK P w K mg base (L2.CX P w) 27 "read_signals" ["lines"] (sp1  (p_read C_BadLine C_BadSignal C_Signals)) := by
  refine OK.mkX (k := 26) T.d_read_signals sc_read_signals len1 fun f cdv A outer s H vs Q E hr h => ?_
  obtain ⟨x, rfl, h⟩ := h
  refine ⟨_, (pss_cons (ps_set (i := 1) sc_read_signals.nd rfl (Or.inl rfl) (pe_mkd (ok_Lines___init__ (K := K) T) (hr.mono (by decide)) (passes_call (takes_of rfl rfl rfl rfl) (fun _ _ _ _ h => h)) (pa_cons (pv 0) pa_nil))) (pss_cons (ps_expr (pe_m (pv 1) T.cl_Lines (ok_Lines_want (K := K) T) (hr.mono (by decide)) (passes_call (takes_of rfl rfl rfl rfl) (fun _ _ _ _ h => h)) (pa_cons (pe_S [114, 111, 117, 110, 100]) pa_nil))) (pss_cons (ps_set (i := 2) sc_read_signals.nd rfl (Or.inl rfl) (pe_m (pv 1) T.cl_Lines (ok_Lines_round_at (K := K) T) (hr.mono (by decide)) (passes_call (takes_of rfl rfl rfl rfl) (fun _ _ _ _ h => h)) (pa_cons pe_int pa_nil))) (pss_cons (ps_expr (pe_m (pv 1) T.cl_Lines (ok_Lines_close_at (K := K) T) (hr.mono (by decide)) (passes_call (takes_of rfl rfl rfl rfl) (fun _ _ _ _ h => h)) (pa_cons pe_int pa_nil))) (pss_cons (ps_set (i := 3) sc_read_signals.nd rfl (Or.inl rfl) (pe_lst pa_nil)) (pss_cons (ps_while (passes_of rfl) (pt_not (pt_val (pe_m0 (pv 1) T.cl_Lines (ok_Lines_is_over (K := K) T) (hr.mono (by decide)) pass0))) (pss_cons (ps_expr (pe_m (pv 1) T.cl_Lines (ok_Lines_want (K := K) T) (hr.mono (by decide)) (passes_call (takes_of rfl rfl rfl rfl) (fun _ _ _ _ h => h)) (pa_cons (pe_S [115, 105, 103, 110, 97, 108]) pa_nil))) (pss_cons (ps_set (i := 4) sc_read_signals.nd rfl (Or.inl rfl) (pe_m (pv 1) T.cl_Lines (ok_Lines_letter_at (K := K) T) (hr.mono (by decide)) (passes_call (takes_of rfl rfl rfl rfl) (fun _ _ _ _ h => h)) (pa_cons pe_int pa_nil))) (pss_cons (ps_set (i := 5) sc_read_signals.nd rfl (Or.inl rfl) (pe_m (pv 1) T.cl_Lines (ok_Lines_row_at (K := K) T) (hr.mono (by decide)) (passes_call (takes_of rfl rfl rfl rfl) (fun _ _ _ _ h => h)) (pa_cons pe_int (pa_cons pe_int (pa_cons (pe_gI (12) T.g_MOST_WORD) pa_nil))))) (pss_cons (ps_expr (pe_m (pv 1) T.cl_Lines (ok_Lines_close_at (K := K) T) (hr.mono (by decide)) (passes_call (takes_of rfl rfl rfl rfl) (fun _ _ _ _ h => h)) (pa_cons pe_int pa_nil))) (pss_one (ps_expr (peApp K (pv 3) (pa_cons (pe_tup (pa_cons (pv 4) (pa_cons (pv 5) pa_nil))) pa_nil))))))))) (pss_one (ps_ret (pe_mk (ok_Signals___init__ (K := K) T) (hr.mono (by decide)) (passes_call (takes_of rfl rfl rfl rfl) (fun _ _ _ _ h => h)) (pa_cons (pv 2) (pa_cons (pv 3) pa_nil))))))))))), ?_⟩
  show (_ : TS) { nx := fun _ H' => Q .non H', rt := Q } [some x, none, none, none, none, none] H
  obtain ⟨A0, d, sa, hx, shD, q⟩ := h
  walk_at "go"
  intro p dx np ndx nex
  have sp : Same H (upd (upd H dx (.own p)) p (.ins C_Lines dx [])) := (same_upd ndx).trans (same_upd (by rw [upd_ne nex.symm]; exact np))
  have np0 : H p = none := np
  have a0p : A0 p = none := sa.free np
  walk_at "go"
  refine ⟨A0, p, dx, d, rfl, rfl, sa.trans sp, a0p, upd_same, hx, ?_⟩
  unfold resD at q
  cases e0 : seqOf d with
  | none =>
    rw [e0] at q
    exact Bl.mono q sp
  | some ds =>
  rw [e0] at q
  replace q : wish E H C_BadLine C_BadSignal C_Signals Q (resA ds) := q
  obtain ⟨sh, rok⟩ := shD ds e0
  intro A1 H1 t sA1 sH1 but1 nw1 ob1 tx1
  refine ⟨rfl, ?_⟩
  have a1p : A1 p = none := by
    by_cases h : A1 p = none
    · exact h
    · have := nw1 p a0p h
      rw [upd_same] at this
      cases this
  have x1 : Ext A0 H A1 H1 := by
    refine ⟨sA1, sH1, fun b o e => ?_, fun b h1 h2 => ?_⟩
    · exact but1 b o (ne_of_none e np) (sp b o e)
    · have h3 := nw1 b h1 h2
      have hbp : b ≠ p := fun z => by rw [z, upd_same] at h3; cases h3
      rw [upd_ne hbp] at h3
      have hbd : b ≠ dx := fun z => by rw [z, upd_same] at h3; cases h3
      rw [upd_ne hbd] at h3
      exact h3
  have dl : ds.length ≤ 10000 := by
    obtain ⟨_, _, _, _, l, al⟩ := tx1.tupled
    rw [← al.len]; exact l
  have R1 : ∀ {G : Hp}, Same H1 G → Rdr C_Lines A1 G p t 0 ds := fun s => ⟨x1.ag.trans s, tx1, dx, s _ _ ob1⟩
  have me1 : ∀ {G : Hp} {m : Str} {P : Prop}, Same H1 G → ¬ m = "now" → ¬ m = "texts" → P → ∃ a' dx fs, V.ref p = .ref a' ∧ G a' = some (.ins C_Lines dx fs) ∧ fs.lookup m = none ∧ P := fun s h1 h2 k => i_self (s _ _ ob1) (LF_no t 0 h1 h2) k
  walk_at "go"
  refine me1 (Same.refl _) (by decide +kernel) (by decide +kernel) ?_
  walk_at "go"
  refine ⟨A1, p, t, 0, ds, cRnd, rfl, rfl, R1 (Same.refl _), ?_⟩
  cases ds with
  | nil => exact Bl.mono q x1.gg
  | cons d0 r =>
  have hd0 : (d0 :: r)[0]? = some d0 := rfl
  rw [hd0]
  replace q : wish E H C_BadLine C_BadSignal C_Signals Q (match lnRnd d0 with | .inr k => .line 0 k | .inl pl => resB pl (readAll lnSig r 1)) := q
  have bad : ∀ {k : Nat} {G : Hp}, lnRnd d0 = .inr k → Same H1 G → Bl E G C_BadLine 0 k := fun e s => by
    rw [e] at q
    exact Bl.mono q (x1.gg.trans s)
  cases d0 with
  | str z =>
    have zl := sh _ List.mem_cons_self z rfl
    have wp := words_pos z
    have wdk : ∀ k, wd (.str z :: r) 0 k = if k < (wrds z).length then .inl ((wrds z).getD k []) else .inr (wrds z).length := fun k => rfl
    have wkl : ∀ k, k < (wrds z).length → ((wrds z).getD k []).length ≤ 1700 := fun k hk => by
      rw [List.getD_eq_getElem?_getD, List.getElem?_eq_getElem hk]
      exact Nat.le_trans (words_len (x := z) (List.getElem_mem hk)) zl
    have er : lnRnd (.str z) = rndW (wrds z) := rfl
    replace rok := fun pl h => rok (.str z) pl rfl h
    show if (wrds z).getD 0 [] = cRnd then _ else _
    unfold rndW at er
    by_cases k0 : (wrds z).getD 0 [] = cRnd
    case neg =>
      rw [if_neg k0] at er ⊢
      exact bad er (Same.refl _)
    rw [if_pos k0] at er ⊢
    intro H2 s2
    walk_at "go"
    refine me1 s2 (by decide +kernel) (by decide +kernel) ?_
    walk_at "go"
    refine ⟨A1, p, t, 0, _, 1, rfl, rfl, R1 s2, fun w hw => ?_, ?_⟩
    · rw [wdk] at hw
      split at hw
      · rename_i hk
        cases hw
        exact wkl 1 hk
      · cases hw
    rw [wdk]
    by_cases k1 : 1 < (wrds z).length
    case neg =>
      rw [if_neg k1] at er ⊢
      exact bad er s2
    rw [if_pos k1] at er ⊢
    show match rdP ((wrds z).getD 1 []) with | some r => _ | none => _
    cases ep : rdP ((wrds z).getD 1 []) with
    | none =>
      rw [ep] at er
      exact bad er s2
    | some pl =>
    rw [ep] at er
    dsimp only at er
    intro H3 s3
    have s23 := s2.trans s3
    walk_at "go"
    refine me1 s23 (by decide +kernel) (by decide +kernel) ?_
    walk_at "go"
    refine ⟨A1, p, t, 0, _, dx, z, 2, rfl, rfl, x1.ag.trans s23, tx1, s23 _ _ ob1, rfl, ?_⟩
    by_cases k2 : 2 < (wrds z).length
    · rw [if_pos k2] at er ⊢
      exact bad er s23
    rw [if_neg k2] at er ⊢
    have plr := rok pl er
    rw [er] at q
    replace q : wish E H C_BadLine C_BadSignal C_Signals Q (resB pl (readAll lnSig r 1)) := q
    clear bad rok
    intro H4 b4 o4
    have x4 : Ext A0 H A1 H4 := ⟨x1.aa, fun b o e => b4 _ _ (ne_of_none e a1p) (s23 _ _ (x1.ag _ _ e)), fun b o e => b4 _ _ (ne_of_none e np0) (s23 _ _ (x1.gg _ _ e)), x1.nw⟩
    clear er k0 k1 k2 ep wdk wkl
    have hr : r = (PyData.str z :: r).drop 1 := rfl
    have hl1 : 1 ≤ (PyData.str z :: r).length := by simp
    rw [hr] at q
    clear hr
    generalize hds : PyData.str z :: r = ds at *
    walk_at "go"
    refine i_new (by show 0 ≤ 100000; omega) fun wl nwl => ?_
    have hwl : H wl = none := x4.gg.free nwl
    have a1wl : A1 wl = none := x4.ag.free nwl
    have pwl : p ≠ wl := fun z => by rw [← z, o4] at nwl; cases nwl
    walk_at "go"
    refine i_while (fun m σ H' => ∃ n xs ws A' v4 v5, m = ds.length - n ∧ n ≤ ds.length ∧ σ = [some x, some (.ref p), some (S pl), some (.ref wl), v4, v5] ∧ Ext A0 H A' H' ∧ Same A1 A' ∧ A' p = none ∧ A' wl = none ∧
      H' p = some (.ins C_Lines dx (LF t n)) ∧ H' wl = some (.lst xs) ∧ AtAll A' xs ws ∧ ws.length + 1 = n ∧ (∀ w ∈ ws, ∃ l m, w = .tuple [dS l, dS m]) ∧ readAll lnSig (ds.drop 1) 1 = comb ws (readAll lnSig (ds.drop n) n)) (ds.length - 1)
      ⟨1, [], [], A1, none, none, rfl, hl1, rfl, x4.hid nwl, Same.refl _, a1p, a1wl, by rw [upd_ne pwl]; exact o4, upd_same, .nil, rfl, fun w hw => absurd hw (by simp), ?_⟩ ?_
    · cases readAll lnSig (ds.drop 1) 1 <;> rfl
    rintro m σ G2 ⟨n, xs, ws, A2, v4, v5, rfl, hn, rfl, x2, sA2, a2p, a2wl, ob2, hwl2, al2, wl2, wt, ra⟩
    have tx2 := tx1.same sA2
    have R2 : ∀ {G : Hp}, Same G2 G → Rdr C_Lines A2 G p t n ds := fun s => ⟨x2.ag.trans s, tx2, dx, s _ _ ob2⟩
    have me2 : ∀ {G : Hp} {m : Str} {P : Prop}, Same G2 G → ¬ m = "now" → ¬ m = "texts" → P → ∃ a' dx fs, V.ref p = .ref a' ∧ G a' = some (.ins C_Lines dx fs) ∧ fs.lookup m = none ∧ P := fun s h1 h2 k => i_self (s _ _ ob2) (LF_no t n h1 h2) k
    walk_at "go"
    refine me2 (Same.refl _) (by decide +kernel) (by decide +kernel) ?_
    walk_at "go"
    refine ⟨A2, p, t, n, ds, rfl, R2 (Same.refl _), ?_⟩
    walk_at "go"
    refine i_decN (fun e1 => ?_) (fun e1 => ?_)
    · have hlt : n < ds.length := by omega
      have hd : ds[n]? = some ds[n] := List.getElem?_eq_getElem hlt
      have shc := sh _ (List.getElem_mem hlt)
      generalize ds[n] = c at hd shc
      have bad : ∀ {k : Nat} {G : Hp}, lnSig c = .inr k → Same G2 G → Bl E G C_BadLine n k := fun e s => by
        rw [all_bad ra hd e] at q
        exact Bl.mono q (x2.gg.trans s)
      refine i_turn ?_
      walk_at "go"
      refine me2 (Same.refl _) (by decide +kernel) (by decide +kernel) ?_
      walk_at "go"
      refine ⟨A2, p, t, n, ds, cSig, rfl, rfl, R2 (Same.refl _), ?_⟩
      rw [hd]
      cases c with
      | str y =>
        have yl := shc y rfl
        have wp := words_pos y
        have wdk : ∀ k, wd ds n k = if k < (wrds y).length then .inl ((wrds y).getD k []) else .inr (wrds y).length := fun k => by unfold wd; rw [hd]
        have er : lnSig (.str y) = sigW (wrds y) := rfl
        show if (wrds y).getD 0 [] = cSig then _ else _
        unfold sigW at er
        by_cases k0 : (wrds y).getD 0 [] = cSig
        case neg =>
          rw [if_neg k0] at er ⊢
          exact bad er (Same.refl _)
        rw [if_pos k0] at er ⊢
        intro H2 s2
        walk_at "go"
        refine me2 s2 (by decide +kernel) (by decide +kernel) ?_
        walk_at "go"
        refine ⟨A2, p, t, n, ds, 1, rfl, rfl, R2 s2, ?_⟩
        rw [wdk]
        by_cases k1 : 1 < (wrds y).length
        case neg =>
          rw [if_neg k1] at er ⊢
          exact bad er s2
        rw [if_pos k1] at er ⊢
        show if letL ((wrds y).getD 1 []) = true then _ else _
        by_cases hl : letL ((wrds y).getD 1 []) = true
        case neg =>
          rw [if_neg hl] at er ⊢
          exact bad er s2
        rw [if_pos hl] at er ⊢
        intro H3 s3
        have s23 := s2.trans s3
        walk_at "go"
        refine me2 s23 (by decide +kernel) (by decide +kernel) ?_
        walk_at "go"
        refine ⟨A2, p, t, n, ds, 2, rfl, rfl, rfl, rfl, R2 s23, ?_⟩
        rw [wdk]
        by_cases k2 : 2 < (wrds y).length
        case neg =>
          rw [if_neg k2] at er ⊢
          exact bad er s23
        rw [if_pos k2] at er ⊢
        show if rowL 12 ((wrds y).getD 2 []) = true ∧ 1 ≤ ((wrds y).getD 2 []).length then _ else _
        by_cases hr : rowL 12 ((wrds y).getD 2 []) = true ∧ 1 ≤ ((wrds y).getD 2 []).length
        case neg =>
          rw [if_neg hr] at er ⊢
          exact bad er s23
        rw [if_pos hr] at er ⊢
        intro H4 s4
        have s24 := s23.trans s4
        walk_at "go"
        refine me2 s24 (by decide +kernel) (by decide +kernel) ?_
        walk_at "go"
        refine ⟨A2, p, t, n, ds, dx, y, 3, rfl, rfl, x2.ag.trans s24, tx2, s24 _ _ ob2, hd, ?_⟩
        by_cases k3 : 3 < (wrds y).length
        · rw [if_pos k3] at er ⊢
          exact bad er s24
        rw [if_neg k3] at er ⊢
        obtain ⟨l, m, es1, l1, l2⟩ := sig_small er
        cases es1
        generalize (wrds y).getD 1 [] = l at l1 er
        generalize (wrds y).getD 2 [] = m at l2 er
        clear hl hr k0 k1 k2 k3
        intro H5 b5 o5
        have wl5 : H5 wl = some (.lst xs) := b5 _ _ pwl.symm (s24 _ _ hwl2)
        walk_at "go"
        refine i_appAt wl5 ?_
        walk_at "go"
        refine i_new (by show 2 ≤ 100000; omega) fun a na => ?_
        have nap : a ≠ p := fun z => by rw [z, o5] at na; cases na
        have hwa : wl ≠ a := fun z => by rw [← z, wl5] at na; cases na
        have na2 : G2 a = none := by
          cases ea : G2 a with
          | none => rfl
          | some o =>
            have := b5 _ _ nap (s24 _ _ ea)
            rw [na] at this
            cases this
        have a2a : A2 a = none := x2.ag.free na2
        walk_at "go"
        refine i_appEnd ((upd_ne hwa).trans wl5) (by rw [al2.len]; omega) ?_
        refine ⟨ds.length - (n + 1), by omega, n + 1, xs ++ [.ref a], ws ++ [.tuple [dS l, dS m]], upd A2 a (.tup [S l, S m]), _, _, rfl, by omega, rfl, ?_, sA2.trans (same_upd a2a), ?_, ?_, ?_, upd_same, ?_, ?_, ?_, all_turn ra hd er⟩
        · refine ⟨x2.aa.trans (same_upd a2a), fun b o eb => ?_, fun b o eb => ?_, fun b h1 h2 => ?_⟩
          · by_cases hb : b = a
            · rw [hb, upd_same] at eb
              rw [hb, upd_ne hwa.symm, upd_same]; exact eb
            · rw [upd_ne hb] at eb
              have n1 : b ≠ wl := ne_of_none eb a2wl
              have n2 : b ≠ p := ne_of_none eb a2p
              rw [upd_ne n1, upd_ne hb]
              exact b5 _ _ n2 (s24 _ _ (x2.ag _ _ eb))
          · have n1 : b ≠ wl := ne_of_none eb hwl
            have n2 : b ≠ p := ne_of_none eb np0
            have n3 : b ≠ a := ne_of_none eb (x2.gg.free na2)
            rw [upd_ne n1, upd_ne n3]
            exact b5 _ _ n2 (s24 _ _ (x2.gg _ _ eb))
          · by_cases hb : b = a
            · rw [hb]; exact x2.gg.free na2
            · rw [upd_ne hb] at h2
              exact x2.nw b h1 h2
        · rw [upd_ne nap.symm]; exact a2p
        · rw [upd_ne hwa]; exact a2wl
        · rw [upd_ne pwl, upd_ne nap.symm]; exact o5
        · exact (al2.same (same_upd a2a)).app (.one (.tup upd_same (by show 2 ≤ 10000; omega) (.cons (.str _ (by omega)) (.one (.str _ (by omega))))))
        · rw [List.length_append, ← wl2]; rfl
        · intro w hw
          rcases List.mem_append.mp hw with h | h
          · exact wt w h
          · rw [List.mem_singleton.mp h]; exact ⟨_, _, rfl⟩
      | _ => exact bad rfl (Same.refl _)
    · have en : n = ds.length := by omega
      have e2 : readAll lnSig (ds.drop 1) 1 = .inl ws := by
        rw [ra, en, List.drop_length]
        show Sum.inl (ws ++ []) = _
        rw [List.append_nil]
      rw [e2] at q
      replace q : wish E H C_BadLine C_BadSignal C_Signals Q (resW pl ws) := q
      unfold resW at q
      have x3 := x2.show hwl sa hwl2
      have al3 := al2.same (same_upd (o := .lst xs) a2wl)
      have e3 : (upd A2 wl (.lst xs)) wl = some (.lst xs) := upd_same
      generalize upd A2 wl (.lst xs) = A3 at *
      walk_at "go"
      intro p2 dx2 np2 ndx2 nex2
      have s5 : Same G2 (upd (upd G2 dx2 (.own p2)) p2 (.ins C_Signals dx2 [])) := (same_upd ndx2).trans (same_upd (by rw [upd_ne nex2.symm]; exact np2))
      walk_at "go"
      refine ⟨p2, dx2, dS pl, .tuple ws, rfl, upd_same, .str _ (by have := plr.2.1; omega), .inl ⟨.list ws, (At.lst e3 (by rw [al3.len]; omega) al3).same (x3.ag.trans s5), ?_, ?_⟩, ?_⟩
      · have : PyData.depthAll ws ≤ 1 := deps_of fun w hw => by obtain ⟨l, m, rfl⟩ := wt w hw; exact (by simp [PyData.depth, PyData.depthAll])
        show PyData.depthAll ws + 1 < 6
        omega
      · show PyData.tuple ws = .tuple (deepD.deepDs ws)
        rw [deeps_id fun w hw => by obtain ⟨l, m, rfl⟩ := wt w hw; rfl]
      rw [rnd_none plr]
      cases es : sgsD (.tuple ws) with
      | some k =>
        rw [es] at q
        exact Rz.mono q (x3.gg.trans s5)
      | none =>
        rw [es] at q
        obtain ⟨ps, ep, gd⟩ := sgs_of es
        intro pl2 ps2 H6 tt dd e4 e5 b6 sg6
        obtain rfl : pl = pl2 := by cases e4; rfl
        refine ⟨rfl, ?_⟩
        have e6 : sgT ps = sgT ps2 := ep.symm.trans e5
        cases e5
        exact q _ _ _ (fun b o e => b6 _ _ (ne_of_none e (x3.gg.free np2)) (s5 _ _ (x3.gg _ _ e))) rfl ⟨_, _, _, sg6⟩ (by rw [sgT_inj e6] at gd; exact gd)
  | _ => exact bad rfl (Same.refl _)
end
section
variable {K : PySem.W.Frag} {σ : L2.St} {H H0 : Hp} {Q : VK} {te : TE} {ta : TA} {j : Nat} {vs : List Nat} {d : Dd}
theorem c_rngD (Pz : Int → Prop) (ha : ∀ R : List V → Hp → Prop, (∀ (z : Int) H1, Dr K d H0 H1 → Pz z → R [.int z] H1) → ta σ H R) (hz : ∀ z, Pz z → 0 ≤ z ∧ z ≤ 100000)
    (Pc : Nat → List V → Prop) (h0 : Pc 0 []) (hl : ∀ i acc, Pc i acc → acc.length ≤ 100000) (hw : ∀ x, wipe ((wipe σ vs).set j (some x)) vs = wipe σ vs)
    (he : ∀ (z : Int) (i : Nat) acc Hk H2, Pz z → (i : Int) < z → Pc i acc → Dr K d Hk H2 → ∀ QV : VK, (∀ y H3, Dr K d Hk H3 → Pc (i + 1) (acc ++ [y]) → QV y H3) → te ((wipe σ vs).set j (some (.int (i : Int)))) H2 QV)
    (q : ∀ (z : Int) Dl H3 acc, Pz z → H0 Dl = none → Pc z.toNat acc → Dr K d (upd H0 Dl (.lst acc)) H3 → Q (.ref Dl) H3) : tLc (iRng1 ta) (gName j) tYes te vs σ H Q := by
  refine ha _ fun z H1 dr pz => ⟨z, rfl, by have := hz z pz; omega, by have := hz z pz; omega, fun Dl nD => ?_⟩
  have n0 : H0 Dl = none := dr.free nD
  refine lc_range (fun i H' => ∃ acc, Pc i acc ∧ Dr K d (upd H0 Dl (.lst acc)) H') ⟨[], h0, dr.new nD⟩ (fun i H' hi p => ?_) (fun H' p => ?_)
  · obtain ⟨acc, pc, dr'⟩ := p
    rw [Int.zero_add]
    refine ⟨hw _, ?_⟩
    refine i_yes (i_tt ?_)
    refine he z i acc _ H' pz (by omega) pc dr' _ fun y H3 dr3 pc' => ⟨acc, dr3.old upd_same, Nat.lt_of_le_of_lt (hl i acc pc) (by decide), _, pc', dr3.put dr.cells n0⟩
  · obtain ⟨acc, pc, dr'⟩ := p
    exact q z Dl H' acc pz n0 pc dr'
end
section
variable {K : PySem.W.Frag} {σ : L2.St} {H H0 : Hp} {Q : VK} {te tl : TE} {j : Nat} {vs : List Nat} {d : Dd} {a : Addr} {xs : List V}
/-- a comprehension over a list that is known, whose elements draw -/
theorem c_lstD (dr : Dr K d H0 H) (hx : H0 a = some (.lst xs)) (ha : ∀ R : VK, R (.ref a) H → tl σ H R) (hn : xs.length ≤ 100000)
    (Pc : Nat → List V → Prop) (h0 : Pc 0 []) (hl : ∀ i acc, Pc i acc → acc.length ≤ 100000) (hw : ∀ x, wipe ((wipe σ vs).set j (some x)) vs = wipe σ vs)
    (he : ∀ (i : Nat) x acc Hk H2, xs[i]? = some x → Pc i acc → Dr K d Hk H2 → ∀ QV : VK, (∀ y H3, Dr K d Hk H3 → Pc (i + 1) (acc ++ [y]) → QV y H3) → te ((wipe σ vs).set j (some x)) H2 QV)
    (q : ∀ Dl H3 acc, H0 Dl = none → Pc xs.length acc → Dr K d (upd H0 Dl (.lst acc)) H3 → Q (.ref Dl) H3) : tLc (iAny K tl) (gName j) tYes te vs σ H Q := by
  refine ha _ (.inl ⟨a, xs, rfl, .inl (.inl (dr.old hx)), fun Dl nD => ?_⟩)
  have n0 : H0 Dl = none := dr.free nD
  have ne : a ≠ Dl := ne_of_none hx n0
  refine lc_list (xs := xs) (fun i H' => ∃ acc, Pc i acc ∧ Dr K d (upd H0 Dl (.lst acc)) H') ⟨[], h0, dr.new nD⟩ (fun i H' _ p => ?_) (fun i x H' hi p => ?_) (fun H' p => ?_)
  · obtain ⟨acc, _, dr'⟩ := p
    exact .inl (.inl (dr'.old ((upd_ne ne).trans hx)))
  · obtain ⟨acc, pc, dr'⟩ := p
    refine ⟨hw _, ?_⟩
    refine i_yes (i_tt ?_)
    refine he i x acc _ H' hi pc dr' _ fun y H3 dr3 pc' => ⟨acc, dr3.old upd_same, Nat.lt_of_le_of_lt (hl i acc pc) (by decide), _, pc', dr3.put dr.cells n0⟩
  · obtain ⟨acc, pc, dr'⟩ := p
    exact q Dl H' acc n0 pc dr'
end
section
variable {K : PySem.W.Frag} {d : Dd} {H0 H : Hp} {q : Addr} {o : HO}
theorem Dr.self (h : Dr K d H0 H) : ∃ o, H d.a = some o := by
  obtain ⟨s0, n0, hc, hl, p, b, u, x, sd, ha, hp⟩ := h
  exact ⟨_, ha⟩
theorem Dr.ne (h : Dr K d H0 H) (n : H q = none) : q ≠ d.a := fun z => by
  obtain ⟨o, e⟩ := h.self
  rw [← z, n] at e
  cases e
/-- what stands is known -/
theorem Dr.learn (h : Dr K d H0 H) (e : H q = some o) (ne : q ≠ d.a) : Dr K d (upd H0 q o) H := by
  obtain ⟨s0, n0, hc, hl, p, b, u, x, sd, ha, hp⟩ := h
  have s1 : Same H0 (upd H0 q o) := fun b' o' e' => by
    by_cases hb : b' = q
    · subst hb
      rw [upd_same]
      have := s0 _ _ e'
      rw [e] at this
      exact this
    · rw [upd_ne hb]; exact e'
  refine ⟨fun b' o' e' => ?_, by rw [upd_ne (Ne.symm ne)]; exact n0, s1.seq hc, hl, p, b, u, x, sd, ha, hp⟩
  by_cases hb : b' = q
  · subst hb
    rw [upd_same] at e'
    rw [e]; exact e'
  · rw [upd_ne hb] at e'
    exact s0 _ _ e'
end
/-- a new object, known or not -/
theorem Dr.skip {K : PySem.W.Frag} {d : Dd} {H0 H : Hp} {q : Addr} {o : HO} (h : Dr K d H0 H) (n : H q = none) : Dr K d H0 (upd H q o) := h.same (same_upd n)
theorem Dr.step {K : PySem.W.Frag} {d : Dd} {Hk H : Hp} {p : Addr} (o : HO) (h : Dr K d Hk H) (n : H p = none) : ∃ Hk', Same Hk Hk' ∧ Hk' p = some o ∧ Dr K d Hk' (upd H p o) := ⟨upd Hk p o, same_upd (h.free n), upd_same, h.new n⟩
theorem Dr.back {K : PySem.W.Frag} {d : Dd} {H0 H1 H H' : Hp} (h : Dr K d H1 H) (dr : Dr K d H0 H') (s : Same H0 H1) : Dr K d H0 H := by
  obtain ⟨s1, n1, hc1, hl, p, b, u, x, sd, ha, hp⟩ := h
  obtain ⟨s0, n0, hc, _⟩ := dr
  exact ⟨s.trans s1, n0, hc, hl, p, b, u, x, sd, ha, hp⟩
theorem mem_set {α : Type} {l : List α} {i : Nat} {a x : α} (h : x ∈ l.set i a) : x ∈ l ∨ x = a := List.mem_or_eq_of_mem_set h
theorem atAll_set {H : Hp} {zs : List V} {ds : List PyData} {v : V} {d : PyData} (h : AtAll H zs ds) (hv : At H v d) (i : Nat) : AtAll H (zs.set i v) (ds.set i d) := by
  refine atAll_of (by rw [List.length_set, List.length_set]; exact h.len) fun j x e hx he => ?_
  rw [List.getElem?_set] at hx he
  by_cases z : i = j
  · subst z
    rw [if_pos rfl] at hx he
    split at hx
    · cases hx
      split at he
      · cases he; exact hv
      · cases he
    · cases hx
  · rw [if_neg z] at hx he
    obtain ⟨c, hc, ac⟩ := h.get hx
    rw [he] at hc
    cases hc
    exact ac
def joinH (A f : Hp) : Hp := fun b => match A b with
  | some o => some o
  | none => f b
section
variable {K : PySem.W.Frag} {d : Dd} {f A A1 H H1 : Hp} {q : Addr} {o o' : HO}
theorem joinH_some (h : A q = some o) : joinH A f q = some o := by unfold joinH; rw [h]
theorem joinH_none (h : A q = none) : joinH A f q = f q := by unfold joinH; rw [h]
theorem joinH_upd : joinH (upd A q o) f = upd (joinH A f) q o := by
  funext b
  by_cases h : b = q
  · rw [h, upd_same]; exact joinH_some upd_same
  · rw [upd_ne h]
    unfold joinH
    rw [upd_ne h]
def D2 (K : PySem.W.Frag) (d : Dd) (f A H : Hp) : Prop := Same A H ∧ Dr K d (joinH A f) H ∧ ∀ b, f b ≠ none → A b = none
theorem D2.old (h : D2 K d f A H) (e : A q = some o) : H q = some o := h.1 _ _ e
theorem D2.free (h : D2 K d f A H) (n : H q = none) : A q = none := h.1.free n
theorem D2.fr (h : D2 K d f A H) (e : f q = some o) : H q = some o := h.2.1.1 _ _ (by rw [joinH_none (h.2.2 q (by rw [e]; simp))]; exact e)
theorem D2.same (h : D2 K d f A H) (s : Same H H1) : D2 K d f A H1 := ⟨h.1.trans s, h.2.1.same s, h.2.2⟩
theorem D2.new (h : D2 K d f A H) (n : H q = none) : D2 K d f (upd A q o) (upd H q o) := by
  have e := h.2.1.new (o := o) n
  rw [← joinH_upd] at e
  refine ⟨fun b u hb => ?_, e, fun b hb => ?_⟩
  · by_cases hq : b = q
    · rw [hq, upd_same] at hb; rw [hq, upd_same]; exact hb
    · rw [upd_ne hq] at hb; rw [upd_ne hq]; exact h.1 _ _ hb
  · have hq : b ≠ q := fun z => by
      cases ef : f b with
      | none => exact hb ef
      | some u =>
        have := h.fr ef
        rw [z, n] at this
        cases this
    rw [upd_ne hq]
    exact h.2.2 b hb
theorem D2.step (h : D2 K d f A H) (o : HO) (n : H q = none) : ∃ A1, Same A A1 ∧ A1 q = some o ∧ D2 K d f A1 (upd H q o) := ⟨_, same_upd (h.free n), upd_same, h.new n⟩
theorem D2.cells (h : D2 K d f A H) : SqL K (joinH A f) d.c (d.ns.map V.int) := h.2.1.cells
theorem D2.less (h : D2 K d f (upd A q o) H) (hc : SqL K (joinH A f) d.c (d.ns.map V.int)) (n : A q = none) : D2 K d f A H := by
  have e := h.2.1
  rw [joinH_upd] at e
  have nf : f q = none := by
    cases ef : f q with
    | none => rfl
    | some u =>
      have := h.2.2 q (by rw [ef]; simp)
      rw [upd_same] at this
      cases this
  refine ⟨(same_upd n).trans h.1, e.less hc (by rw [joinH_none n]; exact nf), fun b hb => ?_⟩
  have := h.2.2 b hb
  rwa [upd_ne (fun z => by rw [z, nf] at hb; exact hb rfl)] at this
theorem pick2 {many : Int} {Q : VK} {E : XK} (h : D2 K d f A H) (hm : many ≤ 10000000000000000000000000000000000000000) (q : ∀ (n : Int) H', D2 K d f A H' → Btw n many → Q (.int n) H') : p_L_pick K (.ref d.a) (.int many) H Q E :=
  ⟨joinH A f, d, many, rfl, rfl, h.2.1, hm, fun n H' e b => q n H' ⟨fun c u hc => e.1 _ _ (joinH_some hc), e, h.2.2⟩ b⟩
/-- one object -/
def oneH (q : Addr) (o : HO) : Hp := fun b => if b = q then some o else none
theorem joinH_one (n : A q = none) : joinH A (oneH q o) = upd A q o := by
  funext b
  by_cases h : b = q
  · rw [h, upd_same, joinH_none n]; exact if_pos rfl
  · rw [upd_ne h]
    cases e : A b with
    | some u => exact joinH_some e
    | none => rw [joinH_none e]; exact if_neg h
theorem D2.of (h : Dr K d (upd A q o) H) (n : A q = none) : D2 K d (oneH q o) A H :=
  ⟨(same_upd n).trans h.1, by rw [joinH_one n]; exact h, fun b hb => by
    by_cases e : b = q
    · rw [e]; exact n
    · exact absurd (if_neg e) hb⟩
theorem D2.to (h : D2 K d (oneH q o) A H) : A q = none ∧ Dr K d (upd A q o) H := by
  have n : A q = none := h.2.2 q (by rw [show oneH q o q = some o from if_pos rfl]; simp)
  exact ⟨n, by rw [← joinH_one n]; exact h.2.1⟩
end


section
variable {K : PySem.W.Frag} {d : Dd} {f A A1 H H1 H0 : Hp} {q L wl p r : Addr} {o o' x y : HO} {xs zs : List V}
theorem D2.nf (h : D2 K d f (upd A q o) H) : f q = none := by
  cases ef : f q with
  | none => rfl
  | some u =>
    have := h.2.2 q (by rw [ef]; simp)
    rw [upd_same] at this
    cases this
theorem D2.lst (h : D2 K d f (upd A q o) H) : H q = some o := h.old upd_same
theorem D2.skip (h : D2 K d f A H) (n : H q = none) : D2 K d f A (upd H q o) := h.same (same_upd n)
theorem D2.put (h : D2 K d f (upd A q o) H) (hc : SqL K (joinH A f) d.c (d.ns.map V.int)) (n : A q = none) : D2 K d f (upd A q o') (upd H q o') := by
  have nf := h.nf
  have e := h.2.1
  rw [joinH_upd] at e
  have e2 := e.put (o' := o') hc (by rw [joinH_none n]; exact nf)
  rw [← joinH_upd] at e2
  refine ⟨fun b u hb => ?_, e2, fun b hb => ?_⟩
  · by_cases hq : b = q
    · rw [hq, upd_same] at hb; rw [hq, upd_same]; exact hb
    · rw [upd_ne hq] at hb; rw [upd_ne hq]; exact h.1 _ _ ((upd_ne hq).trans hb)
  · have hq : b ≠ q := fun z => by rw [z] at hb; exact hb nf
    have := h.2.2 b hb
    rw [upd_ne hq] at this
    rw [upd_ne hq]; exact this
theorem D2.sq (h0 : D2 K d f H0 H) (s : Same H0 A) (h : D2 K d f (upd A q o) H1) : SqL K (joinH A f) d.c (d.ns.map V.int) := by
  have hc := h0.2.1.cells
  have s2 : Same (joinH H0 f) (joinH A f) := fun b u e => by
    cases e0 : H0 b with
    | some w =>
      rw [joinH_some e0] at e
      rw [joinH_some (s _ _ e0)]; exact e
    | none =>
      rw [joinH_none e0] at e
      have nq : b ≠ q := fun z => by rw [z, h.nf] at e; cases e
      have := h.2.2 b (by rw [e]; simp)
      rw [upd_ne nq] at this
      rw [joinH_none this]; exact e
  exact s2.seq hc
/-- a list goes into the frame -/
theorem D2.hide (h : D2 K d f (upd A L o) H) (n : A L = none) : D2 K d (joinH (oneH L o) f) A H := by
  have ej : joinH A (joinH (oneH L o) f) = joinH (upd A L o) f := by
    funext b
    by_cases h1 : b = L
    · rw [h1, joinH_none n, joinH_some (show oneH L o L = some o from if_pos rfl), joinH_some upd_same]
    · have e1 : joinH (oneH L o) f b = f b := joinH_none (show oneH L o b = none from if_neg h1)
      cases e : A b with
      | some u => rw [joinH_some e, joinH_some ((upd_ne h1).trans e)]
      | none => rw [joinH_none e, joinH_none ((upd_ne h1).trans e)]; exact e1
  refine ⟨(same_upd n).trans h.1, by rw [ej]; exact h.2.1, fun b hb => ?_⟩
  by_cases h1 : b = L
  · rw [h1]; exact n
  · rw [joinH_none (show oneH L o b = none from if_neg h1)] at hb
    have := h.2.2 b hb
    rw [upd_ne h1] at this
    exact this
theorem D2.show (h : D2 K d (joinH (oneH L o) f) A H) (nf : f L = none) : A L = none ∧ D2 K d f (upd A L o) H := by
  have n : A L = none := h.2.2 L (by rw [joinH_some (show oneH L o L = some o from if_pos rfl)]; simp)
  have ej : joinH A (joinH (oneH L o) f) = joinH (upd A L o) f := by
    funext b
    by_cases h1 : b = L
    · rw [h1, joinH_none n, joinH_some (show oneH L o L = some o from if_pos rfl), joinH_some upd_same]
    · have e1 : joinH (oneH L o) f b = f b := joinH_none (show oneH L o b = none from if_neg h1)
      cases e : A b with
      | some u => rw [joinH_some e, joinH_some ((upd_ne h1).trans e)]
      | none => rw [joinH_none e, joinH_none ((upd_ne h1).trans e)]; exact e1
  refine ⟨n, fun b u hb => ?_, by rw [← ej]; exact h.2.1, fun b hb => ?_⟩
  · by_cases h1 : b = L
    · rw [h1, upd_same] at hb
      cases hb
      rw [h1]
      exact h.fr (joinH_some (if_pos rfl))
    · rw [upd_ne h1] at hb; exact h.1 _ _ hb
  · have h1 : b ≠ L := fun z => by rw [z] at hb; exact hb nf
    rw [upd_ne h1]
    exact h.2.2 b (by rw [joinH_none (show oneH L o b = none from if_neg h1)]; exact hb)
end

def noF : Hp := fun _ => none
section
variable {K : PySem.W.Frag} {d : Dd} {f A A0 A1 A2 H H1 H0 G G2 : Hp} {q L : Addr} {o : HO} {xs : List V} {ds : List PyData}
theorem join_noF : joinH A noF = A := by
  funext b
  cases e : A b with
  | some u => exact joinH_some e
  | none => exact joinH_none e
theorem D2.of0 (h : Dr K d A H) : D2 K d noF A H := ⟨h.1, by rw [join_noF]; exact h, fun b hb => absurd rfl hb⟩
/-- the cells of the draws are known -/
def Cel (K : PySem.W.Frag) (d : Dd) (f A : Hp) : Prop := SqL K (joinH A f) d.c (d.ns.map V.int)
theorem D2.cel (h : D2 K d f A H) : Cel K d f A := h.2.1.cells
theorem cel_up (hc : Cel K d f A0) (s : Same A0 A) (h : D2 K d f (upd A q o) H1) : Cel K d f A := by
  have s2 : Same (joinH A0 f) (joinH A f) := fun b u e => by
    cases e0 : A0 b with
    | some w =>
      rw [joinH_some e0] at e
      rw [joinH_some (s _ _ e0)]; exact e
    | none =>
      rw [joinH_none e0] at e
      have nq : b ≠ q := fun z => by rw [z, h.nf] at e; cases e
      have := h.2.2 b (by rw [e]; simp)
      rw [upd_ne nq] at this
      rw [joinH_none this]; exact e
  exact s2.seq hc
/-- the list at L, with these data, over what is known besides -/
structure LB (K : PySem.W.Frag) (d : Dd) (f A0 : Hp) (L : Addr) (G : Hp) (ds : List PyData) : Prop where
  ex : ∃ A1 xs, Same A0 A1 ∧ A1 L = none ∧ D2 K d f (upd A1 L (.lst xs)) G ∧ AtAll A1 xs ds
  cel : Cel K d f A0
theorem LB.new (h : D2 K d f A0 H) (n : H L = none) : LB K d f A0 L (upd H L (.lst [])) [] := ⟨⟨A0, [], Same.refl _, h.free n, h.new n, .nil⟩, h.cel⟩
theorem LB.start (h : D2 K d f (upd A0 L (.lst xs)) H) (n : A0 L = none) (al : AtAll A0 xs ds) (c : Cel K d f A0) : LB K d f A0 L H ds := ⟨⟨A0, xs, Same.refl _, n, h, al⟩, c⟩
/-- opened: draws go on beside it; then it changes -/
theorem LB.op (h : LB K d f A0 L G ds) : ∃ A1 xs fr, Same A0 A1 ∧ G L = some (.lst xs) ∧ xs.length = ds.length ∧ AtAll A1 xs ds ∧ D2 K d fr A1 G ∧
    (∀ A2 G2, Same A1 A2 → D2 K d fr A2 G2 → G2 L = some (.lst xs) ∧ AtAll A2 xs ds ∧ LB K d f A0 L G2 ds ∧
      (∀ v e, At A2 v e → LB K d f A0 L (upd G2 L (.lst (xs ++ [v]))) (ds ++ [e])) ∧ ∀ v e j, At A2 v e → LB K d f A0 L (upd G2 L (.lst (xs.set j v))) (ds.set j e)) := by
  obtain ⟨⟨A1, xs, s, n, dr, al⟩, c⟩ := h
  refine ⟨A1, xs, _, s, dr.lst, al.len, al, dr.hide n, fun A2 G2 s2 d2 => ?_⟩
  obtain ⟨n2, d3⟩ := d2.show dr.nf
  have c2 := cel_up c (s.trans s2) d3
  have al2 := al.same s2
  exact ⟨d3.lst, al2, ⟨⟨A2, xs, s.trans s2, n2, d3, al2⟩, c⟩, fun v e hv => ⟨⟨A2, _, s.trans s2, n2, d3.put c2 n2, al2.app (.one hv)⟩, c⟩, fun v e j hv => ⟨⟨A2, _, s.trans s2, n2, d3.put c2 n2, atAll_set al2 hv j⟩, c⟩⟩
/-- closed: it is known -/
theorem LB.cl (h : LB K d f A0 L G ds) (hl : ds.length ≤ 10000) : ∃ A1 xs, Same A0 A1 ∧ D2 K d f A1 G ∧ A1 L = some (.lst xs) ∧ AtAll A1 xs ds ∧ At A1 (.ref L) (.list ds) ∧ xs.length = ds.length := by
  obtain ⟨⟨A1, xs, s, n, dr, al⟩, c⟩ := h
  have al2 := al.same (same_upd (o := .lst xs) n)
  exact ⟨_, xs, s.trans (same_upd n), dr, upd_same, al2, At.mkLst upd_same al2 hl, al.len⟩
variable {σ : L2.St} {Q : VK} {te tl : TE} {ta : TA} {j : Nat} {vs : List Nat} {a : Addr}
end
section
variable {K : PySem.W.Frag} {d : Dd} {f A A1 H G : Hp}
theorem D2.ext (h : D2 K d f A H) (x : Ext A H A1 G) : D2 K d f A1 G := by
  have n0 : joinH A f d.a = none := h.2.1.2.1
  have nA : A d.a = none := by
    cases e : A d.a with
    | none => rfl
    | some o => rw [joinH_some e] at n0; cases n0
  have nf : f d.a = none := by rw [joinH_none nA] at n0; exact n0
  have hne : H d.a ≠ none := by
    obtain ⟨_, _, _, _, p, b, u, x', s, ha, _⟩ := h.2.1
    rw [ha]; simp
  have n1 := x.free nA hne
  have nfb : ∀ b, f b ≠ none → A1 b = none := fun b hb => by
    cases ef : f b with
    | none => exact absurd ef hb
    | some u => exact x.free (h.2.2 b hb) (by rw [h.fr ef]; simp)
  have s1 : Same (joinH A f) (joinH A1 f) := fun b u e => by
    cases ea : A b with
    | some w =>
      rw [joinH_some ea] at e
      rw [joinH_some (x.aa _ _ ea)]; exact e
    | none =>
      rw [joinH_none ea] at e
      rw [joinH_none (nfb b (by rw [e]; simp))]; exact e
  have s2 : Same (joinH A1 f) G := fun b u e => by
    cases ea : A1 b with
    | some w => rw [joinH_some ea] at e; exact x.ag _ _ (by rw [ea]; exact e)
    | none => rw [joinH_none ea] at e; exact x.gg _ _ (h.fr e)
  exact ⟨x.ag, (h.2.1.same x.gg).know s1 s2 (by rw [joinH_none n1]; exact nf), nfb⟩
end
theorem btw_nat {n : Int} {k : Nat} (b : Btw n (k : Int)) (hk : 1 ≤ k) : ∃ j : Nat, n = (j : Int) ∧ j < k := by
  obtain ⟨b0, b1, b2⟩ := b
  obtain ⟨j, rfl⟩ := Int.eq_ofNat_of_zero_le b0
  refine ⟨j, rfl, ?_⟩
  by_cases h : 2 ≤ k
  · have := b1 (by omega); omega
  · have := b2 (by omega); omega
/-- a list cut, or two put together, is known -/
theorem cutAt {K : PySem.W.Frag} {d : Dd} {f A G : Hp} {p : Addr} {xs : List V} {ds : List PyData} (x : D2 K d f A G) (al : AtAll A xs ds) (n : G p = none) : ∃ A2, Same A A2 ∧ A2 p = some (.lst xs) ∧ AtAll A2 xs ds ∧ D2 K d f A2 (upd G p (.lst xs)) :=
  ⟨_, same_upd (x.free n), upd_same, al.same (same_upd (x.free n)), x.new n⟩
section
variable {K : PySem.W.Frag} {d : Dd} {f A G : Hp} {Q : VK} {a b : Addr} {xs ys zs : List V} {es fs : List PyData}
theorem i_slD {lo hi : Option Int} (x : D2 K d f A G) (h : A a = some (.lst xs)) (e : cutV xs lo hi = zs) (al : AtAll A zs es) (q : ∀ p A2 G2, Same A A2 → A2 p = some (.lst zs) → AtAll A2 zs es → D2 K d f A2 G2 → Q (.ref p) G2) : slP K (.ref a) lo hi G Q := by
  refine i_slL (.inl (.inl (x.old h))) fun p np => ?_
  rw [e]
  obtain ⟨A2, s2, e2, al2, d2⟩ := cutAt x al np
  exact q p A2 _ s2 e2 al2 d2
theorem i_catD (x : D2 K d f A G) (h1 : A a = some (.lst xs)) (h2 : A b = some (.lst ys)) (a1 : AtAll A xs es) (a2 : AtAll A ys fs) (hz : xs.length + ys.length ≤ 100000) (q : ∀ p A2 G2, Same A A2 → A2 p = some (.lst (xs ++ ys)) → AtAll A2 (xs ++ ys) (es ++ fs) → D2 K d f A2 G2 → Q (.ref p) G2) : addP K (.ref a) (.ref b) G Q := by
  refine i_catL (x.old h1) (x.old h2) hz fun p np => ?_
  obtain ⟨A2, s2, e2, al2, d2⟩ := cutAt x (a1.app a2) np
  exact q p A2 _ s2 e2 al2 d2
end
section
variable {P : Program} {w : World} {K : PySem.W.Frag} {mg : Str → Option Value} {base : Heap} {C_GlimError C_BadRound C_BadText C_BadLine C_BadSignal C_BadMessage C_TooLong C_Lines C_Signals C_dt_Signals___init__ : Addr}
/-- a sign, dark nearly as often as lit -/
def p_L_sign (K : PySem.W.Frag) : P1 := fun x H Q _ => ∃ (H0 : Hp) (d : Dd), x = .ref d.a ∧ Dr K d H0 H ∧ ∀ c H', Dr K d H0 H' → c ∈ SG → Q (S [c]) H'
theorem ok_L_sign (T : Txt K mg C_GlimError C_BadRound C_BadText C_BadLine C_BadSignal C_BadMessage C_TooLong C_Lines C_Signals C_dt_Signals___init__) : OK P w K mg base CX0 3 "_law_sign" ["_law_draw_here"] (sp1  (p_L_sign K)) := by
  refine OK.mk (k := 2) T.d_L_sign sc_L_sign len1 fun f cdv A outer s H vs Q E hr h => ?_
  obtain ⟨x, rfl, h⟩ := h
  refine ⟨_, (pss_one (ps_ret (pe_ix (ixK K) (pe_S [46, 46, 46, 119, 119, 114, 103]) (pe_f (ok_L_pick (K := K) T) (hr.mono (by decide)) pass0 (pa_cons (pv 0) (pa_cons pe_int pa_nil))) (fun _ _ => rfl)))), ?_⟩
  show (_ : TS) { nx := fun _ H' => Q .non H', rt := Q } [some x] H
  obtain ⟨H0, d, rfl, dr, q⟩ := h
  walk_at "go"
  refine ⟨H0, d, 7, rfl, rfl, dr, by decide, fun n H1 dr1 b => ?_⟩
  have b0 := b.1
  have b1 := b.2.1 (by decide)
  have hn : n.toNat < 7 := by omega
  have key : ∀ i < 7, ∃ c, ([46, 46, 46, 119, 119, 114, 103] : List Nat)[i]? = some c ∧ c ∈ SG := by decide
  obtain ⟨c, hc, hs⟩ := key n.toNat hn
  refine i_ix_str (by decide) b0 hc ?_
  walk_at "go"
  exact q c H1 dr1 hs
end
theorem nd_len : ∀ {xs u : List Nat}, xs.Nodup → (∀ c ∈ xs, c ∈ u) → xs.length ≤ u.length
  | [], _, _, _ => Nat.zero_le _
  | x :: r, u, nd, h => by
    rw [List.nodup_cons] at nd
    have hx := h x (List.mem_cons_self ..)
    have ih := nd_len (u := u.erase x) nd.2 fun c hc => (List.mem_erase_of_ne (fun z => nd.1 (by rw [← z]; exact hc))).mpr (h c (List.mem_cons_of_mem _ hc))
    rw [List.length_erase_of_mem hx] at ih
    have := List.length_pos_of_mem hx
    rw [List.length_cons]
    omega
section
variable {P : Program} {w : World} {K : PySem.W.Frag} {mg : Str → Option Value} {base : Heap} {C_GlimError C_BadRound C_BadText C_BadLine C_BadSignal C_BadMessage C_TooLong C_Lines C_Signals C_dt_Signals___init__ : Addr}
def p_L_round (K : PySem.W.Frag) : P2 := fun x y H Q _ => ∃ (H0 : Hp) (d : Dd) (most : Int), x = .ref d.a ∧ y = .int most ∧ Dr K d H0 H ∧ 1 ≤ most ∧ most ≤ 1000 ∧ ∀ l H', Dr K d H0 H' → Row l → 1 ≤ l.length → (l.length : Int) ≤ most → Q (S l) H'
theorem ok_L_round (T : Txt K mg C_GlimError C_BadRound C_BadText C_BadLine C_BadSignal C_BadMessage C_TooLong C_Lines C_Signals C_dt_Signals___init__) : OK P w K mg base CX0 4 "_law_round" ["_law_draw_here", "_law_most"] (sp2  (p_L_round K)) := by
  refine OK.mk (k := 3) T.d_L_round sc_L_round len2 fun f cdv A outer s H vs Q E hr h => ?_
  obtain ⟨x, y, rfl, h⟩ := h
  refine ⟨_, (pss_one (ps_ret (peJoin K (pe_S []) (pe_lc (own := [("_law_turn", 2)]) (g := gName 2) (tt := tYes) (by rfl) sc_L_round.nd (pi_range1 rfl T.b_range (pa_cons (pe_op (opAdd K) pe_int (pe_f (ok_L_pick (K := K) T) (hr.mono (by decide)) pass0 (pa_cons (pv 0) (pa_cons (pv 1) pa_nil)))) pa_nil)) (blkOk_by (own := [("_law_turn", 2)]) (N := ["_law_draw_here", "_law_most", "_law_turn"]) (sc := (defScope s_L_round)) (by decide +kernel)) (fun _ _ _ _ _ => (pg_name (i := 2) sc_L_round.nd rfl (Or.inl rfl))) (fun _ _ _ _ _ => pts_nil) (fun _ _ _ _ _ => (pe_f (ok_L_sign (K := K) T) (hr.mono (by decide)) pass0 (pa_cons (pv 0) pa_nil))))))), ?_⟩
  show (_ : TS) { nx := fun _ H' => Q .non H', rt := Q } [some x, some y, none] H
  obtain ⟨H0, d, most, rfl, rfl, dr, m1, m2, q⟩ := h
  walk_at "go"
  refine c_rngD (K := K) (d := d) (H0 := H0) (fun z => 1 ≤ z ∧ z ≤ most) (fun R k => ?_) (fun z h => by omega) (fun i acc => ∃ cs : List Nat, cs.length = i ∧ i ≤ 1000 ∧ Row cs ∧ acc = cs.map fun c => S [c]) ⟨[], rfl, by omega, fun c hc => by simp at hc, rfl⟩ ?_ (fun _ => rfl) ?_ ?_
  · walk_at "go"
    refine ⟨H0, d, most, rfl, rfl, dr, by omega, fun n H1 dr1 b => ?_⟩
    walk_at "go"
    exact k _ _ dr1 (by have := b.1; have := b.2.1; have := b.2.2; omega)
  · rintro i acc ⟨cs, h1, h2, h3, rfl⟩
    rw [List.length_map]; omega
  · rintro z i acc Hk H2 hz hi ⟨cs, h1, h2, h3, rfl⟩ dr2 QV k
    show (_ : TE) [some (.ref d.a), some (.int most), some (.int (i : Int))] H2 QV
    walk_at "go"
    refine ⟨Hk, d, rfl, dr2, fun c H3 dr3 hc => k _ _ dr3 ⟨cs ++ [c], by rw [List.length_append, h1]; rfl, by omega, fun x hx => ?_, by rw [List.map_append]; rfl⟩⟩
    rcases List.mem_append.mp hx with hx | hx
    · exact h3 x hx
    · rw [List.mem_singleton.mp hx]; exact hc
  · rintro z Dl H3 acc hz n0 ⟨cs, h1, h2, h3, rfl⟩ dr3
    walk_at "go"
    refine i_join1 (.inl (.inl (dr3.old upd_same))) (by omega) ?_
    exact q cs H3 (dr3.less dr.cells n0) h3 (by omega) (by omega)
def p_L_bent (K : PySem.W.Frag) : P2 := fun x y H Q _ => ∃ (H0 : Hp) (d : Dd) (l : List Nat), x = .ref d.a ∧ y = S l ∧ Dr K d H0 H ∧ Row l ∧ 1 ≤ l.length ∧ l.length ≤ 1000 ∧ ∀ l' H', Dr K d H0 H' → Row l' → 1 ≤ l'.length → l'.length ≤ l.length + 1 → Q (S l') H'
theorem ok_L_bent (T : Txt K mg C_GlimError C_BadRound C_BadText C_BadLine C_BadSignal C_BadMessage C_TooLong C_Lines C_Signals C_dt_Signals___init__) : OK P w K mg base CX0 4 "_law_bent" ["_law_draw_here", "_law_row"] (sp2  (p_L_bent K)) := by
  refine OK.mk (k := 3) T.d_L_bent sc_L_bent len2 fun f cdv A outer s H vs Q E hr h => ?_
  obtain ⟨x, y, rfl, h⟩ := h
  refine ⟨_, (pss_cons (ps_set (i := 2) sc_L_bent.nd rfl (Or.inl rfl) (pe_f (ok_L_pick (K := K) T) (hr.mono (by decide)) pass0 (pa_cons (pv 0) (pa_cons (pe_callB (cLen K) (by rfl) T.b_len (by decide +kernel) (pa_cons (pv 1) pa_nil)) pa_nil)))) (pss_cons (ps_set (i := 3) sc_L_bent.nd rfl (Or.inl rfl) (pe_f (ok_L_pick (K := K) T) (hr.mono (by decide)) pass0 (pa_cons (pv 0) (pa_cons pe_int pa_nil)))) (pss_cons (ps_if (pw_and (pt_cmpR (opEq K hr.units) (pv 3) pe_int (nomark _)) (pw_and1 (pt_cmpR op_gtP (pe_callB (cLen K) (by rfl) T.b_len (by decide +kernel) (pa_cons (pv 1) pa_nil)) pe_int (nomark _)))).pt (pss_one (ps_ret (pe_op (opAdd K) (pe_slice (slK K) (pv 1) po_none (po_some (pv 2))) (pe_slice (slK K) (pv 1) (po_some (pe_op (opAdd K) (pv 2) pe_int)) po_none)))) pss_nil) (pss_cons (ps_if (pt_cmpR (opEq K hr.units) (pv 3) pe_int (nomark _)) (pss_one (ps_ret (pe_op (opAdd K) (pe_op (opAdd K) (pe_slice (slK K) (pv 1) po_none (po_some (pv 2))) (pe_f (ok_L_sign (K := K) T) (hr.mono (by decide)) pass0 (pa_cons (pv 0) pa_nil))) (pe_slice (slK K) (pv 1) (po_some (pv 2)) po_none)))) pss_nil) (pss_one (ps_ret (pe_op (opAdd K) (pe_op (opAdd K) (pe_slice (slK K) (pv 1) po_none (po_some (pv 2))) (pe_f (ok_L_sign (K := K) T) (hr.mono (by decide)) pass0 (pa_cons (pv 0) pa_nil))) (pe_slice (slK K) (pv 1) (po_some (pe_op (opAdd K) (pv 2) pe_int)) po_none)))))))), ?_⟩
  show (_ : TS) { nx := fun _ H' => Q .non H', rt := Q } [some x, some y, none, none] H
  obtain ⟨H0, d, l, rfl, rfl, dr, hr, h1, h2, q⟩ := h
  walk_at "go"
  refine ⟨H0, d, l.length, rfl, rfl, dr, by omega, fun n H1 dr1 b => ?_⟩
  have b0 := b.1
  have b1 : n.toNat < l.length := by have := b.2.1; have := b.2.2; omega
  have e1 : (n + 1).toNat = n.toNat + 1 := by omega
  walk_at "go"
  refine ⟨H0, d, 3, rfl, rfl, dr1, by decide, fun k H2 dr2 _ => ?_⟩
  walk_at "go"
  have last : ∀ c H3, Dr K d H0 H3 → c ∈ SG → Q (S (l.take n.toNat ++ [c] ++ l.drop (n + 1).toNat)) H3 := fun c H3 dr3 hc =>
    q _ H3 dr3 (((hr.take _).app (.one hc)).app (hr.drop _)) (by simp; omega) (by rw [e1]; simp; omega)
  refine i_dec (fun c0 => ?_) (fun c0 => ?_)
  · walk_at "go"
    refine i_dec (fun c1 => ?_) (fun c1 => ?_)
    · walk_at "go"
      exact q _ H2 dr2 ((hr.take _).app (hr.drop _)) (by rw [e1]; simp; omega) (by rw [e1]; simp; omega)
    · walk_at "go"
      refine i_dec (fun c2 => absurd c2 (by omega)) (fun c2 => ?_)
      walk_at "go"
      refine ⟨H0, d, rfl, dr2, fun c H3 dr3 hc => ?_⟩
      walk_at "go"
      exact last c H3 dr3 hc
  · walk_at "go"
    refine i_dec (fun c2 => ?_) (fun c2 => ?_)
    · walk_at "go"
      refine ⟨H0, d, rfl, dr2, fun c H3 dr3 hc => ?_⟩
      walk_at "go"
      exact q _ H3 dr3 (((hr.take _).app (.one hc)).app (hr.drop _)) (by simp; omega) (by simp; omega)
    · walk_at "go"
      refine ⟨H0, d, rfl, dr2, fun c H3 dr3 hc => ?_⟩
      walk_at "go"
      exact last c H3 dr3 hc
def p_L_letter (K : PySem.W.Frag) : P2 := fun x y H Q _ => ∃ (H0 : Hp) (d : Dd) (u : List Nat), x = .ref d.a ∧ y = S u ∧ u.length ≤ 10 ∧ Dr K d H0 H ∧ ∀ c H', Dr K d H0 H' → c ∈ AZ → c ∉ u → Q (S [c]) H'
theorem ok_L_letter (T : Txt K mg C_GlimError C_BadRound C_BadText C_BadLine C_BadSignal C_BadMessage C_TooLong C_Lines C_Signals C_dt_Signals___init__) : OK P w K mg base CX0 3 "_law_letter" ["_law_draw_here", "_law_used"] (sp2  (p_L_letter K)) := by
  refine OK.mk (k := 2) T.d_L_letter sc_L_letter len2 fun f cdv A outer s H vs Q E hr h => ?_
  obtain ⟨x, y, rfl, h⟩ := h
  refine ⟨_, (pss_cons (ps_setLc (i := 2) (own := [("_law_letter_here", 3)]) (g := gName 3) (by rfl) sc_L_letter.nd rfl rfl (sw_true rfl rfl rfl (by decide +kernel)) (piAny K (pe_S [97, 98, 99, 100, 101, 102, 103, 104, 105, 106, 107, 108, 109, 110, 111, 112, 113, 114, 115, 116, 117, 118, 119, 120, 121, 122])) (blkOk_by (own := [("_law_letter_here", 3)]) (N := ["_law_draw_here", "_law_used", "_law_pool", "_law_letter_here"]) (sc := (defScope s_L_letter)) (by decide +kernel)) (fun _ _ _ _ _ => (pg_name (i := 3) sc_L_letter.nd rfl (Or.inl rfl))) (fun _ _ _ _ _ => (pts_one (pt_cmpR (opNotIn K) (pv 3) (pv 1) (by with_unfolding_all rfl)))) (fun _ _ _ _ _ => (pv 3))) (pss_one (ps_ret (pe_ix (ixK K) (pv 2) (pe_f (ok_L_pick (K := K) T) (hr.mono (by decide)) pass0 (pa_cons (pv 0) (pa_cons (pe_callB (cLen K) (by rfl) T.b_len (by decide +kernel) (pa_cons (pv 2) pa_nil)) pa_nil))) (fun _ _ => rfl))))), ?_⟩
  show (_ : TS) { nx := fun _ H' => Q .non H', rt := Q } [some x, some y, none, none] H
  obtain ⟨H0, d, u, rfl, rfl, hu, dr, q⟩ := h
  walk_at "go"
  refine c_strF (z := AZ) (fun c => !decide (c ∈ u)) (fun R k => by walk_at "go"; exact k) (by decide) (fun _ => rfl) (fun c H2 hc s2 QB k => ?_) (fun c H2 hc s2 QV k => ?_) (fun Dl H2 n2 s2 d2 => ?_)
  · show (_ : TT) [some (.ref d.a), some (S u), none, some (S [c])] H2 QB
    walk_at "go"
    exact k H2 (Same.refl H2)
  · show (_ : TE) [some (.ref d.a), some (S u), none, some (S [c])] H2 QV
    walk_at "go"
    exact k H2 (Same.refl H2)
  · have dr2 := dr.got n2 s2 d2
    have ne : 1 ≤ (AZ.filter fun c => !decide (c ∈ u)).length := by
      rcases Nat.eq_zero_or_pos (AZ.filter fun c => !decide (c ∈ u)).length with z | z
      · rw [List.length_eq_zero_iff, List.filter_eq_nil_iff] at z
        have : AZ.length ≤ u.length := nd_len (by decide) fun c hc => by simpa using z c hc
        have : AZ.length = 26 := rfl
        omega
      · exact z
    walk_at "go"
    refine i_len_lst (.inl (.inl d2)) ?_
    walk_at "go"
    refine ⟨_, d, _, rfl, rfl, dr2, ?_, fun n H3 dr3 b3 => ?_⟩
    · rw [List.length_map]
      have := List.length_filter_le (fun c => !decide (c ∈ u)) AZ
      have : AZ.length = 26 := rfl
      omega
    rw [List.length_map] at b3
    have b0 := b3.1
    have bn : n.toNat < (AZ.filter fun c => !decide (c ∈ u)).length := by have := b3.2.1; have := b3.2.2; omega
    walk_at "go"
    refine i_ix_lst (v := S [(AZ.filter fun c => !decide (c ∈ u))[n.toNat]]) (.inl (.inl (dr3.old upd_same))) (atI_int b0 (by rw [List.getElem?_map, List.getElem?_eq_getElem bn]; rfl)) ?_
    have hm := List.mem_filter.mp (List.getElem_mem bn)
    exact q _ H3 (dr3.less dr.cells (dr.free n2)) hm.1 (by simpa using hm.2)
end
/-- pairs as they stand in a list -/
def Prs (H : Hp) (xs : List V) (ps : Tb) : Prop := AtAll H xs (ps.map sgP)
structure GoodR (l : List Nat) (m : Nat) : Prop where
  row : Row l
  ne : 1 ≤ l.length
  le : l.length ≤ m
theorem repl_len (n : Nat) (l : List Nat) : (List.replicate n l).flatten.length = n * l.length := by
  induction n with
  | zero => simp
  | succ n ih => rw [List.replicate_succ, List.flatten_cons, List.length_append, ih, Nat.succ_mul]; omega
theorem good_nil : GoodT [] := ⟨Nat.zero_le _, fun _ h => (List.not_mem_nil h).elim, fun _ h => (List.not_mem_nil h).elim, fun _ h => (List.not_mem_nil h).elim, fun _ h => (List.not_mem_nil h).elim, List.nodup_nil⟩
theorem good_add {ps : Tb} {c : Nat} {w : List Nat} (g : GoodT ps) (hl : ps.length < 4) (hc : c ∈ AZ) (hn : c ∉ ps.map (·.1)) (hw : Row w) (w1 : 1 ≤ w.length) (w2 : w.length ≤ 12) : GoodT (ps ++ [(c, w)]) := by
  have key : ∀ {P : Nat × List Nat → Prop}, (∀ p ∈ ps, P p) → P (c, w) → ∀ p ∈ ps ++ [(c, w)], P p := fun h1 h2 p hp => by
    rcases List.mem_append.mp hp with hp | hp
    · exact h1 p hp
    · rw [List.mem_singleton.mp hp]; exact h2
  refine ⟨by rw [List.length_append, List.length_singleton]; omega, key g.az hc, key g.lw w2, key g.ne (fun z => by rw [show w = [] from z] at w1; exact absurd w1 (by decide)), key g.ok (firstBad_none hw), ?_⟩
  rw [List.map_append, List.nodup_append]
  refine ⟨g.nd, by simp, fun a ha b hb => ?_⟩
  have : b = c := by simpa using hb
  rw [this]
  exact fun z => hn (by rw [← z]; exact ha)
section
variable {P : Program} {w : World} {K : PySem.W.Frag} {mg : Str → Option Value} {base : Heap} {C_GlimError C_BadRound C_BadText C_BadLine C_BadSignal C_BadMessage C_TooLong C_Lines C_Signals C_dt_Signals___init__ : Addr}
def p_L_talk (K : PySem.W.Frag) : P3 := fun x y z H Q _ => ∃ (H0 : Hp) (d : Dd), x = .ref d.a ∧ y = .int 4 ∧ z = .int 4 ∧ Dr K d H0 H ∧
  ∀ pl ps a b xs A H', Same H0 A → A d.a = none → GoodR pl 24 → GoodT ps → A b = some (.lst xs) → Prs A xs ps → A a = some (.tup [S pl, .ref b]) → Dr K d A H' → Q (.ref a) H'
theorem ok_L_talk (T : Txt K mg C_GlimError C_BadRound C_BadText C_BadLine C_BadSignal C_BadMessage C_TooLong C_Lines C_Signals C_dt_Signals___init__) : OK P w K mg base CX0 5 "_law_talk" ["_law_draw_here", "_law_many", "_law_most"] (sp3  (p_L_talk K)) := by
  refine OK.mk (k := 4) T.d_L_talk sc_L_talk len3 fun f cdv A outer s H vs Q E hr h => ?_
  obtain ⟨x, y, z, rfl, h⟩ := h
  refine ⟨_, (pss_cons (ps_set (i := 3) sc_L_talk.nd rfl (Or.inl rfl) (pe_f (ok_L_round (K := K) T) (hr.mono (by decide)) pass0 (pa_cons (pv 0) (pa_cons pe_int pa_nil)))) (pss_cons (ps_set (i := 4) sc_L_talk.nd rfl (Or.inl rfl) (pe_lst pa_nil)) (pss_cons (ps_set (i := 5) sc_L_talk.nd rfl (Or.inl rfl) (pe_S [])) (pss_cons (ps_set (i := 6) sc_L_talk.nd rfl (Or.inl rfl) (pv 3)) (pss_cons (ps_for PassesOwn.never rfl (pi_range1 rfl T.b_range (pa_cons (pe_f (ok_L_pick (K := K) T) (hr.mono (by decide)) pass0 (pa_cons (pv 0) (pa_cons (pe_op (opAdd K) (pv 1) pe_int) pa_nil))) pa_nil)) (pg_name (i := 7) sc_L_talk.nd rfl (Or.inl rfl)) (pss_cons (ps_set (i := 8) sc_L_talk.nd rfl (Or.inl rfl) (pe_f (ok_L_round (K := K) T) (hr.mono (by decide)) pass0 (pa_cons (pv 0) (pa_cons (pv 2) pa_nil)))) (Evl.pss_cut (ps_if (pt_cmpR (opEq K hr.units) (pe_f (ok_L_pick (K := K) T) (hr.mono (by decide)) pass0 (pa_cons (pv 0) (pa_cons pe_int pa_nil))) pe_int (nomark _)) (pss_one (ps_set (i := 8) sc_L_talk.nd rfl (Or.inl rfl) (pe_slice (slK K) (pe_f (ok_L_bent (K := K) T) (hr.mono (by decide)) pass0 (pa_cons (pv 0) (pa_cons (pv 6) pa_nil))) po_none (po_some (pv 2))))) pss_nil) (pss_cons (ps_set (i := 6) sc_L_talk.nd rfl (Or.inl rfl) (pv 8)) (Evl.pss_cut (ps_if (pt_cmpR (opEq K hr.units) (pe_f (ok_L_pick (K := K) T) (hr.mono (by decide)) pass0 (pa_cons (pv 0) (pa_cons pe_int pa_nil))) pe_int (nomark _)) (pss_one (ps_set (i := 8) sc_L_talk.nd rfl (Or.inl rfl) (pe_slice (slK K) (pe_op op_mulP (pv 8) pe_int) po_none (po_some pe_int)))) pss_nil) (pss_cons (ps_expr (peApp K (pv 4) (pa_cons (pe_tup (pa_cons (pe_f (ok_L_letter (K := K) T) (hr.mono (by decide)) pass0 (pa_cons (pv 0) (pa_cons (pv 5) pa_nil))) (pa_cons (pv 8) pa_nil))) pa_nil))) (pss_one (ps_set (i := 5) sc_L_talk.nd rfl (Or.inl rfl) (pe_op (opAdd K) (pv 5) (pe_ix (ixK K) (pe_ix (ixK K) (pv 4) (pe_un un_neg pe_int) (fun _ _ => rfl)) pe_int (fun _ _ => rfl))))))))))) (Evl.pss_cut (ps_if (pt_cmpR (opEq K hr.units) (pe_f (ok_L_pick (K := K) T) (hr.mono (by decide)) pass0 (pa_cons (pv 0) (pa_cons pe_int pa_nil))) pe_int (nomark _)) (pss_one (ps_set (i := 3) sc_L_talk.nd rfl (Or.inl rfl) (pe_slice (slK K) (pe_op op_mulP (pv 3) pe_int) po_none (po_some pe_int)))) pss_nil) (pss_one (ps_ret (pe_tup (pa_cons (pv 3) (pa_cons (pv 4) pa_nil))))))))))), ?_⟩
  show (_ : TS) { nx := fun _ H' => Q .non H', rt := Q } [some x, some y, some z, none, none, none, none, none, none] H
  obtain ⟨H0, d, rfl, rfl, rfl, dr, q⟩ := h
  walk_at "go"
  refine ⟨H0, d, 6, rfl, rfl, dr, by decide, by decide, fun pl H1 dr1 r1 l1 l2 => ?_⟩
  walk_at "go"
  refine i_new (by show 0 ≤ 100000; omega) fun b nb => ?_
  walk_at "go"
  have n0 : H0 b = none := dr1.free nb
  refine i_forR ?_
  walk_at "go"
  refine ⟨_, d, 5, rfl, rfl, dr1.new nb, by decide, fun t H3 dr3 b3 => ?_⟩
  have t0 := b3.1
  have t1 := b3.2.1 (by decide)
  refine i_rngD t0 (by omega) (fun i σ' H' => ∃ (ps : Tb) (xs : List V) (A : Hp) (last : List Nat) (v7 v8 : Option V), σ' = [some (.ref d.a), some (.int 4), some (.int 4), some (S pl), some (.ref b), some (S (ps.map (·.1))), some (S last), v7, v8] ∧
    ps.length = i ∧ GoodT ps ∧ Row last ∧ 1 ≤ last.length ∧ last.length ≤ 6 ∧ Same H0 A ∧ A b = none ∧ A d.a = none ∧ Prs A xs ps ∧ Dr K d (upd A b (.lst xs)) H')
    ⟨[], [], H0, pl, none, none, rfl, rfl, good_nil, r1, l1, by omega, Same.refl _, n0, dr.2.1, .nil, dr3⟩ ?_ ?_
  · rintro i σ' H4 hi ⟨ps, xs, A, last, v7, v8, rfl, hl, g, rl, l3, l4, sA, nA, nd, pr, dr4⟩
    have hi4 : ps.length < 4 := by omega
    walk_at "go"
    refine ⟨_, d, 4, rfl, rfl, dr4, by decide, by decide, fun w H5 dr5 rw1 w1 w2 => ?_⟩
    walk_at "go"
    refine i_cut (fun σ' H' => ∃ w' : List Nat, σ' = [some (.ref d.a), some (.int 4), some (.int 4), some (S pl), some (.ref b), some (S (ps.map (·.1))), some (S last), some (.int (i : Int)), some (S w')] ∧ Row w' ∧ 1 ≤ w'.length ∧ w'.length ≤ 4 ∧ Dr K d (upd A b (.lst xs)) H') ?_ ?_
    · walk_at "go"
      refine ⟨_, d, 3, rfl, rfl, dr5, by decide, fun k H6 dr6 b6 => ?_⟩
      walk_at "go"
      refine i_dec (fun a1 => ?_) (fun a1 => ?_)
      · walk_at "go"
        refine ⟨_, d, last, rfl, rfl, dr6, rl, l3, by omega, fun w' H7 dr7 rw' w1' w2' => ?_⟩
        walk_at "go"
        exact ⟨w'.take 4, rfl, rw'.take 4, by rw [List.length_take]; omega, by rw [List.length_take]; omega, dr7⟩
      · walk_at "go"
        exact ⟨w, rfl, rw1, w1, by omega, dr6⟩
    · rintro σ' H' ⟨w', rfl, rw', w1', w2', dr7⟩
      walk_at "go"
      refine i_cut (fun σ' H' => ∃ wv : List Nat, σ' = [some (.ref d.a), some (.int 4), some (.int 4), some (S pl), some (.ref b), some (S (ps.map (·.1))), some (S w'), some (.int (i : Int)), some (S wv)] ∧ Row wv ∧ 1 ≤ wv.length ∧ wv.length ≤ 12 ∧ Dr K d (upd A b (.lst xs)) H') ?_ ?_
      · walk_at "go"
        refine ⟨_, d, 8, rfl, rfl, dr7, by decide, fun k2 H9 dr9 b9 => ?_⟩
        walk_at "go"
        refine i_dec (fun a1 => ?_) (fun a1 => ?_)
        · walk_at "go"
          have hlen : (List.replicate 12 w').flatten.length = 12 * w'.length := repl_len 12 w'
          refine i_mul_strI (l := w') (k := 12) (by decide) ⟨by show w'.length * 12 ≤ 100000; omega, by decide⟩ ?_
          rw [show (12 : Int).toNat = 12 from rfl]
          have hrr := rw'.rep 12
          generalize (List.replicate 12 w').flatten = rr at *
          walk_at "go"
          exact ⟨rr.take 12, rfl, hrr.take 12, by rw [List.length_take, hlen]; omega, by rw [List.length_take]; omega, dr9⟩
        · walk_at "go"
          exact ⟨w', rfl, rw', w1', by omega, dr9⟩
      rintro σ' H' ⟨w4, rfl, rw4, w41, w42, dr9⟩
      walk_at "go"
      refine i_appAt (dr9.old upd_same) ?_
      walk_at "go"
      refine ⟨_, d, ps.map (·.1), rfl, rfl, by rw [List.length_map]; omega, dr9, fun c H10 dr10 hc hn => ?_⟩
      walk_at "go"
      refine i_new (by show 2 ≤ 100000; omega) fun tp ntp => ?_
      walk_at "go"
      have ebL := dr10.old (upd_same (H := A) (a := b) (o := .lst xs))
      have nbt : b ≠ tp := ne_of_none ebL ntp
      have nAt : A tp = none := by
        have := dr10.free ntp
        rw [upd_ne (fun z => nbt z.symm)] at this
        exact this
      have lx : xs.length = ps.length := by
        have := pr.len
        rw [List.length_map] at this
        exact this
      have dr11 := dr10.new (o := .tup [S [c], S w4]) ntp
      rw [upd_comm nbt] at dr11
      have sA2 : Same A (upd A tp (.tup [S [c], S w4])) := same_upd nAt
      have dr12 := Dr.put (o' := .lst (xs ++ [V.ref tp])) dr11 (sA2.seq (sA.seq dr.cells)) ((upd_ne nbt).trans nA)
      refine i_appEnd (l := b) (xs := xs) ((upd_ne nbt).trans ebL) (by omega) ?_
      walk_at "go"
      refine i_ix_lst (v := .ref tp) (.inl (.inl upd_same)) atI_last ?_
      walk_at "go"
      refine i_ix_tup (xs := [S [c], S w4]) (v := S [c]) (.inl (.inl ((upd_ne (fun z => nbt z.symm)).trans upd_same))) (atI_int (by decide) rfl) ?_
      walk_at "go"
      refine ⟨ps ++ [(c, w4)], xs ++ [.ref tp], _, w', _, _, by rw [List.map_append]; rfl, by rw [List.length_append, hl]; rfl, good_add g hi4 hc hn rw4 w41 w42, rw', w1', by omega, sA.trans sA2, (upd_ne nbt).trans nA, ?_, ?_, dr12⟩
      · exact (upd_ne (fun z => dr10.ne ntp z.symm)).trans nd
      · unfold Prs
        rw [List.map_append]
        exact (pr.same sA2).app (.cons (.tup upd_same (by decide : 2 ≤ 10000) (.cons (.str _ (by decide : 1 ≤ 10000)) (.cons (.str _ (by omega)) .nil))) .nil)
  · rintro σ' H' ⟨ps, xs, A, last, v7, v8, rfl, hl, g, rl, l3, l4, sA, nA, nd, pr, dr4⟩
    refine i_cut (fun σ' H' => ∃ pl' : List Nat, ∃ w7 w8 : Option V, σ' = [some (.ref d.a), some (.int 4), some (.int 4), some (S pl'), some (.ref b), some (S (ps.map (·.1))), some (S last), w7, w8] ∧ GoodR pl' 24 ∧ Dr K d (upd A b (.lst xs)) H') ?_ ?_
    · walk_at "go"
      refine ⟨_, d, 8, rfl, rfl, dr4, by decide, fun k2 H9 dr9 b9 => ?_⟩
      walk_at "go"
      refine i_dec (fun a1 => ?_) (fun a1 => ?_)
      · walk_at "go"
        have hlen : (List.replicate 24 pl).flatten.length = 24 * pl.length := repl_len 24 pl
        refine i_mul_strI (l := pl) (k := 24) (by decide) ⟨by show pl.length * 24 ≤ 100000; omega, by decide⟩ ?_
        rw [show (24 : Int).toNat = 24 from rfl]
        have hrr := r1.rep 24
        generalize (List.replicate 24 pl).flatten = rr at *
        walk_at "go"
        exact ⟨rr.take 24, _, _, rfl, ⟨hrr.take 24, by rw [List.length_take, hlen]; omega, by rw [List.length_take]; omega⟩, dr9⟩
      · walk_at "go"
        exact ⟨pl, _, _, rfl, ⟨r1, l1, by omega⟩, dr9⟩
    rintro σ' H' ⟨pl', w7, w8, rfl, gr, dr9⟩
    walk_at "go"
    refine i_new (by show 2 ≤ 100000; omega) fun tp ntp => ?_
    have nAt : upd A b (.lst xs) tp = none := dr9.free ntp
    have nbt : b ≠ tp := fun z => by rw [← z, upd_same] at nAt; cases nAt
    have s1 : Same A (upd A b (.lst xs)) := same_upd nA
    have s2 : Same (upd A b (.lst xs)) (upd (upd A b (.lst xs)) tp (.tup [S pl', .ref b])) := same_upd nAt
    have nda : (upd A b (.lst xs)) d.a = none := dr4.2.1
    exact q pl' ps tp b xs _ _ (sA.trans (s1.trans s2)) ((upd_ne (fun z => dr9.ne ntp z.symm)).trans nda) gr g ((upd_ne nbt).trans upd_same) (pr.same (s1.trans s2)) upd_same (dr9.new ntp)
end
section
variable {P : Program} {w : World} {K : PySem.W.Frag} {mg : Str → Option Value} {base : Heap} {C_GlimError C_BadRound C_BadText C_BadLine C_BadSignal C_BadMessage C_TooLong C_Lines C_Signals C_dt_Signals___init__ : Addr}
def p_L_least : P1 := fun x H Q _ => ∃ (a : Addr) (ts : List (List Nat)), x = .ref a ∧ H a = some (.lst (ts.map S)) ∧ ts ≠ [] ∧ (∀ t ∈ ts, t.length ≤ 1000) ∧ ∀ m H', Same H H' → m ∈ ts → (∀ y ∈ ts, ¬ lt2 y m) → Q (S m) H'
theorem ok_L_least (T : Txt K mg C_GlimError C_BadRound C_BadText C_BadLine C_BadSignal C_BadMessage C_TooLong C_Lines C_Signals C_dt_Signals___init__) : OK P w K mg base CX0 1 "_law_least" ["_law_texts_here"] (sp1  p_L_least) := by
  refine OK.mk (k := 0) T.d_L_least sc_L_least len1 fun f cdv A outer s H vs Q E hr h => ?_
  obtain ⟨x, rfl, h⟩ := h
  refine ⟨_, (pss_cons (ps_set (i := 1) sc_L_least.nd rfl (Or.inl rfl) (pe_ix (ixK K) (pv 0) pe_int (fun _ _ => rfl))) (pss_cons (ps_for PassesOwn.never rfl (piAny K (pv 0)) (pg_name (i := 2) sc_L_least.nd rfl (Or.inl rfl)) (pss_one (ps_if (pt_cmpR (Fg.opLtPS K hr.units0) (pe_tup (pa_cons (pe_callB (cLen K) (by rfl) T.b_len (by decide +kernel) (pa_cons (pv 2) pa_nil)) (pa_cons (pv 2) pa_nil))) (pe_tup (pa_cons (pe_callB (cLen K) (by rfl) T.b_len (by decide +kernel) (pa_cons (pv 1) pa_nil)) (pa_cons (pv 1) pa_nil))) (nomark _)) (pss_one (ps_set (i := 1) sc_L_least.nd rfl (Or.inl rfl) (pv 2))) pss_nil))) (pss_one (ps_ret (pv 1))))), ?_⟩
  show (_ : TS) { nx := fun _ H' => Q .non H', rt := Q } [some x, none, none] H
  obtain ⟨a, ts, rfl, ea, ne, tl, q⟩ := h
  obtain ⟨t0, r, rfl⟩ : ∃ t0 r, ts = t0 :: r := by
    cases ts with
    | nil => exact absurd rfl ne
    | cons t r => exact ⟨t, r, rfl⟩
  walk_at "go"
  refine Fg.i_forL (xs := (t0 :: r).map S) (.inl (.inl ea)) (fun i σ G => ∃ m v, σ = [some (.ref a), some (S m), v] ∧ Same H G ∧ m ∈ t0 :: r ∧ ∀ y ∈ (t0 :: r).take i, ¬ lt2 y m)
    ⟨t0, none, rfl, Same.refl _, List.mem_cons_self, fun y hy => absurd hy (by simp)⟩ (fun i σ' G _ p => ?_) ?_ ?_
  · obtain ⟨m, v, rfl, s1, _⟩ := p
    exact .inl (.inl (s1 _ _ ea))
  · rintro i y σ G hy ⟨m, v, rfl, s1, hm, hb⟩
    rw [List.getElem?_map] at hy
    obtain ⟨t, ht, rfl⟩ := Option.map_eq_some_iff.mp hy
    show (_ : TS) _ [some (.ref a), some (S m), some (S t)] G
    have tm : t ∈ t0 :: r := List.mem_of_getElem? ht
    have lt := tl t tm
    have lm := tl m hm
    walk_at "go"
    refine i_new (by show 2 ≤ 100000; omega) fun p1 n1 => ?_
    walk_at "go"
    refine i_new (by show 2 ≤ 100000; omega) fun p2 n2 => ?_
    have ne12 : p1 ≠ p2 := fun z => by rw [← z, upd_same] at n2; cases n2
    have s2 : Same H (upd (upd G p1 (.tup [.int (t.length : Int), S t])) p2 (.tup [.int (m.length : Int), S m])) := s1.trans ((same_upd n1).trans (same_upd n2))
    refine i_ltPS (.inl (.inl ((upd_ne ne12).trans upd_same))) (.inl (.inl upd_same)) ?_
    have hi : i < (t0 :: r).length := (List.getElem?_eq_some_iff.mp ht).1
    have step : (t0 :: r).take (i + 1) = (t0 :: r).take i ++ [t] := by rw [List.take_succ, ht]; rfl
    refine ⟨_, rfl, ?_⟩
    cases el : slt (t.length : Int) t (m.length : Int) m with
    | true =>
      rw [if_pos rfl]
      have l2 : lt2 t m := el
      walk_at "go"
      refine ⟨t, _, rfl, s2, tm, fun y hy => ?_⟩
      rw [step] at hy
      rcases List.mem_append.mp hy with h | h
      · exact fun z => hb y h (lt2_trans z l2)
      · rw [List.mem_singleton.mp h]; exact lt2_irrefl _
    | false =>
      rw [if_neg (by decide)]
      have l2 : ¬ lt2 t m := fun z => by rw [show slt (t.length : Int) t (m.length : Int) m = true from z] at el; cases el
      walk_at "go"
      refine ⟨m, _, rfl, s2, hm, fun y hy => ?_⟩
      rw [step] at hy
      rcases List.mem_append.mp hy with h | h
      · exact hb y h
      · rw [List.mem_singleton.mp h]; exact l2
  · rintro σ G ⟨m, v, rfl, s1, hm, hb⟩
    walk_at "go"
    exact q m G s1 hm (by rwa [List.take_of_length_le (by simp)] at hb)
/-- the texts of one item -/
def Its (row : List Nat) (ts : List (List Nat)) : Prop := (row.length = 1 → ts = [row]) ∧ (row.length ≠ 1 → ∀ t, t ∈ ts ↔ Cand fC row t)
def ItW (row : List Nat) (i : Nat) (ts : List (List Nat)) : Prop := ∀ t, t ∈ ts ↔ ((∃ c, row = rpt row.length [c] ∧ t = dec row.length ++ [c]) ∨ ∃ m, 1 ≤ m ∧ m < 1 + i ∧ m < row.length ∧ rpt (row.length / m) (row.take m) = row ∧ t = dec (row.length / m) ++ ([40] ++ (fC (row.take m) ++ [41])))
def p_L_items : P2 := fun x y H Q _ => ∃ (row : List Nat) (a : Addr) (n : Nat) (g : List Nat → Option V), x = S row ∧ y = .ref a ∧ 1 ≤ row.length ∧ row.length ≤ 24 ∧ TD n H a g ∧ (∀ k, 1 ≤ k → k < row.length → g (row.take k) = some (S (fC (row.take k)))) ∧
  ∀ H' p ts, Same H H' → H p = none → H' p = some (.lst (ts.map S)) → ts.length ≤ 100 → (∀ t ∈ ts, t.length ≤ 100) → Its row ts → Q (.ref p) H'
theorem ok_L_items (T : Txt K mg C_GlimError C_BadRound C_BadText C_BadLine C_BadSignal C_BadMessage C_TooLong C_Lines C_Signals C_dt_Signals___init__) : OK P w K mg base CX0 1 "_law_items" ["_law_row", "_law_parts"] (sp2  p_L_items) := by
  refine OK.mk (k := 0) T.d_L_items sc_L_items len2 fun f cdv A outer s H vs Q E hr h => ?_
  obtain ⟨x, y, rfl, h⟩ := h
  refine ⟨_, (pss_cons (ps_if (pt_cmpR (opEq K hr.units) (pe_callB (cLen K) (by rfl) T.b_len (by decide +kernel) (pa_cons (pv 0) pa_nil)) pe_int (nomark _)) (pss_one (ps_ret (pe_lst (pa_cons (pv 0) pa_nil)))) pss_nil) (pss_cons (ps_set (i := 2) sc_L_items.nd rfl (Or.inl rfl) (pe_lst pa_nil)) (Evl.pss_cut (ps_if (pt_cmpR (opEq K hr.units) (pv 0) (pe_op op_mulP (pe_ix (ixK K) (pv 0) pe_int (fun _ _ => rfl)) (pe_callB (cLen K) (by rfl) T.b_len (by decide +kernel) (pa_cons (pv 0) pa_nil))) (nomark _)) (pss_one (ps_expr (peApp K (pv 2) (pa_cons (pe_op (opAdd K) (pe_callTy Fg.call_strS (by rfl) T.b_str (by decide +kernel) (pa_cons (pe_callB (cLen K) (by rfl) T.b_len (by decide +kernel) (pa_cons (pv 0) pa_nil)) pa_nil)) (pe_ix (ixK K) (pv 0) pe_int (fun _ _ => rfl))) pa_nil)))) pss_nil) (pss_cons (ps_for PassesOwn.never rfl (pi_range2 rfl T.b_range (pa_cons pe_int (pa_cons (pe_callB (cLen K) (by rfl) T.b_len (by decide +kernel) (pa_cons (pv 0) pa_nil)) pa_nil))) (pg_name (i := 3) sc_L_items.nd rfl (Or.inl rfl)) (pss_cons (ps_set (i := 4) sc_L_items.nd rfl (Or.inl rfl) (pe_op op_fdivP (pe_callB (cLen K) (by rfl) T.b_len (by decide +kernel) (pa_cons (pv 0) pa_nil)) (pv 3))) (pss_one (ps_if (pt_cmpR (opEq K hr.units) (pe_op op_mulP (pe_slice (slK K) (pv 0) po_none (po_some (pv 3))) (pv 4)) (pv 0) (nomark _)) (pss_one (ps_expr (peApp K (pv 2) (pa_cons (pe_op (opAdd K) (pe_op (opAdd K) (pe_op (opAdd K) (pe_callTy Fg.call_strS (by rfl) T.b_str (by decide +kernel) (pa_cons (pv 4) pa_nil)) (pe_S [40])) (pe_dget (hu_of hr) (pv 1) (pe_slice (slK K) (pv 0) po_none (po_some (pv 3))) (fun _ _ => rfl))) (pe_S [41])) pa_nil)))) pss_nil)))) (pss_one (ps_ret (pv 2))))))), ?_⟩
  show (_ : TS) { nx := fun _ H' => Q .non H', rt := Q } [some x, some y, none, none, none] H
  obtain ⟨row, a, n, g, rfl, rfl, h1, h2, td, hg, q⟩ := h
  walk_at "go"
  refine i_dec (fun e1 => ?_) (fun e1 => ?_)
  · walk_at "go"
    refine i_new (by show 1 ≤ 100000; omega) fun p np => ?_
    exact q _ p [row] (same_upd np) np upd_same (by show 1 ≤ 100; omega) (fun t ht => by rw [List.mem_singleton.mp ht]; omega) ⟨fun _ => rfl, fun h => absurd (by omega) h⟩
  walk_at "go"
  refine i_new (by show 0 ≤ 100000; omega) fun L nL => ?_
  obtain ⟨c, r, rfl⟩ : ∃ c r, row = c :: r := by
    cases row with
    | nil => simp at h1
    | cons c r => exact ⟨c, r, rfl⟩
  generalize hrow : c :: r = row at *
  have hc0 : row[0]? = some c := by rw [← hrow]; rfl
  walk_at "go"
  refine i_cut (fun σ G => ∃ ts, σ = [some (S row), some (.ref a), some (.ref L), none, none] ∧ Same H G ∧ G L = some (.lst (ts.map S)) ∧ ts.length ≤ 1 ∧ (∀ t ∈ ts, t.length ≤ 100) ∧ ItW row 0 ts) ?_ ?_
  · have it0 : ∀ t, ¬ ∃ m, 1 ≤ m ∧ m < 1 + 0 ∧ m < row.length ∧ rpt (row.length / m) (row.take m) = row ∧ t = dec (row.length / m) ++ ([40] ++ (fC (row.take m) ++ [41])) := fun t ⟨m, a1, a2, _⟩ => by omega
    walk_at "go"
    refine i_ix_str (by omega) (by decide) hc0 ?_
    walk_at "go"
    refine i_mul_strI (Int.natCast_nonneg _) ⟨by show 1 * _ ≤ _; rw [Int.toNat_natCast]; omega, by rw [Int.toNat_natCast]; omega⟩ ?_
    rw [Int.toNat_natCast, show (List.replicate row.length [c]).flatten = rpt row.length [c] from rfl]
    walk_at "go"
    refine i_dec (fun e2 => ?_) (fun e2 => ?_)
    · have dl := dec_len row.length
      walk_at "go"
      refine i_appAt upd_same ?_
      walk_at "go"
      refine ⟨row.length, rfl, by omega, ?_⟩
      walk_at "go"
      refine i_ix_str (by omega) (by decide) hc0 ?_
      walk_at "go"
      refine i_appEnd (xs := []) upd_same (by show 0 < 100000; omega) ?_
      refine ⟨[dec row.length ++ [c]], rfl, Same.upd (same_upd nL) nL, upd_same, Nat.le_refl _, fun t ht => ?_, fun t => ?_⟩
      · rw [List.mem_singleton.mp ht, List.length_append, List.length_singleton]; omega
      · rw [List.mem_singleton]
        constructor
        · rintro rfl; exact .inl ⟨c, e2, rfl⟩
        · rintro (⟨c', e3, rfl⟩ | h)
          · have : c' = c := by
              have h0 := hc0
              rw [e3] at h0
              obtain ⟨k, hk⟩ : ∃ k, row.length = k + 1 := ⟨row.length - 1, by omega⟩
              rw [hk] at h0
              exact Option.some.inj h0
            rw [this]
          · exact absurd h (it0 t)
    · walk_at "go"
      refine ⟨[], rfl, same_upd nL, upd_same, Nat.zero_le _, fun t ht => absurd ht (by simp), fun t => ⟨fun h => absurd h (by simp), ?_⟩⟩
      rintro (⟨c', e3, rfl⟩ | h)
      · have : c' = c := by
          have h0 := hc0
          rw [e3] at h0
          obtain ⟨k, hk⟩ : ∃ k, row.length = k + 1 := ⟨row.length - 1, by omega⟩
          rw [hk] at h0
          exact Option.some.inj h0
        rw [this] at e3
        exact absurd e3 e2
      · exact absurd h (it0 t)
  rintro σ G ⟨ts, rfl, s1, eL, tl, tb, it⟩
  walk_at "go"
  refine f_rng2 1 row.length (fun R k => by walk_at "go"; exact k) (by omega) (fun i σ G => ∃ ts v3 v4, σ = [some (S row), some (.ref a), some (.ref L), v3, v4] ∧ Same H G ∧ G L = some (.lst (ts.map S)) ∧ ts.length ≤ 1 + i ∧ (∀ t ∈ ts, t.length ≤ 100) ∧ ItW row i ts)
    ⟨ts, none, none, rfl, s1, eL, tl, tb, it⟩ ?_ ?_
  · clear eL tl tb it
    rintro i σ G hi ⟨ts, v3, v4, rfl, s1, eL, tl, tb, it⟩
    have hm : 1 + i < row.length := hi
    have dl := dec_len (row.length / (1 + i))
    have hk24 : row.length / (1 + i) ≤ 24 := Nat.le_trans (Nat.div_le_self _ _) (by omega)
    have hdiv : (row.length : Int) / ((1 + i : Nat) : Int) = ((row.length / (1 + i) : Nat) : Int) := by rw [Int.natCast_ediv]
    have htl : (row.take (1 + i)).length = 1 + i := by rw [List.length_take]; omega
    have hkl : (1 + i) * (row.length / (1 + i)) ≤ row.length := Nat.mul_div_le _ _
    have next : ∀ {b : Bool}, (b = true ↔ rpt (row.length / (1 + i)) (row.take (1 + i)) = row) → ∀ ts2, (∀ t, t ∈ ts2 ↔ (t ∈ ts ∨ (b = true ∧ t = dec (row.length / (1 + i)) ++ ([40] ++ (fC (row.take (1 + i)) ++ [41]))))) → ItW row (i + 1) ts2 := fun {b} hb ts2 h t => by
      rw [h, it t, or_assoc]
      refine or_congr Iff.rfl ⟨?_, ?_⟩
      · rintro (⟨m, a1, a2, a3, a4, a5⟩ | ⟨hb2, e⟩)
        · exact ⟨m, a1, by omega, a3, a4, a5⟩
        · exact ⟨1 + i, by omega, by omega, hm, hb.mp hb2, e⟩
      · rintro ⟨m, a1, a2, a3, a4, a5⟩
        by_cases hmi : m = 1 + i
        · subst hmi; exact .inr ⟨hb.mpr a4, a5⟩
        · exact .inl ⟨m, a1, by omega, a3, a4, a5⟩
    walk_at "go"
    rw [hdiv]
    generalize hk : row.length / (1 + i) = k at *
    walk_at "go"
    rw [Int.toNat_natCast]
    refine i_mul_strI (Int.natCast_nonneg _) ⟨by rw [htl, Int.toNat_natCast]; omega, by rw [Int.toNat_natCast]; omega⟩ ?_
    rw [Int.toNat_natCast, show (List.replicate k (row.take (1 + i))).flatten = rpt k (row.take (1 + i)) from rfl]
    walk_at "go"
    refine i_dec (fun e2 => ?_) (fun e2 => ?_)
    · have cl := fC_len (p := row.take (1 + i)) (by intro z; have htl := htl; rw [z] at htl; have : 0 = 1 + i := htl; omega)
      walk_at "go"
      refine i_appAt eL ?_
      walk_at "go"
      refine ⟨k, rfl, by omega, ?_⟩
      walk_at "go"
      refine td_get (td.mono s1) (hg (1 + i) (by omega) hm) ?_
      walk_at "go"
      refine i_appEnd eL (by rw [List.length_map]; omega) ?_
      refine ⟨ts ++ [dec k ++ ([40] ++ (fC (row.take (1 + i)) ++ [41]))], _, _, rfl, Same.upd s1 nL, ?_, by rw [List.length_append, List.length_singleton]; omega, fun t ht => ?_, next (b := true) ⟨fun _ => e2, fun _ => rfl⟩ _ fun t => by rw [List.mem_append, List.mem_singleton]; exact or_congr Iff.rfl ⟨fun h => ⟨rfl, h⟩, fun h => h.2⟩⟩
      · rw [upd_same, List.map_append]
        simp
      · rcases List.mem_append.mp ht with h | h
        · exact tb t h
        · rw [List.mem_singleton.mp h]
          simp only [List.length_append, List.length_singleton]
          omega
    · walk_at "go"
      exact ⟨ts, _, _, rfl, s1, eL, by omega, tb, next (b := false) ⟨fun h => (by cases h), fun h => absurd h e2⟩ _ fun t => ⟨.inl, fun h => h.elim id fun h => (by cases h.1)⟩⟩
  · rintro σ G ⟨ts, v3, v4, rfl, s1, eL, tl, tb, it⟩
    walk_at "go"
    refine q G L ts s1 nL eL (by omega) tb ⟨fun h => absurd (by omega) e1, fun _ t => (it t).trans ?_⟩
    constructor
    · rintro (⟨c', e, rfl⟩ | ⟨m, a1, a2, a3, a4, rfl⟩)
      · exact ⟨row.length, [c'], by simp, by omega, e, .inl ⟨rfl, rfl⟩⟩
      · refine ⟨row.length / m, row.take m, ?_, ?_, a4.symm, .inr rfl⟩
        · intro z
          have := congrArg List.length z
          rw [List.length_take] at this
          have this : min m row.length = 0 := this
          omega
        · have hl := congrArg List.length a4
          rw [rpt_len, List.length_take, Nat.min_eq_left (by omega)] at hl
          generalize row.length / m = k at hl
          rcases Nat.lt_or_ge k 2 with h | h
          · exfalso
            have : k * m ≤ 1 * m := Nat.mul_le_mul_right _ (by omega)
            omega
          · exact h
    · rintro ⟨k, u, hu, hk, e, h⟩
      have hl := congrArg List.length e
      rw [rpt_len] at hl
      rcases h with ⟨h, rfl⟩ | rfl
      · obtain ⟨c', rfl⟩ := List.length_eq_one_iff.mp h
        have : row.length = k := by rw [hl]; simp
        subst this
        exact .inl ⟨c', e, rfl⟩
      · have hu1 : 1 ≤ u.length := List.length_pos_iff.mpr hu
        have hm : 2 * u.length ≤ k * u.length := Nat.mul_le_mul_right _ hk
        have et : row.take u.length = u := rpt_take (by omega) e
        have ek : row.length / u.length = k := by rw [hl, Nat.mul_div_cancel _ hu1]
        exact .inr ⟨u.length, hu1, by omega, by omega, by rw [et, ek]; exact e.symm, by rw [et, ek]⟩
theorem its_fI {row : List Nat} {ts : List (List Nat)} (h : Its row ts) : (∀ m, IsL (fun t => t ∈ ts) m → fI row = some m) ∧ (ts = [] → fI row = none) := by
  obtain ⟨h1, h2⟩ := h
  by_cases e : row.length = 1
  · rw [h1 e]
    obtain ⟨c, rfl⟩ := List.length_eq_one_iff.mp e
    refine ⟨fun m hm => ?_, fun z => (by cases z)⟩
    rw [fI_one, List.mem_singleton.mp hm.1]
  · have h2 := h2 e
    refine ⟨fun m hm => fI_isL e ⟨(h2 m).mp hm.1, fun y hy => hm.2 y ((h2 y).mpr hy)⟩, fun z => fI_none e fun t ht => ?_⟩
    have := (h2 t).mpr ht
    rw [z] at this
    exact absurd this (by simp)
/-- the least of one item, and of two parts put together -/
theorem fT_cuts {p : List Nat} {ts : List (List Nat)} {m : List Nat} (hp : p ≠ []) (h : Its p ts) (hm : IsL (fun t => t ∈ ts ∨ ∃ k, 1 ≤ k ∧ k < p.length ∧ t = fT (p.take k) ++ fT (p.drop k)) m) : fT p = m := by
  obtain ⟨h1, h2⟩ := its_fI h
  -- an item's text is a text
  have one : ∀ t, t ∈ ts → ∃ s, fI p = some s ∧ ¬ lt2 t s := fun t ht => by
    obtain ⟨s, hs, hb⟩ := fin_min (xs := ts) (by intro z; rw [z] at ht; exact absurd ht (by simp))
    exact ⟨s, h1 s ⟨hs, hb⟩, hb t ht⟩
  have isl := fT_isL p
  have single : ∀ s, fI p = some s → Comp fI p s := fun s hs => by
    have := Comp.cons (f := fI) hp hs .nil
    rwa [List.append_nil, List.append_nil] at this
  have both : ∀ a b : List Nat, ∀ s t, Comp fI a s → Comp fI b t → Comp fI (a ++ b) (s ++ t) := fun a b s t ha hb => by
    induction ha with
    | nil => exact hb
    | cons ha' hs' _ ih =>
      rw [List.append_assoc, List.append_assoc]
      exact .cons ha' hs' ih
  refine isl.uniq ?_
  have lower : ∀ y, Comp fI p y → ¬ lt2 y m := fun y hy => by
    obtain ⟨a, b, s, t', e, ha, hs, hb, rfl⟩ := hy.first hp
    by_cases hb0 : b = []
    · have := hb.empty hb0
      subst this
      subst hb0
      rw [List.append_nil] at e
      subst e
      rw [List.append_nil]
      -- s is the least of ts
      have hne : ts ≠ [] := fun z => by rw [h2 z] at hs; cases hs
      obtain ⟨s', hs', hb'⟩ := fin_min hne
      have := h1 s' ⟨hs', hb'⟩
      rw [hs] at this
      cases this
      exact hm.2 _ (.inl hs')
    · have ha1 : 1 ≤ a.length := List.length_pos_iff.mpr ha
      have hb1 : 1 ≤ b.length := List.length_pos_iff.mpr hb0
      have hl := congrArg List.length e
      rw [List.length_append] at hl
      have c1 : Comp fI a s := by
        have := Comp.cons (f := fI) ha hs .nil
        rwa [List.append_nil, List.append_nil] at this
      refine le2_trans (hm.2 _ (.inr ⟨a.length, ha1, by omega, by rw [e, List.take_left, List.drop_left]⟩)) ?_
      refine le2_trans (b := fT a ++ t') ?_ ?_
      · rw [lt2_left]; exact (fT_isL b).2 t' hb
      · rw [lt2_right]; exact (fT_isL a).2 s c1
  refine ⟨?_, lower⟩
  rcases hm.1 with h | ⟨k, k1, k2, rfl⟩
  · obtain ⟨s, hs, hb⟩ := one m h
    have := lower s (single s hs)
    rw [← lt2_tri this hb]
    exact single s hs
  · have := both _ _ _ _ (fT_isL (p.take k)).1 (fT_isL (p.drop k)).1
    rwa [List.take_append_drop] at this
/-- the dark beats behind, cut off -/
theorem fC_cuts {p z : List Nat} {j : Nat} {m : List Nat} (hp : p ≠ []) (e : p = z ++ List.replicate j 46) (hz : z.getLast? ≠ some 46) (hm : IsL (fun t => t = fT p ∨ ∃ k, max 1 z.length ≤ k ∧ k < p.length ∧ t = fT (p.take k) ++ (64 :: dec p.length)) m) : fC p = m := by
  have hl := congrArg List.length e
  rw [List.length_append, List.length_replicate] at hl
  refine fC_isL hp ?_
  have key : ∀ t, ClC fT p t ↔ (t = fT p ∨ ∃ k, max 1 z.length ≤ k ∧ k < p.length ∧ t = fT (p.take k) ++ (64 :: dec p.length)) := fun t => by
    refine or_congr Iff.rfl ⟨?_, ?_⟩
    · rintro ⟨a, i, ha, hi, e2, rfl⟩
      have ha1 : 1 ≤ a.length := List.length_pos_iff.mpr ha
      have hl2 := congrArg List.length e2
      rw [List.length_append, List.length_replicate] at hl2
      refine ⟨a.length, ?_, by omega, by rw [e2, List.take_left]⟩
      rcases Nat.lt_or_ge a.length z.length with h | h
      · exfalso
        obtain ⟨y, c, rfl⟩ : ∃ y c, z = y ++ [c] := ⟨z.dropLast, z.getLast (by intro q; rw [q] at h; simp at h), (List.dropLast_concat_getLast _).symm⟩
        rw [List.getLast?_append] at hz
        simp at hz
        rw [List.length_append, List.length_singleton] at h hl
        have g1 : p[y.length]? = some c := by rw [e, List.append_assoc, List.getElem?_append_right (Nat.le_refl _)]; simp
        have g2 : p[y.length]? = some 46 := by
          rw [e2, List.getElem?_append_right (by omega), List.getElem?_replicate, if_pos (by omega)]
        rw [g1] at g2
        exact hz (Option.some.inj g2)
      · omega
    · rintro ⟨k, k1, k2, rfl⟩
      refine ⟨p.take k, p.length - k, ?_, by omega, ?_, rfl⟩
      · intro q
        have := congrArg List.length q
        rw [List.length_take] at this
        have this : min k p.length = 0 := this
        omega
      · conv => lhs; rw [← List.take_append_drop k p]
        congr 1
        rw [e, List.drop_append, List.drop_of_length_le (by omega), List.nil_append, List.drop_replicate]
        congr 1
        rw [List.length_append, List.length_replicate]
        omega
  exact ⟨(key m).mpr hm.1, fun y hy => hm.2 y ((key y).mp hy)⟩
end
/-- both tables, where they are filled -/
def Ft (z : List Nat) (H : Hp) (I T : Addr) (N : Nat) (dom : Nat → Nat → Prop) : Prop := ∃ gi gt n m, TD n H I gi ∧ TD m H T gt ∧ n ≤ N ∧ m ≤ N ∧ (∀ u v, gi u = some v → v = S (fT u) ∧ gt u = some (S (fC u))) ∧ ∀ a k, dom a k → 1 ≤ k → a + k ≤ z.length → (gi (sub z a k)).isSome = true
theorem Ft.got {z : List Nat} {H : Hp} {I T : Addr} {N N' : Nat} {dom dom' : Nat → Nat → Prop} (h : Ft z H I T N dom) (hN : N ≤ N') (hd : ∀ a k, dom' a k → 1 ≤ k → a + k ≤ z.length → dom a k) : Ft z H I T N' dom' := by
  obtain ⟨gi, gt, n, m, a1, a2, a3, a4, a5, a6⟩ := h
  exact ⟨gi, gt, n, m, a1, a2, by omega, by omega, a5, fun a k x y w => a6 a k (hd a k x y w) y w⟩
section
variable {P : Program} {w : World} {K : PySem.W.Frag} {mg : Str → Option Value} {base : Heap} {C_GlimError C_BadRound C_BadText C_BadLine C_BadSignal C_BadMessage C_TooLong C_Lines C_Signals C_dt_Signals___init__ : Addr}
def p_L_folded : P1 := fun x H Q _ => ∃ z, x = S z ∧ IsRound z ∧ ∀ H', Same H H' → Q (S (fC z)) H'
theorem ok_L_folded (T : Txt K mg C_GlimError C_BadRound C_BadText C_BadLine C_BadSignal C_BadMessage C_TooLong C_Lines C_Signals C_dt_Signals___init__) : OK P w K mg base CX0 2 "_law_folded" ["_law_row"] (sp1  p_L_folded) := by
  refine OK.mk (k := 1) T.d_L_folded sc_L_folded len1 fun f cdv A outer s H vs Q E hr h => ?_
  obtain ⟨x, rfl, h⟩ := h
  refine ⟨_, (pss_cons (ps_set (i := 1) sc_L_folded.nd rfl (Or.inr rfl) pe_dnewK) (pss_cons (ps_set (i := 2) sc_L_folded.nd rfl (Or.inl rfl) pe_dnewK) (pss_cons (ps_for PassesOwn.never rfl (pi_range2 rfl T.b_range (pa_cons pe_int (pa_cons (pe_op (opAdd K) (pe_callB (cLen K) (by rfl) T.b_len (by decide +kernel) (pa_cons (pv 0) pa_nil)) pe_int) pa_nil))) (pg_name (i := 3) sc_L_folded.nd rfl (Or.inr rfl)) (pss_one (ps_for PassesOwn.never rfl (pi_range1 rfl T.b_range (pa_cons (pe_op (opAdd K) (pe_op op_subP (pe_callB (cLen K) (by rfl) T.b_len (by decide +kernel) (pa_cons (pv 0) pa_nil)) (pv 3)) pe_int) pa_nil)) (pg_name (i := 4) sc_L_folded.nd rfl (Or.inl rfl)) (pss_cons (ps_set (i := 5) sc_L_folded.nd rfl (Or.inr rfl) (pe_slice (slK K) (pv 0) (po_some (pv 4)) (po_some (pe_op (opAdd K) (pv 4) (pv 3))))) (pss_one (ps_if (pt_cmp (pc_dnotin (hu_of hr) (pv 5) (pv 1))) (pss_cons (ps_set (i := 6) sc_L_folded.nd rfl (Or.inl rfl) (pe_op (opAdd K) (pe_f (ok_L_items (K := K) T) (hr.mono (by decide)) pass0 (pa_cons (pv 5) (pa_cons (pv 2) pa_nil))) (pe_lc (own := [("_law_cut", 9)]) (g := gName 9) (tt := tYes) (by rfl) sc_L_folded.nd (pi_range2 rfl T.b_range (pa_cons pe_int (pa_cons (pv 3) pa_nil))) (blkOk_by (own := [("_law_cut", 9)]) (N := ["_law_row", "_law_items_here", "_law_parts", "_law_many", "_law_low", "_law_piece", "_law_texts_here", "_law_lit", "_law_tails", "_law_cut"]) (sc := (defScope s_L_folded)) (by decide +kernel)) (fun _ _ _ _ _ => (pg_name (i := 9) sc_L_folded.nd rfl (Or.inl rfl))) (fun _ _ _ _ _ => pts_nil) (fun _ _ _ _ _ => (pe_op (opAdd K) (pe_dget (hu_of hr) (pv 1) (pe_slice (slK K) (pv 5) po_none (po_some (pv 9))) (fun _ _ => rfl)) (pe_dget (hu_of hr) (pv 1) (pe_slice (slK K) (pv 5) (po_some (pv 9)) po_none) (fun _ _ => rfl))))))) (pss_cons (ps_dput (hu_of hr) (pv 1) (pv 5) (pe_f (ok_L_least (K := K) T) (hr.mono (by decide)) pass0 (pa_cons (pv 6) pa_nil)) rfl) (pss_cons (ps_set (i := 7) sc_L_folded.nd rfl (Or.inl rfl) (pe_callB (cLen K) (by rfl) T.b_len (by decide +kernel) (pa_cons (Fg.peRst K (pv 5) (pa_cons (pe_S [46]) pa_nil)) pa_nil))) (pss_cons (ps_setLc (i := 8) (own := [("_law_cut", 9)]) (g := gName 9) (tt := tYes) (by rfl) sc_L_folded.nd rfl rfl (sw_true rfl rfl rfl (by decide +kernel)) (pi_range2 rfl T.b_range (pa_cons (pe_callB (call_max2 rfl) (by rfl) T.b_max (by decide +kernel) (pa_cons pe_int (pa_cons (pv 7) pa_nil))) (pa_cons (pv 3) pa_nil))) (blkOk_by (own := [("_law_cut", 9)]) (N := ["_law_row", "_law_items_here", "_law_parts", "_law_many", "_law_low", "_law_piece", "_law_texts_here", "_law_lit", "_law_tails", "_law_cut"]) (sc := (defScope s_L_folded)) (by decide +kernel)) (fun _ _ _ _ _ => (pg_name (i := 9) sc_L_folded.nd rfl (Or.inl rfl))) (fun _ _ _ _ _ => pts_nil) (fun _ _ _ _ _ => (pe_op (opAdd K) (pe_op (opAdd K) (pe_dget (hu_of hr) (pv 1) (pe_slice (slK K) (pv 5) po_none (po_some (pv 9))) (fun _ _ => rfl)) (pe_S [64])) (pe_callTy Fg.call_strS (by rfl) T.b_str (by decide +kernel) (pa_cons (pv 3) pa_nil))))) (pss_one (ps_dput (hu_of hr) (pv 2) (pv 5) (pe_f (ok_L_least (K := K) T) (hr.mono (by decide)) pass0 (pa_cons (pe_op (opAdd K) (pe_lst (pa_cons (pe_dget (hu_of hr) (pv 1) (pv 5) (fun _ _ => rfl)) pa_nil)) (pv 8)) pa_nil)) rfl)))))) pss_nil)))))) (pss_one (ps_ret (pe_dget (hu_of hr) (pv 2) (pv 0) (fun _ _ => rfl))))))), ?_⟩
  show (_ : TS) { nx := fun _ H' => Q .non H', rt := Q } [some x, none, none, none, none, none, none, none, none, none] H
  obtain ⟨z, rfl, hz, q⟩ := h
  have hz1 := hz.1
  have hz2 := hz.2.1
  walk_at "go"
  refine i_dnewK fun I nI => ?_
  walk_at "go"
  refine i_dnewK fun Tt nT => ?_
  have neIT : I ≠ Tt := fun e => by rw [← e, upd_same] at nT; cases nT
  have nT1 : H Tt = none := by rw [upd_ne (Ne.symm neIT)] at nT; exact nT
  have ti : TD 0 (upd (upd H I (.dK [])) Tt (.dK [])) I (fun _ => none) := TD.new.at (upd_ne neIT)
  have tt : TD 0 (upd (upd H I (.dK [])) Tt (.dK [])) Tt (fun _ => none) := TD.new
  have sB : Same H (upd (upd H I (.dK [])) Tt (.dK [])) := Same.upd (same_upd nI) nT1
  have ds0 : Ft z (upd (upd H I (.dK [])) Tt (.dK [])) I Tt 0 (fun a k => k < 1) := ⟨_, _, 0, 0, ti, tt, Nat.le_refl _, Nat.le_refl _, (fun u v e => by cases e), fun a k h1 h2 => absurd h2 (by have : k < 1 := h1; omega)⟩
  generalize (upd (upd H I (.dK [])) Tt (.dK [])) = H2 at *
  walk_at "go"
  refine f_rng2 1 (z.length + 1) (fun R k => by walk_at "go"; rw [Int.natCast_add] at k; exact k) (by omega) (fun i σ H' => ∃ v4 v5 v6 v7 v8 v9 v3 : Option V, σ = [some (S z), some (.ref I), some (.ref Tt), v3, v4, v5, v6, v7, v8, v9] ∧ Same H H' ∧ Ft z H' I Tt (30 * i) (fun a k => k < 1 + i) ∧ i ≤ 24) ⟨_, _, _, _, _, _, _, rfl, sB, ds0, by omega⟩ ?_ ?_
  · rintro i σ H3 hi ⟨v4, v5, v6, v7, v8, v9, v3, rfl, s3, ds, hi24⟩
    show (_ : TS) _ [some (S z), some (.ref I), some (.ref Tt), some (.int ((1 + i : Nat) : Int)), v4, v5, v6, v7, v8, v9] H3
    walk_at "go"
    refine f_rng1 (z.length - i) (fun R k => by walk_at "go"; rw [show (z.length : Int) - ((1 + i : Nat) : Int) + 1 = ((z.length - i : Nat) : Int) by omega]; exact k) (by omega) (fun j σ H' => ∃ v4 v5 v6 v7 v8 v9 : Option V, σ = [some (S z), some (.ref I), some (.ref Tt), some (.int ((1 + i : Nat) : Int)), v4, v5, v6, v7, v8, v9] ∧ Same H H' ∧ Ft z H' I Tt (30 * i + j) (fun a k => k < 1 + i ∨ (k = 1 + i ∧ a < j)) ∧ j ≤ 24) ⟨_, _, _, _, _, _, rfl, s3, ds.got (by omega) (fun a k h _ _ => by omega), by omega⟩ ?_ ?_
    · rintro j σ H4 hj ⟨v4, v5, v6, v7, v8, v9, rfl, s4, ds4, hj24⟩
      show (_ : TS) _ [some (S z), some (.ref I), some (.ref Tt), some (.int ((1 + i : Nat) : Int)), some (.int (j : Int)), v5, v6, v7, v8, v9] H4
      have hjm : j + (1 + i) ≤ z.length := by omega
      have hpl := sub_len hjm
      have hpn := sub_ne hjm (by omega)
      walk_at "go"
      rw [← Int.natCast_add]
      refine i_sl_str (by omega) ?_
      rw [cutN_mid, show (z.drop j).take (1 + i) = sub z j (1 + i) from rfl]
      walk_at "go"
      obtain ⟨gi, gt, n, m, t1, t2, hn, hm, gv, gd⟩ := id ds4
      refine td_ask t1 ?_
      -- what is known of its parts
      have kn : ∀ a k, (k < 1 + i ∨ (k = 1 + i ∧ a < j)) → 1 ≤ k → a + k ≤ z.length → gi (sub z a k) = some (S (fT (sub z a k))) ∧ gt (sub z a k) = some (S (fC (sub z a k))) := fun a k h k1 k2 => by
        obtain ⟨v, hv⟩ := Option.isSome_iff_exists.mp (gd a k h k1 k2)
        obtain ⟨e1, e2⟩ := gv _ v hv
        exact ⟨by rw [hv, e1], e2⟩
      have tk : ∀ k, 1 ≤ k → k < 1 + i → (sub z j (1 + i)).take k = sub z j k ∧ (sub z j (1 + i)).drop k = sub z (j + k) (1 + i - k) := fun k k1 k2 => ⟨sub_take (by omega), sub_drop⟩
      cases hgt : gi (sub z j (1 + i)) with
      | some v =>
        simp only [Option.isSome_some, Bool.not_true]
        walk_at "go"
        refine ⟨_, _, _, _, _, _, rfl, s4, ?_, by omega⟩
        refine ⟨gi, gt, n, m, t1, t2, by omega, by omega, gv, fun a k hd k1 k2 => ?_⟩
        by_cases e : k = 1 + i ∧ a = j
        · rw [e.1, e.2, hgt]; rfl
        · exact gd a k (by omega) k1 k2
      | none =>
        simp only [Option.isSome_none, Bool.not_false]
        walk_at "go"
        generalize hp : sub z j (1 + i) = p at *
        refine ⟨p, Tt, m, gt, rfl, rfl, by omega, by omega, t2, fun k k1 k2 => ?_, fun H5 L ts s5 nL eL tl tb it => ?_⟩
        · obtain ⟨e1, _⟩ := tk k k1 (by omega)
          rw [e1]
          exact (kn j k (.inl (by omega)) k1 (by omega)).2
        walk_at "go"
        refine c_rng2A 1 (1 + i) (fun R k => by walk_at "go"; exact k) (by omega) (fun c => S (fT (p.take (1 + c)) ++ fT (p.drop (1 + c)))) (fun _ => rfl) (fun c H6 hc s6 QV k => ?_) (fun L2 H6 n2 s6 e2 => ?_)
        · show (_ : TE) [some (S z), some (.ref I), some (.ref Tt), some (.int ((1 + i : Nat) : Int)), some (.int (j : Int)), some (S p), v6, v7, v8, some (.int ((1 + c : Nat) : Int))] H6 QV
          obtain ⟨e1, e2⟩ := tk (1 + c) (by omega) hc
          have g1 := (kn j (1 + c) (.inl hc) (by omega) (by omega)).1
          have g2 := (kn (j + (1 + c)) (1 + i - (1 + c)) (.inl (by omega)) (by omega) (by omega)).1
          rw [← e1] at g1
          rw [← e2] at g2
          have l1 := fT_len (p.take (1 + c))
          have l2 := fT_len (p.drop (1 + c))
          rw [List.length_take] at l1
          rw [List.length_drop] at l2
          have tI := (t1.mono s5).mono s6
          walk_at "go"
          rw [Int.toNat_natCast]
          refine td_get tI g1 ?_
          walk_at "go"
          rw [Int.toNat_natCast]
          refine td_get tI g2 ?_
          walk_at "go"
          exact k H6 (Same.refl _)
        walk_at "go"
        have tsl : (ts.map S ++ (List.range (1 + i - 1)).map fun c => S (fT (p.take (1 + c)) ++ fT (p.drop (1 + c)))) = (ts ++ (List.range (1 + i - 1)).map fun c => fT (p.take (1 + c)) ++ fT (p.drop (1 + c))).map S := by
          rw [List.map_append, List.map_map]; rfl
        refine i_catL (s6 _ _ eL) e2 (by rw [List.length_map, List.length_map, List.length_range]; omega) fun L3 n3 => ?_
        rw [tsl]
        have memA : ∀ t, t ∈ (ts ++ (List.range (1 + i - 1)).map fun c => fT (p.take (1 + c)) ++ fT (p.drop (1 + c))) ↔ (t ∈ ts ∨ ∃ k, 1 ≤ k ∧ k < p.length ∧ t = fT (p.take k) ++ fT (p.drop k)) := fun t => by
          rw [List.mem_append, List.mem_map]
          refine or_congr Iff.rfl ⟨?_, ?_⟩
          · rintro ⟨c, hc, rfl⟩
            rw [List.mem_range] at hc
            exact ⟨1 + c, by omega, by omega, rfl⟩
          · rintro ⟨k, k1, k2, rfl⟩
            exact ⟨k - 1, List.mem_range.mpr (by omega), by rw [show 1 + (k - 1) = k by omega]⟩
        generalize (ts ++ (List.range (1 + i - 1)).map fun c => fT (p.take (1 + c)) ++ fT (p.drop (1 + c))) = all at *
        have s7 : Same H (upd H6 L3 (.lst (all.map S))) := ((s4.trans s5).trans s6).trans (same_upd n3)
        have t1a := ((t1.mono s5).mono s6).mono (same_upd (o := .lst (all.map S)) n3)
        have t2a := ((t2.mono s5).mono s6).mono (same_upd (o := .lst (all.map S)) n3)
        have eA : upd H6 L3 (.lst (all.map S)) L3 = some (.lst (all.map S)) := upd_same
        generalize upd H6 L3 (.lst (all.map S)) = H7 at *
        walk_at "go"
        refine ⟨L3, all, rfl, eA, ?_, fun t ht => ?_, fun mm H8 s8 hm1 hm2 => ?_⟩
        · intro za
          by_cases e1 : p.length = 1
          · have := (memA p).mpr (.inl (by rw [it.1 e1]; exact List.mem_cons_self))
            rw [za] at this
            exact absurd this (by simp)
          · have := (memA (fT (p.take 1) ++ fT (p.drop 1))).mpr (.inr ⟨1, Nat.le_refl _, by omega, rfl⟩)
            rw [za] at this
            exact absurd this (by simp)
        · rcases (memA t).mp ht with h | ⟨k, k1, k2, rfl⟩
          · have := tb t h; omega
          · have l1 := fT_len (p.take k)
            have l2 := fT_len (p.drop k)
            rw [List.length_take] at l1
            rw [List.length_drop] at l2
            rw [List.length_append]; omega
        have efT : fT p = mm := fT_cuts hpn it ⟨(memA mm).mp hm1, fun y hy => hm2 y ((memA y).mpr hy)⟩
        subst efT
        have lfT := fT_len p
        replace t1a := t1a.mono s8
        replace t2a := t2a.mono s8
        have s9 := s7.trans s8
        clear eA hm1 hm2 memA tsl eL tb it e2 n3
        walk_at "go"
        refine td_put t1a (by omega) fun o5 t3 => ?_
        have s10 : Same H (upd H8 I o5) := Same.upd s9 nI
        have t4 : TD m (upd H8 I o5) Tt gt := t2a.at (upd_ne (Ne.symm neIT))
        generalize upd H8 I o5 = H9 at *
        walk_at "go"
        refine i_rst ?_
        walk_at "go"
        refine ⟨rfl, ?_⟩
        walk_at "go"
        refine i_rst46 (l := p) (by omega) fun zz jj ez hz => ?_
        have lz := congrArg List.length ez
        rw [List.length_append, List.length_replicate] at lz
        walk_at "go"
        have gsub : ∀ k, 1 ≤ k → k < 1 + i → setT gi p (S (fT p)) (p.take k) = some (S (fT (p.take k))) := fun k k1 k2 => by
          obtain ⟨e1, _⟩ := tk k k1 k2
          have g1 := (kn j k (.inl k2) k1 (by omega)).1
          rw [← e1] at g1
          unfold setT
          rw [if_neg (fun h => by
            have := congrArg List.length h
            rw [List.length_take, hpl] at this
            omega)]
          exact g1
        have gp : setT gi p (S (fT p)) p = some (S (fT p)) := by unfold setT; rw [if_pos rfl]
        refine c_rng2A (max 1 zz.length) (1 + i) (fun R k => by
          walk_at "go"
          refine ⟨1, (zz.length : Int), rfl, ?_⟩
          walk_at "go"
          rw [show (if (zz.length : Int) > 1 then (zz.length : Int) else 1) = ((max 1 zz.length : Nat) : Int) by split <;> omega]
          exact k) (by omega) (fun c => S (fT (p.take (max 1 zz.length + c)) ++ [64] ++ dec (1 + i))) (fun _ => rfl) (fun c H10 hc s11 QV k => ?_) (fun L4 H10 n4 s11 e4 => ?_)
        · show (_ : TE) [some (S z), some (.ref I), some (.ref Tt), some (.int ((1 + i : Nat) : Int)), some (.int (j : Int)), some (S p), some (.ref L3), some (.int (zz.length : Int)), v8, some (.int ((max 1 zz.length + c : Nat) : Int))] H10 QV
          have l1 := fT_len (p.take (max 1 zz.length + c))
          rw [List.length_take] at l1
          have dl := dec_len (1 + i)
          walk_at "go"
          rw [Int.toNat_natCast]
          refine td_get (t3.mono s11) (gsub _ (by omega) hc) ?_
          walk_at "go"
          refine ⟨1 + i, rfl, by omega, ?_⟩
          walk_at "go"
          exact k H10 (Same.refl _)
        walk_at "go"
        refine td_get (t3.mono s11) gp ?_
        walk_at "go"
        refine i_new (by show 1 ≤ 100000; omega) fun L5 n5 => ?_
        walk_at "go"
        refine i_catL upd_same ((same_upd n5) _ _ e4) (by rw [List.length_map, List.length_range]; show 1 + _ ≤ 100000; omega) fun L6 n6 => ?_
        have tsl : ([S (fT p)] ++ (List.range (1 + i - max 1 zz.length)).map fun c => S (fT (p.take (max 1 zz.length + c)) ++ [64] ++ dec (1 + i))) = (fT p :: (List.range (1 + i - max 1 zz.length)).map fun c => fT (p.take (max 1 zz.length + c)) ++ [64] ++ dec (1 + i)).map S := by
          rw [List.map_cons, List.map_map]; rfl
        rw [tsl]
        have memA : ∀ t, t ∈ (fT p :: (List.range (1 + i - max 1 zz.length)).map fun c => fT (p.take (max 1 zz.length + c)) ++ [64] ++ dec (1 + i)) ↔ (t = fT p ∨ ∃ k, max 1 zz.length ≤ k ∧ k < p.length ∧ t = fT (p.take k) ++ (64 :: dec p.length)) := fun t => by
          rw [List.mem_cons, List.mem_map, hpl]
          refine or_congr Iff.rfl ⟨?_, ?_⟩
          · rintro ⟨c, hc, rfl⟩
            rw [List.mem_range] at hc
            exact ⟨max 1 zz.length + c, by omega, by omega, by rw [List.append_assoc]; rfl⟩
          · rintro ⟨k, k1, k2, rfl⟩
            exact ⟨k - max 1 zz.length, List.mem_range.mpr (by omega), by rw [show max 1 zz.length + (k - max 1 zz.length) = k by omega, List.append_assoc]; rfl⟩
        generalize (fT p :: (List.range (1 + i - max 1 zz.length)).map fun c => fT (p.take (max 1 zz.length + c)) ++ [64] ++ dec (1 + i)) = all at *
        have s5b : Same H10 (upd H10 L5 (.lst [S (fT p)])) := same_upd n5
        generalize upd H10 L5 (.lst [S (fT p)]) = H11 at *
        have s12 : Same H9 (upd H11 L6 (.lst (all.map S))) := (s11.trans s5b).trans (same_upd n6)
        have eA : upd H11 L6 (.lst (all.map S)) L6 = some (.lst (all.map S)) := upd_same
        generalize upd H11 L6 (.lst (all.map S)) = H12 at *
        walk_at "go"
        refine ⟨L6, all, rfl, eA, ?_, fun t ht => ?_, fun mm H13 s13 hm1 hm2 => ?_⟩
        · intro za
          have := (memA (fT p)).mpr (.inl rfl)
          rw [za] at this
          exact absurd this (by simp)
        · rcases (memA t).mp ht with rfl | ⟨k, k1, k2, rfl⟩
          · omega
          · have l1 := fT_len (p.take k)
            rw [List.length_take] at l1
            have dl := dec_len p.length
            rw [List.length_append, List.length_cons]
            omega
        have efC : fC p = mm := fC_cuts hpn ez hz ⟨(memA mm).mp hm1, fun y hy => hm2 y ((memA y).mpr hy)⟩
        subst efC
        walk_at "go"
        refine td_put ((t4.mono s12).mono s13) (by omega) fun o7 t8 => ?_
        have t9 : TD (n + 1) (upd H13 Tt o7) I (setT gi p (S (fT p))) := ((t3.mono s12).mono s13).at (upd_ne neIT)
        have sF := Same.upd (o := o7) ((s10.trans s12).trans s13) nT1
        refine ⟨_, _, _, _, _, _, rfl, sF, ?_, by omega⟩
        refine ⟨_, _, n + 1, m + 1, t9, t8, by omega, by omega, fun u v e => ?_, fun a k hd k1 k2 => ?_⟩
        · unfold setT at e ⊢
          by_cases hu : u = p
          · rw [if_pos hu] at e ⊢
            rw [hu]
            exact ⟨(Option.some.inj e).symm, rfl⟩
          · rw [if_neg hu] at e ⊢
            exact gv u v e
        · unfold setT
          by_cases hu : sub z a k = p
          · rw [if_pos hu]; rfl
          · rw [if_neg hu]
            refine gd a k ?_ k1 k2
            rcases hd with hd | ⟨hd1, hd2⟩
            · exact .inl hd
            · refine .inr ⟨hd1, ?_⟩
              by_cases e : a = j
              · exact absurd (by rw [hd1, e]; exact hp) hu
              · omega
    · rintro σ H4 ⟨v4, v5, v6, v7, v8, v9, rfl, s4, ds4, hj24⟩
      exact ⟨_, _, _, _, _, _, _, rfl, s4, ds4.got (by omega) (fun a k h h1 h2 => by omega), by omega⟩
  · rintro σ H3 ⟨v4, v5, v6, v7, v8, v9, v3, rfl, s3, ds, hi24⟩
    obtain ⟨gi, gt, n, m, t1, t2, hn, hm, gv, gd⟩ := ds
    obtain ⟨v, hv⟩ := Option.isSome_iff_exists.mp (gd 0 z.length (by omega) hz1 (by omega))
    obtain ⟨_, e2⟩ := gv _ v hv
    rw [sub_all] at e2
    walk_at "go"
    refine td_get t2 e2 ?_
    walk_at "go"
    exact q H3 s3
end
abbrev Tx := List (List Nat × Option (List Nat))
abbrev TX0 : List (List Nat × Option (List Nat)) := [([50, 119, 46], some [119, 119, 46]), ([119, 64, 52], some [119, 46, 46, 46]), ([50, 40, 119, 46, 41, 114], some [119, 46, 119, 46, 114]), ([51, 40, 50, 119, 46, 41, 114, 38, 46], some [119, 119, 46, 119, 119, 46, 119, 119, 46, 114]), ([50, 40, 119, 46, 41, 64, 49, 48], some [119, 46, 119, 46, 46, 46, 46, 46, 46, 46])]
abbrev TX1 : List (List Nat × Option (List Nat)) := [([119, 38, 114, 46], some [119, 119]), ([114, 46, 38, 46, 103], some [114, 103]), ([50, 52, 119], some [119, 119, 119, 119, 119, 119, 119, 119, 119, 119, 119, 119, 119, 119, 119, 119, 119, 119, 119, 119, 119, 119, 119, 119]), ([49, 50, 40, 46, 114, 41], some [46, 114, 46, 114, 46, 114, 46, 114, 46, 114, 46, 114, 46, 114, 46, 114, 46, 114, 46, 114, 46, 114, 46, 114]), ([103, 46, 38, 119, 46, 46], some [103, 46, 103, 119, 103, 46])]
abbrev TX2 : List (List Nat × Option (List Nat)) := [([50, 40, 119, 64, 51, 41], some [119, 46, 46, 119, 46, 46]), ([103, 64, 49], some [103]), ([50, 40, 50, 40, 103, 41, 114, 41], some [103, 103, 114, 103, 103, 114]), ([49, 48, 46], some [46, 46, 46, 46, 46, 46, 46, 46, 46, 46]), ([119, 50, 46, 64, 51], some [119, 46, 46]), ([46, 38, 114], some [114])]
abbrev TX3 : List (List Nat × Option (List Nat)) := [([114, 64, 50, 52], some [114, 46, 46, 46, 46, 46, 46, 46, 46, 46, 46, 46, 46, 46, 46, 46, 46, 46, 46, 46, 46, 46, 46, 46])]
abbrev TX4 : List (List Nat × Option (List Nat)) := [([], none), ([120], none), ([50], none), ([48, 119], none), ([49, 119], none), ([50, 53, 119], none), ([119, 38], none), ([38, 119], none), ([50, 40, 119], none), ([119, 41], none), ([50, 40, 41], none), ([119, 64, 48], none), ([119, 119, 64, 49], none), ([119, 64, 50, 53], none), ([50, 52, 40, 119, 119, 41], none)]
abbrev TX5 : List (List Nat × Option (List Nat)) := [([40, 119, 41], none), ([50, 119, 64, 51, 103], none), ([48, 50, 119], none), ([50, 40, 50, 52, 119, 41], none)]
abbrev TXS : List (List Nat × Option (List Nat)) := TX0 ++ (TX1 ++ (TX2 ++ (TX3 ++ (TX4 ++ TX5))))
def tabK (t : Tx) : List (Key × V) := t.map fun e => (kS e.1, oS e.2)
theorem tab_val : ∀ (t : Tx) (w : List Nat), valV (tabK t) (kS w) = (t.lookup w).map oS
  | [], _ => rfl
  | (k, o) :: r, w => by
    have ih := tab_val r w
    rw [List.lookup_cons]
    by_cases e : w = k
    · subst e
      rw [show (w == w) = true by simp]
      exact valV_pos rfl
    · rw [show (w == k) = false by simpa using e]
      exact (valV_neg (fun z => e (kS_inj.mp z).symm)).trans ih
theorem tab_len (t : Tx) : (tabK t).length = t.length := List.length_map ..
theorem look_no : ∀ {t : Tx} {w : List Nat}, w ∉ t.map (·.1) → t.lookup w = none
  | [], _, _ => rfl
  | (k, o) :: r, w, h => by
    rw [List.map_cons, List.mem_cons, not_or] at h
    rw [List.lookup_cons, show (w == k) = false by simpa using h.1]
    exact look_no h.2
theorem look_in : ∀ {t : Tx} {w : List Nat} {o : Option (List Nat)}, t.lookup w = some o → (w, o) ∈ t
  | [], _, _, h => by cases h
  | (k, o1) :: r, w, o, h => by
    rw [List.lookup_cons] at h
    by_cases e : w = k
    · subst e
      rw [show (w == w) = true by simp] at h
      cases h
      exact List.mem_cons_self
    · rw [show (w == k) = false by simpa using e] at h
      exact List.mem_cons_of_mem _ (look_in h)
theorem tab_put {t : Tx} {w : List Nat} {o : Option (List Nat)} (h : w ∉ t.map (·.1)) : putK (tabK t) (kS w) (oS o) = tabK (t ++ [(w, o)]) := by
  rw [putK_new (by rw [tab_val, look_no h]; rfl)]
  unfold tabK
  rw [List.map_append]
  rfl
theorem tab_put_in {t : Tx} {w : List Nat} {o : Option (List Nat)} (h : w ∈ t.map (·.1)) (hv : ∀ e ∈ t, e.1 = w → e.2 = o) : putK (tabK t) (kS w) (oS o) = tabK t := by
  unfold putK
  rw [if_pos]
  · unfold tabK
    rw [List.map_map]
    refine List.map_congr_left fun e he => ?_
    show (if kS e.1 = kS w then (kS e.1, oS o) else (kS e.1, oS e.2)) = (kS e.1, oS e.2)
    split
    · rename_i z; rw [hv e he (kS_inj.mp z)]
    · rfl
  · rw [List.any_eq_true]
    obtain ⟨e, he, z⟩ := List.mem_map.mp h
    exact ⟨(kS e.1, oS e.2), List.mem_map_of_mem he, decide_eq_true (congrArg kS z)⟩
theorem tab_all : ∀ (m t : Tx), ((t ++ m).map (·.1)).Nodup → allPut (tabK t) (tabK m) = tabK (t ++ m)
  | [], t, _ => by rw [List.append_nil]; rfl
  | (w, o) :: r, t, h => by
    show allPut (putK (tabK t) (kS w) (oS o)) (tabK r) = _
    have e : t ++ (w, o) :: r = (t ++ [(w, o)]) ++ r := by simp
    have hw : w ∉ t.map (·.1) := fun z => by
      rw [List.map_append, List.nodup_append] at h
      exact h.2.2 w z w (List.mem_map_of_mem (a := (w, o)) List.mem_cons_self) rfl
    rw [tab_put hw, tab_all r _ (by rw [← e]; exact h), ← e]
theorem tx_nd : (TXS.map (·.1)).Nodup := by decide +kernel
/-- the reader once more, by plain recursion -/
def itN (z : List Nat) : Nat → Nat → Res
  | 0 => item none z
  | d + 1 => item (some (parts (itN z d) z)) z
theorem itN_eq (z : List Nat) : ∀ d, rdItem z d = itN z d
  | 0 => by rw [rdItem_zero]; rfl
  | d + 1 => by rw [rdItem_succ, rd_eq, itN_eq z d]; rfl
def rdN (w : List Nat) : Option (List Nat) := match parts (itN w 6) w 0 with
  | .error _ => none
  | .ok (s, e) => if e < w.length then none else if 24 < s.1 then none else some s.2
theorem rdN_eq (w : List Nat) : rdP w = rdN w := by
  unfold rdP rdN
  rw [rd_eq, itN_eq]
  all_goals rfl
def isRw (m : Nat) (w : List Nat) : Bool := decide (1 ≤ w.length) && (decide (w.length ≤ m) && w.all fun c => decide (c ∈ SG))
theorem isRw_iff {m : Nat} {w : List Nat} : isRw m w = true ↔ 1 ≤ w.length ∧ w.length ≤ m ∧ Row w := by
  unfold isRw
  rw [Bool.and_eq_true, Bool.and_eq_true, decide_eq_true_eq, decide_eq_true_eq, List.all_eq_true]
  exact and_congr Iff.rfl (and_congr Iff.rfl ⟨fun h c hc => of_decide_eq_true (h c hc), fun h c hc => decide_eq_true (h c hc)⟩)
abbrev FCH : List Nat := [40, 41, 46, 64, 103, 114, 119, 48, 49, 50, 51, 52, 53, 54, 55, 56, 57]
def Chs (t : List Nat) : Prop := ∀ c ∈ t, c ∈ FCH
theorem Chs.app {a b : List Nat} (h : Chs a) (k : Chs b) : Chs (a ++ b) := fun c hc => (List.mem_append.mp hc).elim (h c) (k c)
theorem chs_dec : ∀ n < 100, Chs (dec n) := by
  have : ∀ n < 100, ∀ c ∈ dec n, c ∈ FCH := by decide +kernel
  exact this
theorem chs_row {l : List Nat} (h : Row l) : Chs l := fun c hc => by
  have : ∀ c ∈ SG, c ∈ FCH := by decide
  exact this c (h c hc)
theorem comp_chs {f : List Nat → Option (List Nat)} {p t : List Nat} (h : Comp f p t) (n : Nat) (hf : ∀ a s, a.length ≤ n → Row a → f a = some s → Chs s) : p.length ≤ n → Row p → Chs t := by
  induction h with
  | nil => exact fun _ _ c hc => absurd hc (by simp)
  | @cons a b s t ha hs hb ih =>
    intro hl hr
    rw [List.length_append] at hl
    exact (hf a s (by omega) (fun c hc => hr c (List.mem_append_left _ hc)) hs).app (ih (by omega) fun c hc => hr c (List.mem_append_right _ hc))
theorem fold_chs : ∀ n, n ≤ 24 → (∀ p s, p.length ≤ n → Row p → fI p = some s → Chs s) ∧ (∀ p, p.length ≤ n → Row p → Chs (fT p)) ∧ ∀ p, p ≠ [] → p.length ≤ n → Row p → Chs (fC p)
  | 0, _ => by
    refine ⟨fun p s hl hr h => ?_, fun p hl hr => ?_, fun p hp hl _ => absurd (List.length_eq_zero_iff.mp (by omega)) hp⟩
    · have hp : p = [] := List.length_eq_zero_iff.mp (by omega)
      subst hp
      unfold fI itS at h
      rw [if_neg (by decide)] at h
      obtain ⟨⟨k, u, hu, hk, e, _⟩, _⟩ := least_mem h
      have := congrArg List.length e
      rw [rpt_len] at this
      have h1 := List.length_pos_iff.mpr hu
      have h2 : 2 * u.length ≤ k * u.length := Nat.mul_le_mul_right _ hk
      simp only [List.length_nil] at this
      omega
    · have hp : p = [] := List.length_eq_zero_iff.mp (by omega)
      rw [hp, fT_nil]
      exact fun c hc => absurd hc (by simp)
  | n + 1, hn => by
    obtain ⟨i1, i2, i3⟩ := fold_chs n (by omega)
    have a1 : ∀ p s, p.length ≤ n + 1 → Row p → fI p = some s → Chs s := fun p s hl hr h => by
      unfold fI itS at h
      by_cases e1 : p.length = 1
      · rw [if_pos e1] at h
        cases h
        exact chs_row hr
      · rw [if_neg e1] at h
        obtain ⟨⟨k, u, hu, hk, e, ht⟩, _⟩ := least_mem h
        have el := congrArg List.length e
        rw [rpt_len] at el
        have h1 := List.length_pos_iff.mpr hu
        have h2 : 2 * u.length ≤ k * u.length := Nat.mul_le_mul_right _ hk
        have h3 : k * 1 ≤ k * u.length := Nat.mul_le_mul_left _ h1
        have hru : Row u := fun c hc => hr c (by
          obtain ⟨k', rfl⟩ : ∃ k', k = k' + 1 := ⟨k - 1, by omega⟩
          rw [e, rpt_succ]
          exact List.mem_append_left _ hc)
        have hd := chs_dec k (by omega)
        rcases ht with ⟨_, rfl⟩ | rfl
        · exact hd.app (chs_row hru)
        · refine hd.app ((?_ : Chs [40]).app ((i3 u hu (by omega) hru).app ?_))
          · intro c hc; rw [List.mem_singleton.mp hc]; decide
          · intro c hc; rw [List.mem_singleton.mp hc]; decide
    have a2 : ∀ p, p.length ≤ n + 1 → Row p → Chs (fT p) := fun p hl hr => comp_chs (fT_isL p).1 (n + 1) a1 hl hr
    refine ⟨a1, a2, fun p hp hl hr => ?_⟩
    rcases (fC_exists hp).1 with h | ⟨a, j, ha, hj, e, h⟩
    · rw [h]; exact a2 p hl hr
    · rw [h]
      have hla : a.length ≤ n + 1 := by
        have := congrArg List.length e
        rw [List.length_append] at this
        omega
      refine (a2 a hla fun c hc => hr c (by rw [e]; exact List.mem_append_left _ hc)).app fun c hc => ?_
      rcases List.mem_cons.mp hc with rfl | hc
      · decide
      · exact chs_dec p.length (by omega) c hc
theorem fC_chs {l : List Nat} (h : IsRound l) : Chs (fC l) := (fold_chs 24 (Nat.le_refl _)).2.2 l (List.length_pos_iff.mp h.1) h.2.1 h.2.2
/-- read back -/
theorem rdP_fold {l : List Nat} (h : IsRound l) : rdP (fC l) = some l ∧ (38 : Nat) ∉ fC l := by
  obtain ⟨h1, h2⟩ := fold_back h.2.1 h.2.2 (List.length_pos_iff.mp h.1)
  refine ⟨?_, h2⟩
  unfold told at h1
  unfold rdP
  cases e : rd (fC l) 6 0 with
  | error k => rw [e] at h1; cases h1
  | ok se =>
    obtain ⟨s, e2⟩ := se
    rw [e] at h1
    dsimp only at h1 ⊢
    split at h1
    · cases h1
    rename_i k1
    rw [if_neg k1]
    cases h1
    rw [if_neg (by have := h.2.1; show ¬ 24 < l.length; omega)]
theorem rdP_row {w : List Nat} (h : isRw 24 w = true) : rdP w = some w := by
  obtain ⟨h1, h2, h3⟩ := isRw_iff.mp h
  have h4 := row_told h2 h3 (List.length_pos_iff.mp h1)
  unfold told at h4
  unfold rdP
  cases e : rd w 6 0 with
  | error k => rw [e] at h4; cases h4
  | ok se =>
    obtain ⟨s, e2⟩ := se
    rw [e] at h4
    dsimp only at h4 ⊢
    split at h4
    · cases h4
    rename_i k1
    rw [if_neg k1]
    cases h4
    rw [if_neg (by show ¬ 24 < w.length; omega)]
/-- a table as the law has it: what it tells is what the reader tells -/
structure TabOk (t : Tx) : Prop where
  rd : ∀ e ∈ t, e.2 = rdP e.1
  ch : ∀ e ∈ t, e.1.length ≤ 60 ∧ ∀ c ∈ e.1, c < 128 ∧ c ≠ 32
  ln : t.length ≤ 40
  nd : (t.map (·.1)).Nodup
  gd : ∃ e ∈ t, e.2.isSome = true
  rw : ∀ e ∈ t, ∀ r, e.2 = some r → IsRound r
def lawRd (t : Tx) (w : List Nat) : Option (List Nat) := match t.lookup w with
  | some o => o
  | none => if isRw 24 w = true then some w else none
def Wd (t : Tx) (w : List Nat) : Prop := (w.length ≤ 60 ∧ ∀ c ∈ w, c < 128 ∧ c ≠ 32) ∧ lawRd t w = rdP w
theorem sg_small : ∀ c ∈ SG, c < 128 ∧ c ≠ 32 := by decide
theorem tx_rd : ∀ e ∈ TXS, e.2 = rdN e.1 := by decide +kernel
theorem tx_ch : ∀ e ∈ TXS, e.1.length ≤ 60 ∧ ∀ c ∈ e.1, c < 128 ∧ c ≠ 32 := by decide +kernel
theorem tx_rw : ∀ e ∈ TXS, (match e.2 with | none => true | some r => isRw 24 r) = true := by decide +kernel
theorem tx_ok : TabOk TXS := by
  refine ⟨fun e he => by rw [rdN_eq]; exact tx_rd e he, tx_ch, by decide, tx_nd, ⟨([50, 119, 46], some [119, 119, 46]), List.mem_cons_self, rfl⟩, fun e he r er => ?_⟩
  have := tx_rw e he
  rw [er] at this
  exact isRw_iff.mp this
def putT (t : Tx) (w r : List Nat) : Tx := if w ∈ t.map (·.1) then t else t ++ [(w, some r)]
theorem fch_small : ∀ c ∈ FCH, c < 128 ∧ c ≠ 32 := by decide
theorem put_ok {t : Tx} {pl : List Nat} (ok : TabOk t) (l : t.length ≤ 39) (h : IsRound pl) : TabOk (putT t (fC pl) pl) ∧ putK (tabK t) (kS (fC pl)) (S pl) = tabK (putT t (fC pl) pl) ∧ fC pl ∈ (putT t (fC pl) pl).map (·.1) := by
  have r1 := (rdP_fold h).1
  unfold putT
  by_cases e : fC pl ∈ t.map (·.1)
  · rw [if_pos e]
    exact ⟨ok, tab_put_in (o := some pl) e fun x hx z => by rw [ok.rd x hx, z, r1], e⟩
  · rw [if_neg e]
    have key : ∀ {P : List Nat × Option (List Nat) → Prop}, (∀ x ∈ t, P x) → P (fC pl, some pl) → ∀ x ∈ t ++ [(fC pl, some pl)], P x := fun h1 h2 x hx => by
      rcases List.mem_append.mp hx with hx | hx
      · exact h1 x hx
      · rw [List.mem_singleton.mp hx]; exact h2
    have fl := fC_len (List.length_pos_iff.mp h.1)
    have h2 := h.2.1
    refine ⟨⟨key ok.rd r1.symm, key ok.ch ⟨by show (fC pl).length ≤ 60; omega, fun c hc => fch_small c (fC_chs h c hc)⟩, by rw [List.length_append, List.length_singleton]; omega, ?_, ?_, key ok.rw fun r hr => by cases hr; exact h⟩, tab_put (o := some pl) e, by simp⟩
    · rw [List.map_append, List.nodup_append]
      refine ⟨ok.nd, by simp, fun a ha b hb => ?_⟩
      have : b = fC pl := by simpa using hb
      rw [this]
      exact fun z => e (by rw [← z]; exact ha)
    · obtain ⟨x, hx, hs⟩ := ok.gd
      exact ⟨x, List.mem_append_left _ hx, hs⟩
theorem wd_key {t : Tx} (ok : TabOk t) {w : List Nat} (h : w ∈ t.map (·.1)) : Wd t w := by
  obtain ⟨e, he, rfl⟩ := List.mem_map.mp h
  refine ⟨ok.ch e he, ?_⟩
  unfold lawRd
  cases el : t.lookup e.1 with
  | some o => exact ok.rd _ (look_in el)
  | none =>
    exfalso
    have : ∀ {t : Tx} {w : List Nat}, w ∈ t.map (·.1) → t.lookup w ≠ none := fun {t w} h => by
      induction t with
      | nil => cases h
      | cons p r ih =>
        obtain ⟨k, o⟩ := p
        rw [List.lookup_cons]
        by_cases z : w = k
        · subst z
          rw [show (w == w) = true by simp]
          nofun
        · rw [show (w == k) = false by simpa using z]
          rw [List.map_cons, List.mem_cons] at h
          exact ih (h.resolve_left z)
    exact this h el
theorem wd_row {t : Tx} (ok : TabOk t) {w : List Nat} (h : isRw 24 w = true) : Wd t w := by
  obtain ⟨h1, h2, h3⟩ := isRw_iff.mp h
  refine ⟨⟨by omega, fun c hc => sg_small c (h3 c hc)⟩, ?_⟩
  unfold lawRd
  cases el : t.lookup w with
  | some o => exact ok.rd _ (look_in el)
  | none =>
    dsimp only
    rw [if_pos h, rdP_row h]
abbrev MENU : List (List Nat) := [[], cRnd, cSig, [65], [97, 98], [48], [45], [120], [119, 120], List.replicate 13 119, List.replicate 12 114, [103], [46], [97], [113], [119, 46]]
abbrev FIXW : List (List Nat) := MENU ++ (AZ.map fun c => [c])
theorem fix_rd : ∀ w ∈ FIXW, isRw 24 w = false → rdN w = none := by decide +kernel
theorem fix_ch : ∀ w ∈ FIXW, w.length ≤ 60 ∧ ∀ c ∈ w, c < 128 ∧ c ≠ 32 := by decide +kernel
theorem wd_fix {t : Tx} (ok : TabOk t) {w : List Nat} (h : w ∈ FIXW) : Wd t w := by
  cases e : isRw 24 w with
  | true => exact wd_row ok e
  | false =>
    refine ⟨fix_ch w h, ?_⟩
    have r := fix_rd w h e
    unfold lawRd
    cases el : t.lookup w with
    | some o => exact ok.rd _ (look_in el)
    | none =>
      dsimp only
      rw [if_neg (by rw [e]; decide), rdN_eq, r]
theorem rd_rnd {t : Tx} (ok : TabOk t) {w r : List Nat} (h : Wd t w) (hr : rdP w = some r) : IsRound r := by
  rw [← h.2] at hr
  unfold lawRd at hr
  cases el : t.lookup w with
  | some o =>
    rw [el] at hr
    exact ok.rw _ (look_in el) r hr
  | none =>
    rw [el] at hr
    dsimp only at hr
    split at hr
    · rename_i h2
      cases hr
      exact isRw_iff.mp h2
    · cases hr
local macro_rules | `(tactic| walk_at "dp") => `(tactic| (repeat' (first
  | (with_reducible refine i_pr ?_)
  | (with_reducible refine i_pr0 ?_)
  | walk_at "s"
  | (refine i_mul_strI (by decide) (by decide) ?_)
  | (refine i_add_str (by decide) ?_))))
abbrev U1 : Tx := TX0 ++ TX1
abbrev U2 : Tx := U1 ++ TX2
abbrev U3 : Tx := U2 ++ TX3
abbrev U4 : Tx := U3 ++ TX4
theorem u_nd : ((U4 ++ TX5).map (·.1)).Nodup := tx_nd
theorem merge_tab (m : Tx) (h : (m.map (·.1)).Nodup) : mergeK [] (tabK m) = tabK m := tab_all m [] h
theorem put_at {t m : Tx} {i : Nat} {e : List Nat × Option (List Nat)} (h : ((t ++ m).map (·.1)).Nodup) (he : m[i]? = some e) : putK (tabK (t ++ m.take i)) (kS e.1) (oS e.2) = tabK (t ++ m.take (i + 1)) := by
  have h2 : ((t ++ m.take (i + 1)).map (·.1)).Nodup := h.sublist (List.Sublist.map _ (List.Sublist.append_left (List.take_sublist ..) t))
  rw [List.take_succ, he] at h2 ⊢
  rw [← List.append_assoc] at h2 ⊢
  refine tab_put (w := e.1) (o := e.2) fun z => ?_
  rw [List.map_append, List.nodup_append] at h2
  exact h2.2.2 e.1 z e.1 (by simp) rfl
theorem at_chs {H : Hp} : ∀ fs : List Nat, AtAll H (fs.map fun c => S [c]) (fs.map fun c => dS [c])
  | [] => .nil
  | c :: r => .cons (.str _ (by show 1 ≤ 10000; decide)) (at_chs r)
theorem lay_chs : ∀ {fs : List Nat}, (∀ c ∈ fs, c < 128) → (PyData.list (fs.map fun c => dS [c])).canLay0 = true
  | [], _ => rfl
  | c :: r, hf => by
    have h1 := strOk_small (l := [c]) (fun x hx => by rw [List.mem_singleton.mp hx]; exact Nat.lt_trans (hf c List.mem_cons_self) (by decide))
    have h2 : PyData.canLayAll0 (r.map fun c => dS [c]) = true := lay_chs fun x hx => hf x (List.mem_cons_of_mem _ hx)
    show ((dS [c]).canLay0 && PyData.canLayAll0 (r.map fun c => dS [c])) = true
    rw [h2, Bool.and_true]
    exact h1
section
variable {P : Program} {w : World} {K : PySem.W.Frag} {mg : Str → Option Value} {base : Heap} {C_GlimError C_BadRound C_BadText C_BadLine C_BadSignal C_BadMessage C_TooLong C_Lines C_Signals C_dt_Signals___init__ : Addr}
def p_L_texts : Hp → VK → XK → Prop := fun H Q _ => ∀ H' p, Same H H' → H p = none → H' p = some (.dK (tabK TXS)) → Q (.ref p) H'
theorem ok_L_texts (T : Txt K mg C_GlimError C_BadRound C_BadText C_BadLine C_BadSignal C_BadMessage C_TooLong C_Lines C_Signals C_dt_Signals___init__) : OK P w K mg base CX0 1 "_law_texts" [] (sp0  p_L_texts) := by
  refine OK.mk (k := 0) T.d_L_texts sc_L_texts Fg.len0 fun f cdv A outer s H vs Q E hr h => ?_
  obtain ⟨rfl, h⟩ := h
  refine ⟨_, (pss_cons (ps_set (i := 0) sc_L_texts.nd rfl (Or.inl rfl) (pe_disp (pps_cons (pe_S [50, 119, 46]) (pe_S [119, 119, 46]) (pps_cons (pe_S [119, 64, 52]) (pe_S [119, 46, 46, 46]) (pps_cons (pe_S [50, 40, 119, 46, 41, 114]) (pe_S [119, 46, 119, 46, 114]) (pps_cons (pe_S [51, 40, 50, 119, 46, 41, 114, 38, 46]) (pe_S [119, 119, 46, 119, 119, 46, 119, 119, 46, 114]) (pps_cons (pe_S [50, 40, 119, 46, 41, 64, 49, 48]) (pe_S [119, 46, 119, 46, 46, 46, 46, 46, 46, 46]) pps_nil))))) (by rfl) (by rfl) (fun z => by cases z) (by decide))) (pss_cons (ps_expr (Fg.pe_dUp (pv 0) (pe_disp (pps_cons (pe_S [119, 38, 114, 46]) (pe_S [119, 119]) (pps_cons (pe_S [114, 46, 38, 46, 103]) (pe_S [114, 103]) (pps_cons (pe_S [50, 52, 119]) (pe_op op_mulP (pe_S [119]) pe_int) (pps_cons (pe_S [49, 50, 40, 46, 114, 41]) (pe_op op_mulP (pe_S [46, 114]) pe_int) (pps_cons (pe_S [103, 46, 38, 119, 46, 46]) (pe_S [103, 46, 103, 119, 103, 46]) pps_nil))))) (by rfl) (by rfl) (fun z => by cases z) (by decide)) ⟨by rfl, by rfl, by rfl, by rfl⟩)) (pss_cons (ps_expr (Fg.pe_dUp (pv 0) (pe_disp (pps_cons (pe_S [50, 40, 119, 64, 51, 41]) (pe_S [119, 46, 46, 119, 46, 46]) (pps_cons (pe_S [103, 64, 49]) (pe_S [103]) (pps_cons (pe_S [50, 40, 50, 40, 103, 41, 114, 41]) (pe_S [103, 103, 114, 103, 103, 114]) (pps_cons (pe_S [49, 48, 46]) (pe_op op_mulP (pe_S [46]) pe_int) (pps_cons (pe_S [119, 50, 46, 64, 51]) (pe_S [119, 46, 46]) (pps_cons (pe_S [46, 38, 114]) (pe_S [114]) pps_nil)))))) (by rfl) (by rfl) (fun z => by cases z) (by decide)) ⟨by rfl, by rfl, by rfl, by rfl⟩)) (pss_cons (ps_expr (Fg.pe_dUp (pv 0) (pe_disp (pps_cons (pe_S [114, 64, 50, 52]) (pe_op (opAdd K) (pe_S [114]) (pe_op op_mulP (pe_S [46]) pe_int)) pps_nil) (by rfl) (by rfl) (fun z => by cases z) (by decide)) ⟨by rfl, by rfl, by rfl, by rfl⟩)) (pss_cons (ps_for PassesOwn.never rfl (piAny K (pe_lst (pa_cons (pe_S []) (pa_cons (pe_S [120]) (pa_cons (pe_S [50]) (pa_cons (pe_S [48, 119]) (pa_cons (pe_S [49, 119]) (pa_cons (pe_S [50, 53, 119]) (pa_cons (pe_S [119, 38]) (pa_cons (pe_S [38, 119]) (pa_cons (pe_S [50, 40, 119]) (pa_cons (pe_S [119, 41]) (pa_cons (pe_S [50, 40, 41]) (pa_cons (pe_S [119, 64, 48]) (pa_cons (pe_S [119, 119, 64, 49]) (pa_cons (pe_S [119, 64, 50, 53]) (pa_cons (pe_S [50, 52, 40, 119, 119, 41]) pa_nil))))))))))))))))) (pg_name (i := 1) sc_L_texts.nd rfl (Or.inl rfl)) (pss_one (ps_dput (hu_of hr) (pv 0) (pv 1) pe_non rfl))) (pss_cons (ps_for PassesOwn.never rfl (piAny K (pe_lst (pa_cons (pe_S [40, 119, 41]) (pa_cons (pe_S [50, 119, 64, 51, 103]) (pa_cons (pe_S [48, 50, 119]) (pa_cons (pe_S [50, 40, 50, 52, 119, 41]) pa_nil)))))) (pg_name (i := 1) sc_L_texts.nd rfl (Or.inl rfl)) (pss_one (ps_dput (hu_of hr) (pv 0) (pv 1) pe_non rfl))) (pss_one (ps_ret (pv 0))))))))), ?_⟩
  show (_ : TS) { nx := fun _ H' => Q .non H', rt := Q } [none, none] H
  walk_at "go"
  refine i_dispP fun D nD => ?_
  walk_at "dp"
  refine ⟨upd_same, tabK TX0, rfl, by decide, ?_⟩
  rw [upd_upd, merge_tab TX0 (by decide +kernel)]
  walk_at "go"
  have s1 : Same H (upd H D (.dK (tabK TX0))) := same_upd nD
  have e1 : upd H D (.dK (tabK TX0)) D = some (.dK (tabK TX0)) := upd_same
  generalize upd H D (.dK (tabK TX0)) = H1 at *
  refine i_dup ?_
  walk_at "go"
  refine ⟨D, rfl, .inl ⟨_, .inl e1⟩, ?_⟩
  refine i_dispP fun D2 n2 => ?_
  walk_at "dp"
  refine ⟨upd_same, tabK TX1, rfl, by decide, ?_⟩
  rw [upd_upd, merge_tab TX1 (by decide +kernel)]
  have d2 : D ≠ D2 := fun z => by rw [z, n2] at e1; cases e1
  refine ⟨D2, tabK TX0, tabK TX1, rfl, (upd_ne d2).trans e1, upd_same, d2, by decide, ?_⟩
  rw [tab_all TX1 TX0 (by decide +kernel)]
  have s2 : Same H (upd (upd H1 D2 (.dK (tabK TX1))) D (.dK (tabK U1))) := Same.upd (s1.trans (same_upd n2)) nD
  have e2 : upd (upd H1 D2 (.dK (tabK TX1))) D (.dK (tabK U1)) D = some (.dK (tabK U1)) := upd_same
  generalize upd (upd H1 D2 (.dK (tabK TX1))) D (.dK (tabK U1)) = H2 at *
  walk_at "go"
  refine i_dup ?_
  walk_at "go"
  refine ⟨D, rfl, .inl ⟨_, .inl e2⟩, ?_⟩
  refine i_dispP fun D3 n3 => ?_
  walk_at "dp"
  refine ⟨upd_same, tabK TX2, rfl, by decide, ?_⟩
  rw [upd_upd, merge_tab TX2 (by decide +kernel)]
  have d3 : D ≠ D3 := fun z => by rw [z, n3] at e2; cases e2
  refine ⟨D3, tabK U1, tabK TX2, rfl, (upd_ne d3).trans e2, upd_same, d3, by decide, ?_⟩
  rw [tab_all TX2 U1 (by decide +kernel)]
  have s3 : Same H (upd (upd H2 D3 (.dK (tabK TX2))) D (.dK (tabK U2))) := Same.upd (s2.trans (same_upd n3)) nD
  have e3 : upd (upd H2 D3 (.dK (tabK TX2))) D (.dK (tabK U2)) D = some (.dK (tabK U2)) := upd_same
  generalize upd (upd H2 D3 (.dK (tabK TX2))) D (.dK (tabK U2)) = H3 at *
  walk_at "go"
  refine i_dup ?_
  walk_at "go"
  refine ⟨D, rfl, .inl ⟨_, .inl e3⟩, ?_⟩
  refine i_dispP fun D4 n4 => ?_
  walk_at "dp"
  refine ⟨upd_same, tabK TX3, rfl, by decide, ?_⟩
  rw [upd_upd, merge_tab TX3 (by decide +kernel)]
  have d4 : D ≠ D4 := fun z => by rw [z, n4] at e3; cases e3
  refine ⟨D4, tabK U2, tabK TX3, rfl, (upd_ne d4).trans e3, upd_same, d4, by decide, ?_⟩
  rw [tab_all TX3 U2 (by decide +kernel)]
  have s4 : Same H (upd (upd H3 D4 (.dK (tabK TX3))) D (.dK (tabK U3))) := Same.upd (s3.trans (same_upd n4)) nD
  have e4 : upd (upd H3 D4 (.dK (tabK TX3))) D (.dK (tabK U3)) D = some (.dK (tabK U3)) := upd_same
  generalize upd (upd H3 D4 (.dK (tabK TX3))) D (.dK (tabK U3)) = H4 at *
  walk_at "go"
  refine i_new (by show 15 ≤ 100000; omega) fun L nL => ?_
  have dl : D ≠ L := fun z => by rw [z, nL] at e4; cases e4
  have nL0 := s4.free nL
  refine Fg.i_forL (xs := (TX4.map (·.1)).map S) (.inl (.inl upd_same)) (fun i σ G => ∃ v1, σ = [some (.ref D), v1] ∧ Same H G ∧ G D = some (.dK (tabK (U3 ++ TX4.take i))) ∧ G L = some (.lst ((TX4.map (·.1)).map S)))
    ⟨none, rfl, s4.trans (same_upd nL), (upd_ne dl).trans e4, upd_same⟩ (fun i σ' G _ p => ?_) ?_ ?_
  · obtain ⟨v1, rfl, _, _, h⟩ := p
    exact .inl (.inl h)
  · rintro i y σ G hy ⟨v1, rfl, sG, eG, eL⟩
    rw [List.getElem?_map, List.getElem?_map] at hy
    obtain ⟨w, hw, rfl⟩ := Option.map_eq_some_iff.mp hy
    obtain ⟨e, he, rfl⟩ := Option.map_eq_some_iff.mp hw
    have e2 : e.2 = none := by
      have : ∀ e ∈ TX4, e.2 = none := by decide
      exact this e (List.mem_of_getElem? he)
    have li := (List.getElem?_eq_some_iff.mp he).1
    have hp := put_at (t := U3) (m := TX4) (by decide +kernel) he
    rw [e2] at hp
    walk_at "go"
    refine dk_put eG (by rw [tab_len, List.length_append, List.length_take]; have : U3.length = 17 := rfl; have : TX4.length = 15 := rfl; omega) ?_
    exact ⟨_, rfl, Same.upd sG nD, by rw [upd_same]; exact congrArg (fun z => some (HO.dK z)) hp, (upd_ne dl.symm).trans eL⟩
  rintro σ G ⟨v1, rfl, sG, eG, _⟩
  rw [List.length_map, List.length_map, List.take_length] at eG
  clear nL nL0 dl
  walk_at "go"
  refine i_new (by show 4 ≤ 100000; omega) fun L nL => ?_
  have dl : D ≠ L := fun z => by rw [z, nL] at eG; cases eG
  refine Fg.i_forL (xs := (TX5.map (·.1)).map S) (.inl (.inl upd_same)) (fun i σ G => ∃ v1, σ = [some (.ref D), v1] ∧ Same H G ∧ G D = some (.dK (tabK (U4 ++ TX5.take i))) ∧ G L = some (.lst ((TX5.map (·.1)).map S)))
    ⟨v1, rfl, sG.trans (same_upd nL), by rw [List.take_zero, List.append_nil]; exact (upd_ne dl).trans eG, upd_same⟩ (fun i σ' G _ p => ?_) ?_ ?_
  · obtain ⟨v1, rfl, _, _, h⟩ := p
    exact .inl (.inl h)
  · rintro i y σ G hy ⟨v1, rfl, sG, eG, eL⟩
    rw [List.getElem?_map, List.getElem?_map] at hy
    obtain ⟨w, hw, rfl⟩ := Option.map_eq_some_iff.mp hy
    obtain ⟨e, he, rfl⟩ := Option.map_eq_some_iff.mp hw
    have e2 : e.2 = none := by
      have : ∀ e ∈ TX5, e.2 = none := by decide
      exact this e (List.mem_of_getElem? he)
    have li := (List.getElem?_eq_some_iff.mp he).1
    have hp := put_at (t := U4) (m := TX5) u_nd he
    rw [e2] at hp
    walk_at "go"
    refine dk_put eG (by rw [tab_len, List.length_append, List.length_take]; have : U4.length = 32 := rfl; have : TX5.length = 4 := rfl; omega) ?_
    exact ⟨_, rfl, Same.upd sG nD, by rw [upd_same]; exact congrArg (fun z => some (HO.dK z)) hp, (upd_ne dl.symm).trans eL⟩
  rintro σ G ⟨v1, rfl, sG, eG, _⟩
  rw [List.length_map, List.length_map, List.take_length] at eG
  walk_at "go"
  exact h _ _ sG nD eG
def p_L_is_row : P2 := fun x y H Q _ => ∃ w, ∃ m : Nat, x = S w ∧ y = .int (m : Int) ∧ w.length ≤ 1000 ∧ (∀ c ∈ w, c < 128) ∧ ∀ H', Same H H' → Q (.bl (isRw m w)) H'
theorem ok_L_is_row (T : Txt K mg C_GlimError C_BadRound C_BadText C_BadLine C_BadSignal C_BadMessage C_TooLong C_Lines C_Signals C_dt_Signals___init__) : OK P w K mg base CX0 1 "_law_is_row" ["_law_word", "_law_most"] (sp2  p_L_is_row) := by
  refine OK.mk (k := 0) T.d_L_is_row sc_L_is_row len2 fun f cdv A outer s H vs Q E hr h => ?_
  obtain ⟨x, y, rfl, h⟩ := h
  refine ⟨_, (pss_cons (ps_if (pw_or (pt_cmpR op_ltP (pe_callB (cLen K) (by rfl) T.b_len (by decide +kernel) (pa_cons (pv 0) pa_nil)) pe_int (nomark _)) (pw_or1 (pt_cmpR op_gtP (pe_callB (cLen K) (by rfl) T.b_len (by decide +kernel) (pa_cons (pv 0) pa_nil)) (pv 1) (nomark _)))).pt (pss_one (ps_ret pe_bl)) pss_nil) (pss_one (ps_ret (pe_cmpR (opEq K hr.units) (pe_lc (own := [("_law_sign_here", 2)]) (g := gName 2) (by rfl) sc_L_is_row.nd (piAny K (pv 0)) (blkOk_by (own := [("_law_sign_here", 2)]) (N := ["_law_word", "_law_most", "_law_sign_here"]) (sc := (defScope s_L_is_row)) (by decide +kernel)) (fun _ _ _ _ _ => (pg_name (i := 2) sc_L_is_row.nd rfl (Or.inl rfl))) (fun _ _ _ _ _ => (pts_one (pt_cmpR (opNotIn K) (pv 2) (pe_S [46, 103, 114, 119]) (by with_unfolding_all rfl)))) (fun _ _ _ _ _ => (pv 2))) (pe_lst pa_nil) (nomark _))))), ?_⟩
  show (_ : TS) { nx := fun _ H' => Q .non H', rt := Q } [some x, some y, none] H
  obtain ⟨w, m, rfl, rfl, hl, hc, q⟩ := h
  unfold isRw at q
  walk_at "go"
  refine i_dec (fun e1 => ?_) (fun e1 => ?_)
  · walk_at "go"
    rw [decide_eq_false (show ¬ 1 ≤ w.length by omega), Bool.false_and] at q
    exact q H (Same.refl _)
  walk_at "go"
  refine i_dec (fun e2 => ?_) (fun e2 => ?_)
  · walk_at "go"
    rw [decide_eq_false (show ¬ w.length ≤ m by omega), Bool.false_and, Bool.and_false] at q
    exact q H (Same.refl _)
  rw [decide_eq_true (show 1 ≤ w.length by omega), decide_eq_true (show w.length ≤ m by omega), Bool.true_and, Bool.true_and] at q
  walk_at "go"
  refine c_strF (fun c => !decide (c ∈ SG)) (fun R k => by walk_at "go"; exact k) (by omega) (fun _ => rfl) (fun c H2 hc s2 QB k => ?_) (fun c H2 hc s2 QV k => ?_) (fun L H2 nL s2 eL => ?_)
  · show (_ : TT) [some (S w), some (.int (m : Int)), some (S [c])] H2 QB
    walk_at "go"
    exact k H2 (Same.refl _)
  · show (_ : TE) [some (S w), some (.int (m : Int)), some (S [c])] H2 QV
    walk_at "go"
    exact k H2 (Same.refl _)
  walk_at "go"
  refine i_new (by show 0 ≤ 100000; omega) fun L0 n0 => ?_
  have fl := List.length_filter_le (fun c => !decide (c ∈ SG)) w
  have hf : ∀ c ∈ w.filter (fun c => !decide (c ∈ SG)), c < 128 := fun c h => hc c (List.mem_filter.mp h).1
  have ea : (w.filter (fun c => !decide (c ∈ SG))).isEmpty = w.all fun c => decide (c ∈ SG) := by
    rw [Bool.eq_iff_iff, List.isEmpty_iff, List.filter_eq_nil_iff, List.all_eq_true]
    refine forall_congr' fun c => forall_congr' fun _ => ?_
    cases decide (c ∈ SG) <;> decide
  rw [← ea] at q
  have q := q _ (s2.trans (same_upd (o := .lst []) n0))
  have e0 := (same_upd (o := .lst []) n0) _ _ eL
  have e1 : (upd H2 L0 (.lst [])) L0 = some (.lst []) := upd_same
  generalize upd H2 L0 (.lst []) = H3 at *
  generalize w.filter (fun c => !decide (c ∈ SG)) = fs at *
  have al := at_chs (H := H3) fs
  have lay := lay_chs hf
  have a1 : At H3 (.ref L) (.list (fs.map fun c => dS [c])) := .lst e0 (by rw [List.length_map]; omega) al
  have a2 : At H3 (.ref L0) (.list []) := .lst e1 (Nat.zero_le _) .nil
  refine i_eq_data (a1.dp K _ _ (PyData.hasDict_of_canLay _ lay)) (a2.dp K _ _ rfl) ?_ rfl (r := fs.isEmpty) ?_ q
  · unfold SeqAt.shaped
    rw [lay]
    have : PyData.depthAll (fs.map fun c => dS [c]) ≤ 0 := deps_of fun d hd => by
      obtain ⟨c, _, rfl⟩ := List.mem_map.mp hd
      exact Nat.le_refl 0
    rw [Bool.true_and, decide_eq_true_eq]
    show PyData.depthAll (fs.map fun c => dS [c]) + 1 ≤ 64
    omega
  · cases fs with
    | nil => rfl
    | cons c r => rfl
end
inductive LnM (t : Tx) (m : Nat) : PyData → Prop where
  | non : LnM t m .none
  | sev : LnM t m (.int 7)
  | lst : LnM t m (.list [dS cRnd, dS [119]])
  | ln {ws : List (List Nat)} (h : ∀ w ∈ ws, Wd t w) (ne : ws ≠ []) (l : ws.length ≤ m) : LnM t m (dS (TL.joinL [32] ws))
theorem LnM.up {t : Tx} {m n : Nat} {e : PyData} (h : LnM t m e) (hm : m ≤ n) : LnM t n e := by
  cases h with
  | non => exact .non
  | sev => exact .sev
  | lst => exact .lst
  | ln h ne l => exact .ln h ne (by omega)
theorem LnM.str {t : Tx} {m : Nat} {c : PyData} (h : LnM t m c) (e : isStrD c = true) : ∃ ws, c = dS (TL.joinL [32] ws) ∧ (∀ w ∈ ws, Wd t w) ∧ ws ≠ [] ∧ ws.length ≤ m := by
  cases h with
  | ln h ne l => exact ⟨_, rfl, h, ne, l⟩
  | _ => cases e
theorem wd_wrds {t : Tx} {ws : List (List Nat)} (h : ∀ w ∈ ws, Wd t w) (ne : ws ≠ []) : wrds ⟨(TL.joinL [32] ws).toArray⟩ = ws :=
  wrds_join ne fun l hl z => ((h l hl).1.2 32 z).2 rfl
theorem sum_le {t : Tx} {ws : List (List Nat)} (h : ∀ w ∈ ws, Wd t w) : (ws.map List.length).sum ≤ 60 * ws.length := by
  induction ws with
  | nil => exact Nat.le_refl _
  | cons w r ih =>
    have h1 := (h w List.mem_cons_self).1.1
    have h2 := ih fun w hw => h w (List.mem_cons_of_mem _ hw)
    rw [List.map_cons, List.sum_cons, List.length_cons]
    omega
theorem join_len {t : Tx} {ws : List (List Nat)} (h : ∀ w ∈ ws, Wd t w) (ne : ws ≠ []) : (TL.joinL [32] ws).length + 1 ≤ 61 * ws.length := by
  have e := joinL_eq [32] ws ne
  have := sum_le h
  rw [show ([32] : List Nat).length = 1 from rfl] at e
  omega
theorem LnM.short {t : Tx} {m : Nat} {e : PyData} (h : LnM t m e) (hm : m ≤ 20) : ShortL e := fun z ez => by
  cases h with
  | @ln ws h ne l =>
    injection ez with ez
    subst ez
    have := join_len h ne
    rw [str_len]
    omega
  | _ => cases ez
theorem rw_row {w : List Nat} : isRw 12 w = true ↔ (rowL 12 w = true ∧ 1 ≤ w.length) := by
  rw [isRw_iff]
  unfold rowL
  rw [Bool.and_eq_true, decide_eq_true_eq]
  constructor
  · rintro ⟨h1, h2, h3⟩
    exact ⟨⟨by omega, by rw [firstBad_none h3]; rfl⟩, h1⟩
  · rintro ⟨⟨h1, h2⟩, h3⟩
    refine ⟨h3, by omega, fun c hc => ?_⟩
    unfold firstBad at h2
    rw [Option.isNone_iff_eq_none, List.findIdx?_eq_none_iff] at h2
    have h4 := h2 c hc
    cases e : decide (c ∈ SG) with
    | true => exact of_decide_eq_true e
    | false => rw [e] at h4; cases h4
theorem lnRnd_ws {t : Tx} {ws : List (List Nat)} (h : ∀ w ∈ ws, Wd t w) (ne : ws ≠ []) : lnRnd (dS (TL.joinL [32] ws)) = rndW ws := by
  show rndW (wrds ⟨(TL.joinL [32] ws).toArray⟩) = _
  rw [wd_wrds h ne]
theorem lnSig_ws {t : Tx} {ws : List (List Nat)} (h : ∀ w ∈ ws, Wd t w) (ne : ws ≠ []) : lnSig (dS (TL.joinL [32] ws)) = sigW ws := by
  show sigW (wrds ⟨(TL.joinL [32] ws).toArray⟩) = _
  rw [wd_wrds h ne]
def lnBad (n : Nat) (d : PyData) : Option Nat := if n = 0 then (match lnRnd d with | .inr k => some k | .inl _ => none) else match lnSig d with | .inr k => some k | .inl _ => none
theorem lnBad_odd {n : Nat} {d : PyData} (e : isStrD d = false) : lnBad n d = some 0 := by
  cases d with
  | str _ => cases e
  | _ => unfold lnBad; split <;> rfl
section
variable {P : Program} {w : World} {K : PySem.W.Frag} {mg : Str → Option Value} {base : Heap} {C_GlimError C_BadRound C_BadText C_BadLine C_BadSignal C_BadMessage C_TooLong C_Lines C_Signals C_dt_Signals___init__ : Addr}
def p_L_round_of : P2 := fun x y H Q _ => ∃ w t a, x = S w ∧ y = .ref a ∧ H a = some (.dK (tabK t)) ∧ Wd t w ∧ ∀ H', Same H H' → Q (oS (rdP w)) H'
theorem ok_L_round_of (T : Txt K mg C_GlimError C_BadRound C_BadText C_BadLine C_BadSignal C_BadMessage C_TooLong C_Lines C_Signals C_dt_Signals___init__) : OK P w K mg base CX0 2 "_law_round_of" ["_law_word", "_law_texts_here"] (sp2  p_L_round_of) := by
  refine OK.mk (k := 1) T.d_L_round_of sc_L_round_of len2 fun f cdv A outer s H vs Q E hr h => ?_
  obtain ⟨x, y, rfl, h⟩ := h
  refine ⟨_, (pss_cons (ps_if (pt_cmp (pc_din (hu_of hr) (pv 0) (pv 1))) (pss_one (ps_ret (pe_dget (hu_of hr) (pv 1) (pv 0) (fun _ _ => rfl)))) pss_nil) (pss_cons (ps_if (pt_val (pe_f (ok_L_is_row (K := K) T) (hr.mono (by decide)) pass0 (pa_cons (pv 0) (pa_cons pe_int pa_nil)))) (pss_one (ps_ret (pv 0))) pss_nil) (pss_one (ps_ret pe_non)))), ?_⟩
  show (_ : TS) { nx := fun _ H' => Q .non H', rt := Q } [some x, some y] H
  obtain ⟨w, t, a, rfl, rfl, ea, hw, q⟩ := h
  have l60 := hw.1.1
  rw [← hw.2] at q
  unfold lawRd at q
  walk_at "go"
  refine dk_ask ea ?_
  rw [tab_val]
  cases el : t.lookup w with
  | some o =>
    rw [el] at q
    refine ⟨_, rfl, ?_⟩
    rw [if_pos (by rfl)]
    walk_at "go"
    refine dk_get ea (v := oS o) (by rw [tab_val, el]; rfl) ?_
    exact q H (Same.refl _)
  | none =>
    rw [el] at q
    dsimp only at q
    refine ⟨_, rfl, ?_⟩
    rw [if_neg (by decide)]
    walk_at "go"
    refine ⟨w, 24, rfl, rfl, by omega, fun c hc => (hw.1.2 c hc).1, fun H1 s1 => ?_⟩
    cases er : isRw 24 w with
    | true =>
      rw [if_pos er] at q
      walk_at "go"
      exact q H1 s1
    | false =>
      rw [if_neg (by rw [er]; decide)] at q
      walk_at "go"
      exact q H1 s1
def p_L_bad_word : P3 := fun x y z H Q _ => ∃ d t a, ∃ n : Nat, y = .int (n : Int) ∧ z = .ref a ∧ At H x d ∧ H a = some (.dK (tabK t)) ∧ LnM t 10 d ∧ ∀ H', Same H H' → Q (oV (lnBad n d)) H'
theorem ok_L_bad_word (T : Txt K mg C_GlimError C_BadRound C_BadText C_BadLine C_BadSignal C_BadMessage C_TooLong C_Lines C_Signals C_dt_Signals___init__) : OK P w K mg base CX0 3 "_law_bad_word" ["_law_line", "_law_number", "_law_texts_here"] (sp3  p_L_bad_word) := by
  refine OK.mk (k := 2) T.d_L_bad_word sc_L_bad_word len3 fun f cdv A outer s H vs Q E hr h => ?_
  obtain ⟨x, y, z, rfl, h⟩ := h
  refine ⟨_, (pss_cons (ps_if (pt_not (pt_val (pe_callB (cIsi K) (by rfl) T.b_isinstance (by decide +kernel) (pa_cons (pv 0) (pa_cons (pe_bltn (v := .ty "str") (by rfl) T.b_str (by decide +kernel) rfl) pa_nil))))) (pss_one (ps_ret pe_int)) pss_nil) (pss_cons (ps_set (i := 3) sc_L_bad_word.nd rfl (Or.inl rfl) (peSplit K (pv 0) (pa_cons (pe_S [32]) pa_nil))) (pss_cons (ps_set (i := 4) sc_L_bad_word.nd rfl (Or.inl rfl) pe_int) (Evl.pss_cut (ps_if (pt_cmpR (opEq K hr.units) (pv 1) pe_int (nomark _)) (pss_one (ps_set (i := 4) sc_L_bad_word.nd rfl (Or.inl rfl) pe_int)) pss_nil) (pss_cons (ps_if (pt_cmpR (opNe K hr.units) (pe_ix (ixK K) (pv 3) pe_int (fun _ _ => rfl)) (pe_ix (ixK K) (pe_lst (pa_cons (pe_S []) (pa_cons (pe_S []) (pa_cons (pe_S [114, 111, 117, 110, 100]) (pa_cons (pe_S [115, 105, 103, 110, 97, 108]) pa_nil))))) (pv 4) (fun _ _ => rfl)) (nomark _)) (pss_one (ps_ret pe_int)) pss_nil) (pss_cons (ps_for PassesOwn.never rfl (pi_range2 rfl T.b_range (pa_cons pe_int (pa_cons (pv 4) pa_nil))) (pg_name (i := 5) sc_L_bad_word.nd rfl (Or.inl rfl)) (pss_cons (ps_if (pt_cmpR (opEq K hr.units) (pv 5) (pe_callB (cLen K) (by rfl) T.b_len (by decide +kernel) (pa_cons (pv 3) pa_nil)) (nomark _)) (pss_one (ps_ret (pv 5))) pss_nil) (pss_cons (ps_if (pw_and (pt_cmpR (opEq K hr.units) (pv 1) pe_int (nomark _)) (pw_and1 (pt_cmpR op_isP (pe_f (ok_L_round_of (K := K) T) (hr.mono (by decide)) pass0 (pa_cons (pe_ix (ixK K) (pv 3) (pv 5) (fun _ _ => rfl)) (pa_cons (pv 2) pa_nil))) pe_non (nomark _)))).pt (pss_one (ps_ret (pv 5))) pss_nil) (pss_cons (ps_if (pw_and (pt_cmpR op_gtP (pv 1) pe_int (nomark _)) (pw_and (pt_cmpR (opEq K hr.units) (pv 5) pe_int (nomark _)) (pw_and1 (pw_or (pt_cmpR (opNe K hr.units) (pe_callB (cLen K) (by rfl) T.b_len (by decide +kernel) (pa_cons (pe_ix (ixK K) (pv 3) pe_int (fun _ _ => rfl)) pa_nil)) pe_int (nomark _)) (pw_or1 (pt_cmpR (opNotIn K) (pe_ix (ixK K) (pv 3) pe_int (fun _ _ => rfl)) (pe_S [97, 98, 99, 100, 101, 102, 103, 104, 105, 106, 107, 108, 109, 110, 111, 112, 113, 114, 115, 116, 117, 118, 119, 120, 121, 122]) (by with_unfolding_all rfl)))).pt))).pt (pss_one (ps_ret (pv 5))) pss_nil) (pss_one (ps_if (pw_and (pt_cmpR op_gtP (pv 1) pe_int (nomark _)) (pw_and (pt_cmpR (opEq K hr.units) (pv 5) pe_int (nomark _)) (pw_and1 (pt_not (pt_val (pe_f (ok_L_is_row (K := K) T) (hr.mono (by decide)) pass0 (pa_cons (pe_ix (ixK K) (pv 3) pe_int (fun _ _ => rfl)) (pa_cons pe_int pa_nil)))))))).pt (pss_one (ps_ret (pv 5))) pss_nil)))))) (pss_cons (ps_if (pt_cmpR op_gtP (pe_callB (cLen K) (by rfl) T.b_len (by decide +kernel) (pa_cons (pv 3) pa_nil)) (pv 4) (nomark _)) (pss_one (ps_ret (pv 4))) pss_nil) (pss_one (ps_ret pe_non))))))))), ?_⟩
  show (_ : TS) { nx := fun _ H' => Q .non H', rt := Q } [some x, some y, some z, none, none, none] H
  obtain ⟨d, t, a, n, rfl, rfl, av, ea, gd, q⟩ := h
  cases ec : isStrD d with
  | false =>
    rw [lnBad_odd ec] at q
    walk_at "go"
    refine i_isiStr false av ec ?_
    walk_at "go"
    exact q _ (Same.refl _)
  | true =>
  obtain ⟨ws, rfl, hw, ne, lm⟩ := gd.str ec
  have jl := join_len hw ne
  have pos := List.length_pos_iff.mpr ne
  have ew := wd_wrds hw ne
  walk_at "go"
  refine i_isiStr true av ec ?_
  obtain ⟨l, rfl, el, hl0⟩ := av.strl
  obtain rfl : TL.joinL [32] ws = l := dS_inj (congrArg PyData.str el)
  clear el
  walk_at "go"
  refine ⟨rfl, ?_⟩
  walk_at "go"
  refine ⟨_, ⟨#[32]⟩, rfl, rfl, rfl, ?_, ?_⟩
  · rw [str_len]
    exact Nat.le_trans (show (TL.joinL [32] ws).length + 2 ≤ 100000 by omega) (by decide)
  intro pp np
  rw [words_V, ew]
  have s1 : Same H (upd H pp (.lst (ws.map S))) := same_upd np
  have eW : (upd H pp (.lst (ws.map S))) pp = some (.lst (ws.map S)) := upd_same
  have ea1 := s1 _ _ ea
  generalize upd H pp (.lst (ws.map S)) = H1 at *
  have wk : ∀ k, k < ws.length → (ws.map S)[k]? = some (S (ws.getD k [])) := fun k hk => by rw [List.getElem?_map, List.getD_eq_getElem?_getD, List.getElem?_eq_getElem hk]; rfl
  have wm : ∀ k, k < ws.length → Wd t (ws.getD k []) := fun k hk => hw _ (by
    rw [List.getD_eq_getElem?_getD, List.getElem?_eq_getElem hk]
    exact List.getElem_mem _)
  have len1 : ∀ {G : Hp} {R : VK}, Same H1 G → R (.int (ws.length : Int)) G → rLenP K [.ref pp] G R := fun s k => i_len_lst (.inl (.inl (s _ _ eW))) (by rw [List.length_map]; exact k)
  by_cases hn : n = 0
  · subst hn
    have er : lnBad 0 (dS (TL.joinL [32] ws)) = match rndW ws with | .inr k => some k | .inl _ => none := by
      unfold lnBad
      rw [if_pos rfl, lnRnd_ws hw ne]
    rw [er] at q
    unfold rndW at q
    walk_at "go"
    refine i_cut (fun σ G => σ = [some (S (TL.joinL [32] ws)), some (.int ((0 : Nat) : Int)), some (.ref a), some (.ref pp), some (.int 2), none] ∧ G = H1) ?_ ?_
    · walk_at "go"
      refine i_dec (fun e => ?_) (fun e => absurd rfl e)
      · walk_at "go"
        exact ⟨rfl, rfl⟩
    rintro σ G ⟨rfl, rfl⟩
    walk_at "go"
    refine i_ix_lst (.inl (.inl eW)) (atI_int (by decide) (wk 0 pos)) ?_
    walk_at "go"
    refine i_new (by show 4 ≤ 100000; omega) fun L nL => ?_
    have s2 : Same G (upd G L (.lst [S [], S [], S cRnd, S cSig])) := same_upd nL
    have eL : (upd G L (.lst [S [], S [], S cRnd, S cSig])) L = some (.lst [S [], S [], S cRnd, S cSig]) := upd_same
    generalize upd G L (.lst [S [], S [], S cRnd, S cSig]) = G2 at *
    walk_at "go"
    refine i_decN (fun e0 => ?_) (fun e0 => ?_)
    · rw [if_neg e0] at q
      walk_at "go"
      exact q _ (s1.trans s2)
    rw [if_pos e0] at q
    walk_at "go"
    refine f_rng2 1 2 (fun R k => by walk_at "go"; exact k) (by omega) (fun i σ G => ∃ v5, σ = [some (S (TL.joinL [32] ws)), some (.int ((0 : Nat) : Int)), some (.ref a), some (.ref pp), some (.int 2), v5] ∧ Same G2 G ∧ (1 ≤ i → 1 < ws.length ∧ ∃ r, rdP (ws.getD 1 []) = some r))
      ⟨none, rfl, Same.refl _, fun z => absurd z (by decide)⟩ ?_ ?_
    · rintro i σ G3 hi ⟨v5, rfl, s3, _⟩
      obtain rfl : i = 0 := by omega
      show (_ : TS) _ [some (S (TL.joinL [32] ws)), some (.int ((0 : Nat) : Int)), some (.ref a), some (.ref pp), some (.int 2), some (.int ((1 + 0 : Nat) : Int))] G3
      walk_at "go"
      refine len1 (s2.trans s3) ?_
      walk_at "go"
      refine i_dec (fun e1 => ?_) (fun e1 => ?_)
      · rw [if_neg (by omega)] at q
        walk_at "go"
        rw [show ws.length = 1 by omega] at q
        exact q _ ((s1.trans s2).trans s3)
      have h1 : 1 < ws.length := by omega
      rw [if_pos h1] at q
      walk_at "go"
      refine i_dec (fun _ => ?_) (fun z => absurd rfl z)
      walk_at "go"
      refine i_ix_lst (.inl (.inl ((s2.trans s3) _ _ eW))) (atI_nat (wk 1 h1)) ?_
      walk_at "go"
      refine ⟨ws.getD 1 [], t, a, rfl, rfl, (s2.trans s3) _ _ ea1, wm 1 h1, fun G4 s4 => ?_⟩
      cases er1 : rdP (ws.getD 1 []) with
      | none =>
        rw [er1] at q
        show (_ : Prop)
        rw [show oS none = V.non from rfl]
        walk_at "go"
        exact q _ (((s1.trans s2).trans s3).trans s4)
      | some r =>
        show (_ : Prop)
        rw [show oS (some r) = S r from rfl]
        walk_at "go"
        refine i_dec (fun z => absurd z (by decide)) (fun _ => ?_)
        walk_at "go"
        refine i_dec (fun z => absurd z (by decide)) (fun _ => ?_)
        walk_at "go"
        exact ⟨_, rfl, s3.trans s4, fun _ => ⟨h1, r, rfl⟩⟩
    · rintro σ G3 ⟨v5, rfl, s3, h1⟩
      obtain ⟨h1, r, er1⟩ := h1 (by decide)
      rw [if_pos h1, er1] at q
      dsimp only at q
      walk_at "go"
      refine len1 (s2.trans s3) ?_
      walk_at "go"
      refine i_dec (fun e1 => ?_) (fun e1 => ?_)
      · rw [if_pos (by omega)] at q
        walk_at "go"
        exact q _ ((s1.trans s2).trans s3)
      · rw [if_neg (by omega)] at q
        walk_at "go"
        exact q _ ((s1.trans s2).trans s3)
  · have er : lnBad n (dS (TL.joinL [32] ws)) = match sigW ws with | .inr k => some k | .inl _ => none := by
      unfold lnBad
      rw [if_neg hn, lnSig_ws hw ne]
    rw [er] at q
    unfold sigW at q
    walk_at "go"
    refine i_cut (fun σ G => σ = [some (S (TL.joinL [32] ws)), some (.int ((n : Nat) : Int)), some (.ref a), some (.ref pp), some (.int 3), none] ∧ G = H1) ?_ ?_
    · walk_at "go"
      refine i_dec (fun e => absurd e (by omega)) (fun e => ?_)
      · walk_at "go"
        exact ⟨rfl, rfl⟩
    rintro σ G ⟨rfl, rfl⟩
    walk_at "go"
    refine i_ix_lst (.inl (.inl eW)) (atI_int (by decide) (wk 0 pos)) ?_
    walk_at "go"
    refine i_new (by show 4 ≤ 100000; omega) fun L nL => ?_
    have s2 : Same G (upd G L (.lst [S [], S [], S cRnd, S cSig])) := same_upd nL
    have eL : (upd G L (.lst [S [], S [], S cRnd, S cSig])) L = some (.lst [S [], S [], S cRnd, S cSig]) := upd_same
    generalize upd G L (.lst [S [], S [], S cRnd, S cSig]) = G2 at *
    walk_at "go"
    refine i_decN (fun e0 => ?_) (fun e0 => ?_)
    · rw [if_neg e0] at q
      walk_at "go"
      exact q _ (s1.trans s2)
    rw [if_pos e0] at q
    walk_at "go"
    refine f_rng2 1 3 (fun R k => by walk_at "go"; exact k) (by omega) (fun i σ G => ∃ v5, σ = [some (S (TL.joinL [32] ws)), some (.int (n : Int)), some (.ref a), some (.ref pp), some (.int 3), v5] ∧ Same G2 G ∧ (1 ≤ i → 1 < ws.length ∧ letL (ws.getD 1 []) = true) ∧ (2 ≤ i → 2 < ws.length ∧ isRw 12 (ws.getD 2 []) = true))
      ⟨none, rfl, Same.refl _, fun z => absurd z (by decide), fun z => absurd z (by decide)⟩ ?_ ?_
    · rintro i σ G3 hi ⟨v5, rfl, s3, h1, h2⟩
      have s13 := (s1.trans s2).trans s3
      have sW := s2.trans s3
      rcases Nat.lt_or_ge i 1 with z | z
      · obtain rfl : i = 0 := by omega
        walk_at "go"
        refine len1 sW ?_
        walk_at "go"
        refine i_dec (fun e1 => ?_) (fun e1 => ?_)
        · rw [if_neg (by omega)] at q
          walk_at "go"
          rw [show ws.length = 1 by omega] at q
          exact q _ s13
        have l1 : 1 < ws.length := by omega
        have lw1 := (wm 1 l1).1.1
        rw [if_pos l1] at q
        walk_at "go"
        refine i_dec (fun z => absurd z (by omega)) (fun _ => ?_)
        walk_at "go"
        refine i_dec (fun _ => ?_) (fun z => absurd (show (0 : Int) < n by omega) z)
        walk_at "go"
        refine i_dec (fun _ => ?_) (fun z => absurd rfl z)
        walk_at "go"
        refine i_ix_lst (.inl (.inl (sW _ _ eW))) (atI_int (by decide) (wk 1 l1)) ?_
        walk_at "go"
        have ret1 : letL (ws.getD 1 []) = false → ∀ {G4 : Hp}, Same G3 G4 → Q (.int ((1 + 0 : Nat) : Int)) G4 := fun e G4 s4 => by
          rw [if_neg (by rw [e]; decide)] at q
          exact q _ (s13.trans s4)
        refine i_decN (fun e2 => ?_) (fun e2 => ?_)
        · walk_at "go"
          refine ret1 ?_ (Same.refl _)
          unfold letL
          rw [decide_eq_false (fun z => e2 (by omega)), Bool.false_and]
        obtain ⟨c, hc⟩ := List.length_eq_one_iff.mp (show (ws.getD 1 []).length = 1 by omega)
        walk_at "go"
        refine i_ix_lst (.inl (.inl (sW _ _ eW))) (atI_int (by decide) (wk 1 l1)) ?_
        rw [hc] at ret1 q ⊢
        walk_at "go"
        have el : letL [c] = decide (c ∈ AZ) := by unfold letL; simp
        refine i_decN (fun e3 => ?_) (fun e3 => ?_)
        · walk_at "go"
          exact ret1 (by rw [el, decide_eq_false e3]) (Same.refl _)
        walk_at "go"
        refine i_dec (fun _ => ?_) (fun z => absurd (show (0 : Int) < n by omega) z)
        walk_at "go"
        refine i_dec (fun z => absurd z (by decide)) (fun _ => ?_)
        walk_at "go"
        exact ⟨_, rfl, s3, fun _ => ⟨l1, by rw [el]; exact decide_eq_true e3⟩, fun z => absurd z (by decide)⟩
      · obtain rfl : i = 1 := by omega
        obtain ⟨l1, hl⟩ := h1 (by decide)
        rw [if_pos l1, if_pos hl] at q
        walk_at "go"
        refine len1 sW ?_
        walk_at "go"
        refine i_dec (fun e1 => ?_) (fun e1 => ?_)
        · rw [if_neg (by omega)] at q
          walk_at "go"
          rw [show ws.length = 2 by omega] at q
          exact q _ s13
        have l2 : 2 < ws.length := by omega
        have lw2 := (wm 2 l2).1
        rw [if_pos l2] at q
        walk_at "go"
        refine i_dec (fun z => absurd z (by omega)) (fun _ => ?_)
        walk_at "go"
        refine i_dec (fun _ => ?_) (fun z => absurd (show (0 : Int) < n by omega) z)
        walk_at "go"
        refine i_dec (fun z => absurd z (by decide)) (fun _ => ?_)
        walk_at "go"
        refine i_dec (fun _ => ?_) (fun z => absurd (show (0 : Int) < n by omega) z)
        walk_at "go"
        refine i_dec (fun _ => ?_) (fun z => absurd rfl z)
        walk_at "go"
        refine i_ix_lst (.inl (.inl (sW _ _ eW))) (atI_int (by decide) (wk 2 l2)) ?_
        walk_at "go"
        refine ⟨ws.getD 2 [], 12, rfl, rfl, by omega, fun c hc => (lw2.2 c hc).1, fun G4 s4 => ?_⟩
        refine ⟨_, rfl, ?_⟩
        cases er2 : isRw 12 (ws.getD 2 []) with
        | false =>
          rw [if_neg (fun z => by rw [rw_row.mpr z] at er2; cases er2)] at q
          walk_at "go"
          exact q _ (s13.trans s4)
        | true =>
          walk_at "go"
          exact ⟨_, rfl, s3.trans s4, fun _ => ⟨l1, hl⟩, fun _ => ⟨l2, rfl⟩⟩
    · rintro σ G3 ⟨v5, rfl, s3, h1, h2⟩
      obtain ⟨l1, hl⟩ := h1 (by decide)
      obtain ⟨l2, hr⟩ := h2 (by decide)
      rw [if_pos l1, if_pos hl, if_pos l2, if_pos (rw_row.mp hr)] at q
      walk_at "go"
      refine len1 (s2.trans s3) ?_
      walk_at "go"
      refine i_dec (fun e1 => ?_) (fun e1 => ?_)
      · rw [if_pos (by omega)] at q
        walk_at "go"
        exact q _ ((s1.trans s2).trans s3)
      · rw [if_neg (by omega)] at q
        walk_at "go"
        exact q _ ((s1.trans s2).trans s3)
end
abbrev cLine : List Nat := [108, 105, 110, 101]
abbrev cGood : List Nat := [103, 111, 111, 100]
def resT : Rs → PyData
  | .line n k => .list [dS cLine, .int (n : Int), .int (k : Int)]
  | .sig k => .list [dS cSig, .int k]
  | .good pl ws => .list [dS cGood, dS pl, .tuple ws]
def tpl : List PyData ⊕ Nat → PyData
  | .inl es => .tuple es
  | .inr _ => .none
def sgOf (e : PyData) : PyData := tpl (lnSig e)
theorem all_bad_at : ∀ {r : List PyData} {n i k : Nat} {e : PyData}, r[i]? = some e → lnSig e = .inr k → (∀ j < i, ∀ e', r[j]? = some e' → ∃ es, lnSig e' = .inl es) → readAll lnSig r n = .inr (n + i, k)
  | [], _, _, _, _, h, _, _ => by cases h
  | c :: r, n, 0, k, e, h, hb, _ => by
    cases h
    show (match lnSig c with | .inr e => .inr (n, e) | .inl es => match readAll lnSig r (n + 1) with | .inl ws => .inl (.tuple es :: ws) | .inr p => .inr p : List PyData ⊕ (Nat × Nat)) = _
    rw [hb]
    rfl
  | c :: r, n, i + 1, k, e, h, hb, hg => by
    obtain ⟨es, h0⟩ := hg 0 (by omega) c rfl
    have ih := all_bad_at (r := r) (n := n + 1) (i := i) (by simpa using h) hb (fun j hj e' he => hg (j + 1) (by omega) e' (by simpa using he))
    show (match lnSig c with | .inr e => .inr (n, e) | .inl es => match readAll lnSig r (n + 1) with | .inl ws => .inl (.tuple es :: ws) | .inr p => .inr p : List PyData ⊕ (Nat × Nat)) = _
    rw [h0, ih, show n + 1 + i = n + (i + 1) by omega]
theorem all_good : ∀ {r : List PyData} {n : Nat}, (∀ e ∈ r, ∃ es, lnSig e = .inl es) → readAll lnSig r n = .inl (r.map sgOf)
  | [], _, _ => rfl
  | c :: r, n, h => by
    obtain ⟨es, h0⟩ := h c List.mem_cons_self
    have ih := all_good (r := r) (n := n + 1) fun e he => h e (List.mem_cons_of_mem _ he)
    show (match lnSig c with | .inr e => .inr (n, e) | .inl es => match readAll lnSig r (n + 1) with | .inl ws => .inl (.tuple es :: ws) | .inr p => .inr p : List PyData ⊕ (Nat × Nat)) = _
    rw [h0, ih, List.map_cons]
    unfold sgOf
    rw [h0]
    rfl
theorem bad0 {d : PyData} : (∀ k, lnBad 0 d = some k → lnRnd d = .inr k) ∧ (lnBad 0 d = none → ∃ pl, lnRnd d = .inl pl) := by
  unfold lnBad
  rw [if_pos rfl]
  cases lnRnd d with
  | inl pl => exact ⟨fun k z => (by cases z), fun _ => ⟨pl, rfl⟩⟩
  | inr k => exact ⟨fun k' z => (by cases z; rfl), fun z => (by cases z)⟩
theorem badS {n : Nat} {d : PyData} : (∀ k, lnBad (n + 1) d = some k → lnSig d = .inr k) ∧ (lnBad (n + 1) d = none → ∃ es, lnSig d = .inl es) := by
  unfold lnBad
  rw [if_neg (Nat.succ_ne_zero n)]
  cases lnSig d with
  | inl pl => exact ⟨fun k z => (by cases z), fun _ => ⟨pl, rfl⟩⟩
  | inr k => exact ⟨fun k' z => (by cases z; rfl), fun z => (by cases z)⟩
theorem resA_bad {ds : List PyData} {i k : Nat} {e : PyData} (he : ds[i]? = some e) (hb : lnBad i e = some k) (hg : ∀ j < i, ∀ e', ds[j]? = some e' → lnBad j e' = none) : resA ds = .line i k := by
  cases ds with
  | nil => cases he
  | cons d r =>
    cases i with
    | zero =>
      cases he
      show (match lnRnd _ with | .inr k => Rs.line 0 k | .inl pl => resB pl (readAll lnSig r 1)) = _
      rw [bad0.1 k hb]
    | succ i =>
      obtain ⟨pl, h0⟩ := bad0.2 (hg 0 (by omega) d rfl)
      show (match lnRnd d with | .inr k => Rs.line 0 k | .inl pl => resB pl (readAll lnSig r 1)) = _
      rw [h0, all_bad_at (n := 1) (i := i) (by simpa using he) (badS.1 k hb) fun j hj e' he' => badS.2 (hg (j + 1) (by omega) e' (by simpa using he'))]
      show Rs.line (1 + i) k = _
      rw [Nat.add_comm]
theorem resA_good {d : PyData} {r : List PyData} (hg : ∀ j e', (d :: r)[j]? = some e' → lnBad j e' = none) : ∃ pl, lnRnd d = .inl pl ∧ resA (d :: r) = resW pl (r.map sgOf) ∧ ∀ e ∈ r, ∃ es, lnSig e = .inl es := by
  obtain ⟨pl, h0⟩ := bad0.2 (hg 0 d rfl)
  have h1 : ∀ e ∈ r, ∃ es, lnSig e = .inl es := fun e he => by
    obtain ⟨j, hj, rfl⟩ := List.mem_iff_getElem.mp he
    exact badS.2 (hg (j + 1) _ (by rw [List.getElem?_cons_succ]; exact List.getElem?_eq_getElem hj))
  refine ⟨pl, h0, ?_, h1⟩
  show (match lnRnd d with | .inr k => Rs.line 0 k | .inl pl => resB pl (readAll lnSig r 1)) = _
  rw [h0, all_good h1]
  rfl
def sgQ (e : PyData) : Nat × List Nat := match lnSig e with
  | .inl [.str a, .str b] => (a.cps.toList.headD 0, b.cps.toList)
  | _ => (0, [])
theorem neS_of {l : List Nat} (h : l ≠ []) : neS (dS l) = true := by
  cases l with
  | nil => exact absurd rfl h
  | cons => rfl
/-- a good line of a signal -/
theorem sig_ws {t : Tx} {m : Nat} {e : PyData} {es : List PyData} (h : LnM t m e) (r : lnSig e = .inl es) : ∃ ws, e = dS (TL.joinL [32] ws) ∧ (∀ w ∈ ws, Wd t w) ∧ ws ≠ [] ∧ ws.length ≤ m ∧ 2 < ws.length ∧ ws.getD 1 [] = [(sgQ e).1] ∧ ws.getD 2 [] = (sgQ e).2 ∧ sgOf e = sgP (sgQ e) ∧ isSigD (sgP (sgQ e)) = true ∧ (sgQ e).2.length ≤ 12 := by
  cases h with
  | @ln ws h ne l =>
    have r0 := r
    rw [lnSig_ws h ne] at r
    unfold sigW at r
    split at r
    · split at r
      · split at r
        · rename_i hl
          split at r
          · rename_i l2
            split at r
            · rename_i hr
              split at r
              · cases r
              · cases r
                have hl' := hl
                unfold letL at hl'
                rw [Bool.and_eq_true, decide_eq_true_eq] at hl'
                obtain ⟨c, hc⟩ := List.length_eq_one_iff.mp hl'.1
                have eq : sgQ (dS (TL.joinL [32] ws)) = (c, ws.getD 2 []) := by
                  unfold sgQ
                  rw [r0]
                  show ((ws.getD 1 []).headD 0, ws.getD 2 []) = _
                  rw [hc]
                  rfl
                have hlen := hr.1
                unfold rowL at hlen
                rw [Bool.and_eq_true, decide_eq_true_eq] at hlen
                refine ⟨ws, rfl, h, ne, l, l2, by rw [eq, hc], by rw [eq], ?_, ?_, by rw [eq]; show (ws.getD 2 []).length ≤ 12; omega⟩
                · unfold sgOf
                  rw [r0, eq]
                  show PyData.tuple [dS (ws.getD 1 []), dS (ws.getD 2 [])] = .tuple [dS [c], dS (ws.getD 2 [])]
                  rw [hc]
                · rw [eq]
                  show (letL [c] && (rowL 12 (ws.getD 2 []) && neS (dS (ws.getD 2 [])))) = true
                  rw [← hc, hl, hr.1, neS_of (fun z => by have := hr.2; rw [z] at this; exact absurd this (by decide))]
                  rfl
            · cases r
          · cases r
        · cases r
      · cases r
    · cases r
  | _ => cases r
theorem sgBad_step {used : List (List Nat)} {n : Nat} {q : Nat × List Nat} {r : List PyData} (h : isSigD (sgP q) = true) : sgBad used n (sgP q :: r) = if [q.1] ∈ used then some n else sgBad ([q.1] :: used) (n + 1) r := by
  have hk : sgKey (sgP q) = [q.1] := rfl
  show (if (isSigD (sgP q) && !decide (sgKey (sgP q) ∈ used)) = true then sgBad (sgKey (sgP q) :: used) (n + 1) r else some n) = _
  rw [h, hk, Bool.true_and]
  by_cases e : [q.1] ∈ used
  · rw [decide_eq_true e, if_pos e, if_neg (by decide)]
  · rw [decide_eq_false e, if_neg e, if_pos (by decide)]
theorem resW_many {pl : List Nat} {ws : List PyData} (h : 4 < ws.length) : resW pl ws = .sig (-1) := by
  unfold resW
  have : sgsD (.tuple ws) = some (-1) := by
    show (if ws.length ≤ 4 then (sgBad [] 0 ws).map fun n : Nat => (n : Int) else some (-1)) = _
    rw [if_neg (by omega)]
  rw [this]
theorem resW_few {pl : List Nat} {ws : List PyData} (h : ws.length ≤ 4) : resW pl ws = match sgBad [] 0 ws with | some n => .sig (n : Int) | none => .good pl ws := by
  unfold resW
  have : sgsD (.tuple ws) = (sgBad [] 0 ws).map fun n : Nat => (n : Int) := by
    show (if ws.length ≤ 4 then (sgBad [] 0 ws).map fun n : Nat => (n : Int) else some (-1)) = _
    rw [if_pos h]
  rw [this]
  cases sgBad [] 0 ws <;> rfl
theorem same_both {A G : Hp} {p : Addr} {o : HO} (s : Same A G) : Same (upd A p o) (upd G p o) := fun b u e => by
  by_cases h : b = p
  · rw [h, upd_same] at e
    rw [h, upd_same]; exact e
  · rw [upd_ne h] at e
    rw [upd_ne h]; exact s _ _ e
/-- a good first line -/
theorem rnd_ws {t : Tx} {m : Nat} {e : PyData} {pl : List Nat} (h : LnM t m e) (r : lnRnd e = .inl pl) : ∃ ws, e = dS (TL.joinL [32] ws) ∧ (∀ w ∈ ws, Wd t w) ∧ ws ≠ [] ∧ ws.length ≤ m ∧ 1 < ws.length ∧ rdP (ws.getD 1 []) = some pl := by
  cases h with
  | @ln ws h ne l =>
    rw [lnRnd_ws h ne] at r
    unfold rndW at r
    split at r
    · split at r
      · rename_i l1
        cases er : rdP (ws.getD 1 []) with
        | none => rw [er] at r; cases r
        | some p =>
          rw [er] at r
          dsimp only at r
          split at r
          · cases r
          · cases r
            exact ⟨ws, rfl, h, ne, l, l1, er⟩
      · cases r
    · cases r
  | _ => cases r
section
variable {P : Program} {w : World} {K : PySem.W.Frag} {mg : Str → Option Value} {base : Heap} {C_GlimError C_BadRound C_BadText C_BadLine C_BadSignal C_BadMessage C_TooLong C_Lines C_Signals C_dt_Signals___init__ : Addr}
def p_L_due : P2 := fun x y H Q _ => ∃ d t a, y = .ref a ∧ At H x d ∧ H a = some (.dK (tabK t)) ∧ TabOk t ∧ (∀ ds, seqD d = some ds → ds.length ≤ 60 ∧ ∀ e ∈ ds, LnM t 10 e) ∧ ∀ H' v, Same H H' → At H' v (resT (resD d)) → Q v H'
theorem ok_L_due (T : Txt K mg C_GlimError C_BadRound C_BadText C_BadLine C_BadSignal C_BadMessage C_TooLong C_Lines C_Signals C_dt_Signals___init__) : OK P w K mg base CX0 4 "_law_due" ["_law_lines", "_law_texts_here"] (sp2  p_L_due) := by
  refine OK.mk (k := 3) T.d_L_due sc_L_due len2 fun f cdv A outer s H vs Q E hr h => ?_
  obtain ⟨x, y, rfl, h⟩ := h
  refine ⟨_, (Evl.pss_cut (ps_if (pw_or (pt_not (pw_or (pt_val (pe_callB (cIsi K) (by rfl) T.b_isinstance (by decide +kernel) (pa_cons (pv 0) (pa_cons (pe_bltn (v := .ty "list") (by rfl) T.b_list (by decide +kernel) rfl) pa_nil)))) (pw_or1 (pt_val (pe_callB (cIsi K) (by rfl) T.b_isinstance (by decide +kernel) (pa_cons (pv 0) (pa_cons (pe_bltn (v := .ty "tuple") (by rfl) T.b_tuple (by decide +kernel) rfl) pa_nil)))))).pt) (pw_or1 (pt_cmpR (opEq K hr.units) (pe_callB (cLen K) (by rfl) T.b_len (by decide +kernel) (pa_cons (pv 0) pa_nil)) pe_int (nomark _)))).pt (pss_one (ps_ret (pe_lst (pa_cons (pe_S [108, 105, 110, 101]) (pa_cons pe_int (pa_cons pe_int pa_nil)))))) pss_nil) (pss_cons (ps_for PassesOwn.never rfl (pi_range1 rfl T.b_range (pa_cons (pe_callB (cLen K) (by rfl) T.b_len (by decide +kernel) (pa_cons (pv 0) pa_nil)) pa_nil)) (pg_name (i := 2) sc_L_due.nd rfl (Or.inl rfl)) (pss_cons (ps_set (i := 3) sc_L_due.nd rfl (Or.inl rfl) (pe_f (ok_L_bad_word (K := K) T) (hr.mono (by decide)) pass0 (pa_cons (pe_ix (ixK K) (pv 0) (pv 2) (fun _ _ => rfl)) (pa_cons (pv 2) (pa_cons (pv 1) pa_nil))))) (pss_one (ps_if (pt_cmpR op_isNotP (pv 3) pe_non (nomark _)) (pss_one (ps_ret (pe_lst (pa_cons (pe_S [108, 105, 110, 101]) (pa_cons (pv 2) (pa_cons (pv 3) pa_nil)))))) pss_nil)))) (pss_cons (ps_if (pt_cmpR op_gtP (pe_callB (cLen K) (by rfl) T.b_len (by decide +kernel) (pa_cons (pv 0) pa_nil)) pe_int (nomark _)) (pss_one (ps_ret (pe_lst (pa_cons (pe_S [115, 105, 103, 110, 97, 108]) (pa_cons (pe_un un_neg pe_int) pa_nil))))) pss_nil) (pss_cons (ps_set (i := 4) sc_L_due.nd rfl (Or.inl rfl) (pe_lst pa_nil)) (pss_cons (ps_set (i := 5) sc_L_due.nd rfl (Or.inl rfl) (pe_lst pa_nil)) (pss_cons (ps_for PassesOwn.never rfl (pi_range2 rfl T.b_range (pa_cons pe_int (pa_cons (pe_callB (cLen K) (by rfl) T.b_len (by decide +kernel) (pa_cons (pv 0) pa_nil)) pa_nil))) (pg_name (i := 2) sc_L_due.nd rfl (Or.inl rfl)) (pss_cons (ps_set (i := 6) sc_L_due.nd rfl (Or.inl rfl) (peSplit K (pe_ix (ixK K) (pv 0) (pv 2) (fun _ _ => rfl)) (pa_cons (pe_S [32]) pa_nil))) (pss_cons (ps_if (pt_cmpR (opIn K) (pe_ix (ixK K) (pv 6) pe_int (fun _ _ => rfl)) (pv 5) (by with_unfolding_all rfl)) (pss_one (ps_ret (pe_lst (pa_cons (pe_S [115, 105, 103, 110, 97, 108]) (pa_cons (pe_op op_subP (pv 2) pe_int) pa_nil))))) pss_nil) (pss_cons (ps_expr (peApp K (pv 5) (pa_cons (pe_ix (ixK K) (pv 6) pe_int (fun _ _ => rfl)) pa_nil))) (pss_one (ps_expr (peApp K (pv 4) (pa_cons (pe_tup (pa_cons (pe_ix (ixK K) (pv 6) pe_int (fun _ _ => rfl)) (pa_cons (pe_ix (ixK K) (pv 6) pe_int (fun _ _ => rfl)) pa_nil))) pa_nil)))))))) (pss_one (ps_ret (pe_lst (pa_cons (pe_S [103, 111, 111, 100]) (pa_cons (pe_f (ok_L_round_of (K := K) T) (hr.mono (by decide)) pass0 (pa_cons (pe_ix (ixK K) (peSplit K (pe_ix (ixK K) (pv 0) pe_int (fun _ _ => rfl)) (pa_cons (pe_S [32]) pa_nil)) pe_int (fun _ _ => rfl)) (pa_cons (pv 1) pa_nil))) (pa_cons (pe_callTy (cTup K) (by rfl) T.b_tuple (by decide +kernel) (pa_cons (pv 4) pa_nil)) pa_nil)))))))))))), ?_⟩
  show (_ : TS) { nx := fun _ H' => Q .non H', rt := Q } [some x, some y, none, none, none, none, none] H
  obtain ⟨d, t, a, rfl, hx, ea, ok, hg, q⟩ := h
  have line : ∀ {n k : Nat} {G : Hp} {p : Addr}, resD d = .line n k → Same H G → G p = none → Q (.ref p) (upd G p (.lst [S cLine, .int (n : Int), .int (k : Int)])) := fun {n k G p} e s np => by
    refine q _ _ (s.trans (same_upd np)) ?_
    rw [e]
    exact .lst upd_same (by show 3 ≤ 10000; decide) (.cons (.str _ (by decide)) (.cons (.int _) (.cons (.int _) .nil)))
  cases es : seqD d with
  | none =>
    have er : resD d = .line 0 0 := by
      cases d with
      | list _ => cases es
      | tuple _ => cases es
      | _ => rfl
    walk_at "go"
    refine i_cut (fun _ _ => False) ?_ (fun _ _ z => z.elim)
    walk_at "go"
    refine i_isiLl hx ?_
    have n1 : isLl d = false := by cases d <;> first | rfl | cases es
    have n2 : isTl d = false := by cases d <;> first | rfl | cases es
    rw [n1]
    walk_at "go"
    refine i_isiTl hx ?_
    rw [n2]
    walk_at "go"
    refine i_new (by show 3 ≤ 100000; omega) fun p np => ?_
    exact line er (Same.refl _) np
  | some ds =>
  obtain ⟨l60, gds⟩ := hg ds es
  obtain ⟨b, xs, rfl, hl, al, hs⟩ := seq_at hx es
  have ll := al.len
  have erD : resD d = resA ds := by
    cases d with
    | list _ => cases es; rfl
    | tuple _ => cases es; rfl
    | _ => cases es
  have hsS : ∀ {G : Hp}, Same H G → G b = some (.lst xs) ∨ G b = some (.tup xs) := fun s => hs.imp (s _ _) (s _ _)
  walk_at "go"
  refine i_cut (fun σ G => σ = [some (.ref b), some (.ref a), none, none, none, none, none] ∧ G = H ∧ ds ≠ []) ?_ ?_
  · have zero : ∀ {G : Hp} {p : Addr}, (ds.length : Int) = 0 → Same H G → G p = none → Q (.ref p) (upd G p (.lst [S cLine, .int 0, .int 0])) := fun z sG np => by
      refine line (n := 0) (k := 0) ?_ sG np
      rw [erD, List.length_eq_zero_iff.mp (show ds.length = 0 by omega)]
      rfl
    have nz : ¬ (ds.length : Int) = 0 → ds ≠ [] := fun z e => z (by rw [e]; rfl)
    walk_at "go"
    refine i_isiLl hx ?_
    cases hb : isLl d with
    | true =>
      walk_at "go"
      refine i_lenQ hs ?_
      rw [ll]
      walk_at "go"
      refine i_dec (fun e => ?_) (fun e => ?_)
      · walk_at "go"
        refine i_new (by show 3 ≤ 100000; omega) fun p np => ?_
        exact zero e (Same.refl _) np
      · walk_at "go"
        exact ⟨rfl, rfl, nz e⟩
    | false =>
      have ht : isTl d = true := by
        cases d with
        | list _ => cases hb
        | tuple _ => rfl
        | _ => cases es
      walk_at "go"
      refine i_isiTl hx ?_
      rw [ht]
      walk_at "go"
      refine i_lenQ hs ?_
      rw [ll]
      walk_at "go"
      refine i_dec (fun e => ?_) (fun e => ?_)
      · walk_at "go"
        refine i_new (by show 3 ≤ 100000; omega) fun p np => ?_
        exact zero e (Same.refl _) np
      · walk_at "go"
        exact ⟨rfl, rfl, nz e⟩
  rintro σ G ⟨rfl, rfl, nz⟩
  refine f_rng1 ds.length (fun R k => by
    walk_at "go"
    refine i_lenQ hs ?_
    rw [ll]
    walk_at "go"
    exact k) (by omega) (fun i σ G1 => ∃ v2 v3, σ = [some (.ref b), some (.ref a), v2, v3, none, none, none] ∧ Same G G1 ∧ ∀ j < i, ∀ e, ds[j]? = some e → lnBad j e = none)
    ⟨none, none, rfl, Same.refl _, fun j hj => absurd hj (Nat.not_lt_zero _)⟩ ?_ ?_
  · rintro i σ G1 hi ⟨v2, v3, rfl, s1, hb⟩
    show (_ : TS) _ [some (.ref b), some (.ref a), some (.int (i : Int)), v3, none, none, none] G1
    have hdi : ds[i]? = some ds[i] := List.getElem?_eq_getElem hi
    generalize ds[i] = e at hdi
    obtain ⟨y, hy, ay⟩ := al.at hdi
    walk_at "go"
    refine i_ixQ (hsS s1) hy ?_
    walk_at "go"
    refine ⟨e, t, a, i, rfl, rfl, ay.same s1, s1 _ _ ea, gds e (List.mem_of_getElem? hdi), fun G2 s2 => ?_⟩
    cases eb : lnBad i e with
    | some k =>
      show (_ : Prop)
      rw [show oV (some k) = .int (k : Int) from rfl]
      walk_at "go"
      refine i_new (by show 3 ≤ 100000; omega) fun p np => ?_
      exact line (by rw [erD]; exact resA_bad hdi eb hb) (s1.trans s2) np
    | none =>
      show (_ : Prop)
      rw [show oV none = .non from rfl]
      walk_at "go"
      refine ⟨_, _, rfl, s1.trans s2, fun j hj e' he' => ?_⟩
      by_cases z : j < i
      · exact hb j z e' he'
      · obtain rfl : j = i := by omega
        rw [hdi] at he'
        cases he'
        exact eb
  rintro σ G1 ⟨v2, v3, rfl, s1, hb⟩
  obtain ⟨d0, r, rfl⟩ : ∃ d0 r, ds = d0 :: r := by
    cases ds with
    | nil => exact absurd rfl nz
    | cons d0 r => exact ⟨d0, r, rfl⟩
  obtain ⟨pl, h0, era, hgood⟩ := resA_good fun j e' h => hb j (List.getElem?_eq_some_iff.mp h).1 e' h
  have sgw := fun e (he : e ∈ r) => sig_ws (gds e (List.mem_cons_of_mem _ he)) (hgood e he).choose_spec
  obtain ⟨w0, ed0, hw0, ne0, lm0, l01, er0⟩ := rnd_ws (gds d0 List.mem_cons_self) h0
  have eqs : r.map sgOf = (r.map sgQ).map sgP := by
    rw [List.map_map]
    refine List.map_congr_left fun e he => ?_
    obtain ⟨_, _, _, _, _, _, _, _, h, _⟩ := sgw e he
    exact h
  have ql : (r.map sgQ).length = r.length := List.length_map ..
  rw [eqs] at era
  have sig : ∀ {k : Int} {G2 : Hp} {p : Addr}, resW pl ((r.map sgQ).map sgP) = .sig k → Same G G2 → G2 p = none → Q (.ref p) (upd G2 p (.lst [S cSig, .int k])) := fun {k G2 p} e s np => by
    refine q _ _ (s.trans (same_upd np)) ?_
    rw [erD, era, e]
    exact .lst upd_same (by show 2 ≤ 10000; decide) (.cons (.str _ (by decide)) (.cons (.int _) .nil))
  rw [List.length_cons] at l60 ll
  walk_at "go"
  refine i_lenQ (hsS s1) ?_
  rw [ll]
  walk_at "go"
  refine i_dec (fun e5 => ?_) (fun e5 => ?_)
  · walk_at "go"
    refine i_new (by show 2 ≤ 100000; omega) fun p np => ?_
    exact sig (resW_many (by rw [List.length_map, ql]; omega)) s1 np
  have few : ((r.map sgQ).map sgP).length ≤ 4 := by rw [List.length_map, ql]; omega
  walk_at "go"
  refine i_new (by show 0 ≤ 100000; omega) fun L1 n1 => ?_
  walk_at "go"
  refine i_new (by show 0 ≤ 100000; omega) fun L2 n2 => ?_
  have ne12 : L1 ≠ L2 := fun z => by rw [← z, upd_same] at n2; cases n2
  have n2' : G1 L2 = none := by rw [upd_ne ne12.symm] at n2; exact n2
  walk_at "go"
  have s12 : Same G1 (upd (upd G1 L1 (.lst [])) L2 (.lst [])) := (same_upd n1).trans (same_upd n2)
  refine f_rng2 1 (r.length + 1) (fun R k => by
    walk_at "go"
    refine i_lenQ (hsS (s1.trans s12)) ?_
    rw [ll]
    walk_at "go"
    exact k) (by omega) (fun i σ G2 => ∃ v2 v6 A1 xs, σ = [some (.ref b), some (.ref a), v2, v3, some (.ref L1), some (.ref L2), v6] ∧ Same G1 A1 ∧ Same A1 G2 ∧ A1 L1 = none ∧ A1 L2 = none ∧ G2 L1 = some (.lst xs) ∧ G2 L2 = some (.lst ((((r.map sgQ).take i).map fun q => [q.1]).map S)) ∧ AtAll A1 xs (((r.map sgQ).take i).map sgP) ∧ sgBad [] 0 ((r.map sgQ).map sgP) = sgBad (((r.map sgQ).take i).map fun q => [q.1]).reverse i (((r.map sgQ).drop i).map sgP))
    ⟨v2, none, G1, [], rfl, Same.refl _, s12, n1, n2', (upd_ne ne12).trans upd_same, upd_same, .nil, rfl⟩ ?_ ?_
  · rintro i σ G2 hi ⟨v2, v6, A1, xs1, rfl, sA, sG, a1, a2, e1, e2, al1, inv⟩
    have hir : i < r.length := by omega
    have hri : r[i]? = some r[i] := List.getElem?_eq_getElem hir
    have hmem := List.getElem_mem hir
    generalize r[i] = e at hri hmem
    obtain ⟨ws, rfl, hw, ne, lm, l2, w1, w2, esg, isg, wl12⟩ := sgw _ hmem
    have hq : (r.map sgQ)[i]? = some (sgQ (dS (TL.joinL [32] ws))) := by rw [List.getElem?_map, hri]; rfl
    generalize sgQ (dS (TL.joinL [32] ws)) = qq at *
    have jl := join_len hw ne
    have ew := wd_wrds hw ne
    obtain ⟨y, hy, ay⟩ := al.at (show (d0 :: r)[1 + i]? = some (dS (TL.joinL [32] ws)) by rw [Nat.add_comm, List.getElem?_cons_succ]; exact hri)
    obtain ⟨l, rfl, el, hl0⟩ := ay.strl
    obtain rfl : TL.joinL [32] ws = l := dS_inj (congrArg PyData.str el)
    clear el
    have s02 : Same G G2 := (s1.trans sA).trans sG
    walk_at "go"
    refine i_ixQ (hsS s02) hy ?_
    walk_at "go"
    refine ⟨rfl, ?_⟩
    walk_at "go"
    refine ⟨_, ⟨#[32]⟩, rfl, rfl, rfl, ?_, ?_⟩
    · rw [str_len]
      exact Nat.le_trans (show (TL.joinL [32] ws).length + 2 ≤ 100000 by omega) (by decide)
    intro pp np
    rw [words_V, ew]
    have nL1 : L1 ≠ pp := fun z => by rw [z, np] at e1; cases e1
    have nL2 : L2 ≠ pp := fun z => by rw [z, np] at e2; cases e2
    have e1' := (upd_ne (o := HO.lst (ws.map S)) nL1).trans e1
    have e2' := (upd_ne (o := HO.lst (ws.map S)) nL2).trans e2
    have eW : (upd G2 pp (.lst (ws.map S))) pp = some (.lst (ws.map S)) := upd_same
    have sG' : Same A1 (upd G2 pp (.lst (ws.map S))) := sG.trans (same_upd np)
    have nApp : A1 pp = none := sG.free np
    generalize upd G2 pp (.lst (ws.map S)) = G3 at *
    have k1 : (ws.map S)[1]? = some (S [qq.1]) := by rw [← w1, List.getElem?_map, List.getD_eq_getElem?_getD, List.getElem?_eq_getElem (by omega)]; rfl
    have k2 : (ws.map S)[2]? = some (S qq.2) := by rw [← w2, List.getElem?_map, List.getD_eq_getElem?_getD, List.getElem?_eq_getElem l2]; rfl
    have tk : (r.map sgQ).take (i + 1) = (r.map sgQ).take i ++ [qq] := by rw [List.take_succ, hq]; rfl
    have dk : (r.map sgQ).drop i = qq :: (r.map sgQ).drop (i + 1) := by
      obtain ⟨hlt, e⟩ := List.getElem?_eq_some_iff.mp hq
      rw [List.drop_eq_getElem_cons hlt, e]
    rw [dk, List.map_cons, sgBad_step isg] at inv
    have tl4 : ((r.map sgQ).take i).length ≤ 4 := by rw [List.length_take]; omega
    walk_at "go"
    refine i_ix_lst (.inl (.inl eW)) (atI_int (by decide) k1) ?_
    walk_at "go"
    refine i_inS e2' ?_
    walk_at "go"
    refine i_dec (fun e3 => ?_) (fun e3 => ?_)
    · rw [if_pos (List.mem_reverse.mpr e3)] at inv
      walk_at "go"
      refine i_new (by show 2 ≤ 100000; omega) fun p np2 => ?_
      rw [show ((1 + i : Nat) : Int) - 1 = (i : Int) by omega]
      refine sig ?_ ((s1.trans sA).trans sG') np2
      rw [resW_few few, inv]
    rw [if_neg (fun z => e3 (List.mem_reverse.mp z))] at inv
    walk_at "go"
    refine i_appAt e2' ?_
    walk_at "go"
    refine i_ix_lst (.inl (.inl eW)) (atI_int (by decide) k1) ?_
    walk_at "go"
    refine i_appEnd e2' (by rw [List.length_map, List.length_map]; omega) ?_
    have e1b := (upd_ne (o := HO.lst (((((r.map sgQ).take i).map fun q => [q.1]).map S) ++ [S [qq.1]])) ne12).trans e1'
    have eWb := (upd_ne (o := HO.lst (((((r.map sgQ).take i).map fun q => [q.1]).map S) ++ [S [qq.1]])) nL2.symm).trans eW
    have sGb := Same.upd (o := HO.lst (((((r.map sgQ).take i).map fun q => [q.1]).map S) ++ [S [qq.1]])) sG' a2
    have e2b : upd G3 L2 (HO.lst (((((r.map sgQ).take i).map fun q => [q.1]).map S) ++ [S [qq.1]])) L2 = some (HO.lst (((((r.map sgQ).take i).map fun q => [q.1]).map S) ++ [S [qq.1]])) := upd_same
    generalize upd G3 L2 (HO.lst (((((r.map sgQ).take i).map fun q => [q.1]).map S) ++ [S [qq.1]])) = G4 at *
    walk_at "go"
    refine i_appAt e1b ?_
    walk_at "go"
    refine i_ix_lst (.inl (.inl eWb)) (atI_int (by decide) k1) ?_
    walk_at "go"
    refine i_ix_lst (.inl (.inl eWb)) (atI_int (by decide) k2) ?_
    walk_at "go"
    refine i_new (by show 2 ≤ 100000; omega) fun tp ntp => ?_
    have nt1 : L1 ≠ tp := fun z => by rw [z, ntp] at e1b; cases e1b
    have nt2 : L2 ≠ tp := fun z => by rw [z, ntp] at e2b; cases e2b
    have nAt := sGb.free ntp
    have x1l := al1.len
    rw [List.length_map] at x1l
    walk_at "go"
    refine i_appEnd ((upd_ne nt1).trans e1b) (by omega) ?_
    refine ⟨_, _, upd A1 tp (.tup [S [qq.1], S qq.2]), xs1 ++ [.ref tp], rfl, sA.trans (same_upd nAt), Same.upd (same_both sGb) ((upd_ne nt1).trans a1), (upd_ne nt1).trans a1, (upd_ne nt2).trans a2, upd_same, ?_, ?_, ?_⟩
    · rw [upd_ne ne12.symm, upd_ne nt2, e2b, tk, List.map_append, List.map_append]
      rfl
    · rw [tk, List.map_append]
      exact (al1.same (same_upd nAt)).app (.one (.tup upd_same (by show 2 ≤ 10000; decide) (.cons (.str _ (by show 1 ≤ 10000; decide)) (.one (.str _ (by omega))))))
    · rw [inv, tk, List.map_append, List.reverse_append]
      rfl
  rintro σ G2 ⟨v2, v6, A1, xs1, rfl, sA, sG, a1, a2, e1, e2, al1, inv⟩
  have edr : (r.map sgQ).drop (r.length + 1 - 1) = [] := List.drop_of_length_le (by omega)
  have etk : (r.map sgQ).take (r.length + 1 - 1) = r.map sgQ := List.take_of_length_le (by omega)
  rw [edr] at inv
  rw [etk] at al1
  have erW : resD d = .good pl ((r.map sgQ).map sgP) := by
    rw [erD, era, resW_few few, inv]
    rfl
  have s02 : Same G G2 := (s1.trans sA).trans sG
  subst ed0
  obtain ⟨y, hy, ay⟩ := al.at (show (dS (TL.joinL [32] w0) :: r)[0]? = some (dS (TL.joinL [32] w0)) from rfl)
  obtain ⟨l, rfl, el, hl0⟩ := ay.strl
  obtain rfl : TL.joinL [32] w0 = l := dS_inj (congrArg PyData.str el)
  clear el
  have jl := join_len hw0 ne0
  have ew := wd_wrds hw0 ne0
  walk_at "go"
  refine i_ixQ (i := 0) (hsS s02) hy ?_
  walk_at "go"
  refine ⟨rfl, ?_⟩
  walk_at "go"
  refine ⟨_, ⟨#[32]⟩, rfl, rfl, rfl, ?_, ?_⟩
  · rw [str_len]
    exact Nat.le_trans (show (TL.joinL [32] w0).length + 2 ≤ 100000 by omega) (by decide)
  intro pp np
  rw [words_V, ew]
  have wd1 : Wd t (w0.getD 1 []) := hw0 _ (by
    rw [List.getD_eq_getElem?_getD, List.getElem?_eq_getElem l01]
    exact List.getElem_mem _)
  have plr := rd_rnd ok wd1 er0
  walk_at "go"
  refine i_ix_lst (v := S (w0.getD 1 [])) (.inl (.inl upd_same)) (atI_int (by decide) (by
    show (w0.map S)[1]? = _
    rw [List.getElem?_map, List.getD_eq_getElem?_getD, List.getElem?_eq_getElem l01]
    rfl)) ?_
  have sW := (same_upd (o := HO.lst (w0.map S)) np)
  walk_at "go"
  refine ⟨w0.getD 1 [], t, a, rfl, rfl, sW _ _ (s02 _ _ ea), wd1, fun G3 s3 => ?_⟩
  rw [er0]
  have s23 := sW.trans s3
  walk_at "go"
  refine i_tuple_lst (.inl (.inl (s23 _ _ e1))) fun tl ntl => ?_
  walk_at "go"
  refine i_new (by show 3 ≤ 100000; omega) fun p np2 => ?_
  have net : tl ≠ p := fun z => by rw [← z, upd_same] at np2; cases np2
  have sE := (s23.trans (same_upd (o := HO.tup xs1) ntl)).trans (same_upd (o := HO.lst [S cGood, S pl, .ref tl]) np2)
  refine q _ _ (s02.trans sE) ?_
  rw [erW]
  refine .lst upd_same (by show 3 ≤ 10000; decide) (.cons (.str _ (by decide)) (.cons (.str _ (by have := plr.2.1; omega)) (.one (At.mkTup ((upd_ne net).trans upd_same) ((al1.same sG).same sE) (by rw [List.length_map, ql]; omega)))))
end
theorem lk_line {a b : V} : ([(("word" : Str), a), ("line", b)] : List (Str × V)).lookup ("line" : Str) = some b := by
  have h : (("line" : Str) == ("word" : Str)) = false := by decide +kernel
  simp only [List.lookup, h, beq_self_eq_true]
theorem lk_word {a b : V} : ([(("word" : Str), a), ("line", b)] : List (Str × V)).lookup ("word" : Str) = some a := by
  simp only [List.lookup, beq_self_eq_true]
theorem i_xfs {σ : L2.St} {H : Hp} {Q : VK} {i : Nat} {a dd C : Addr} {f : Str} {v : V} {fs : List (Str × V)} (h : σ[i]? = some (some (.ref a))) (hdd : H dd = some (.xd fs)) (l : fs.lookup f = some v) (q : Q v H) : tXf a (.ref C) (some dd) C f (tVar i) σ H Q :=
  ⟨.ref a, h, rfl, rfl, dd, _, v, rfl, hdd, l, q⟩
section
variable {P : Program} {w : World} {K : PySem.W.Frag} {mg : Str → Option Value} {base : Heap} {C_GlimError C_BadRound C_BadText C_BadLine C_BadSignal C_BadMessage C_TooLong C_Lines C_Signals C_dt_Signals___init__ : Addr}
def p_L_told : P1 := fun x H Q _ => ∃ d, At H x d ∧ (∀ ds, seqOf d = some ds → (∀ e ∈ ds, ShortL e) ∧ ∀ e pl, ds.head? = some e → lnRnd e = .inl pl → IsRound pl) ∧ ∀ H' v, Same H H' → At H' v (resT (resD d)) → Q v H'
theorem ok_L_told (T : Txt K mg C_GlimError C_BadRound C_BadText C_BadLine C_BadSignal C_BadMessage C_TooLong C_Lines C_Signals C_dt_Signals___init__) : OK P w K mg base CX0 28 "_law_told" ["_law_lines"] (sp1  p_L_told) := by
  refine OK.mk (k := 27) T.d_L_told sc_L_told len1 fun f cdv A outer s H vs Q E hr h => ?_
  obtain ⟨x, rfl, h⟩ := h
  refine ⟨_, (pss_cons (ps_try_as (i := 2) rfl rfl sc_L_told.nd rfl rfl ⟨rfl, by decide, Or.inl T.c_GlimError⟩ takes0 (fun W pn xe tk _ => (pss_one (ps_set (i := 1) sc_L_told.nd rfl (Or.inl rfl) (pe_fS (ok_read_signals (K := K) T) (hr.mono (by decide)) (fun σ => passAt tk σ) (pa_cons (pv 0) pa_nil))))) (fun a oe cls d pn hz hf => (pss_cons (ps_if (pw_or (pt_val (pe_callB (cIsX K hz hf) (by rfl) T.b_isinstance (by decide +kernel) (pa_cons (pv 2) (pa_cons (pe_gR _ T.c_BadText) pa_nil)))) (pw_or (pt_val (pe_callB (cIsX K hz hf) (by rfl) T.b_isinstance (by decide +kernel) (pa_cons (pv 2) (pa_cons (pe_gR _ T.c_TooLong) pa_nil)))) (pw_or1 (pt_val (pe_callB (cIsX K hz hf) (by rfl) T.b_isinstance (by decide +kernel) (pa_cons (pv 2) (pa_cons (pe_gR _ T.c_BadRound) pa_nil))))))).pt (pss_one (ps_ret (pe_lst (pa_cons (pe_S [111, 116, 104, 101, 114]) pa_nil)))) pss_nil) (pss_cons (ps_if (pw_and (pt_val (pe_callB (cIsX K hz hf) (by rfl) T.b_isinstance (by decide +kernel) (pa_cons (pv 2) (pa_cons (pe_gR _ T.c_BadLine) pa_nil)))) (pw_and1 (pt_not (pt_val (pe_callB (cIsX K hz hf) (by rfl) T.b_isinstance (by decide +kernel) (pa_cons (pv 2) (pa_cons (pe_gR _ T.c_BadSignal) pa_nil))))))).pt (pss_one (ps_ret (pe_lst (pa_cons (pe_S [108, 105, 110, 101]) (pa_cons (pe_xf T.e_BadLine.xf T.nf_BadLine_line hz hf (pv 2)) (pa_cons (pe_xf T.e_BadLine.xf T.nf_BadLine_word hz hf (pv 2)) pa_nil)))))) pss_nil) (pss_cons (ps_if (pw_and (pt_val (pe_callB (cIsX K hz hf) (by rfl) T.b_isinstance (by decide +kernel) (pa_cons (pv 2) (pa_cons (pe_gR _ T.c_BadSignal) pa_nil)))) (pw_and1 (pt_not (pt_val (pe_callB (cIsX K hz hf) (by rfl) T.b_isinstance (by decide +kernel) (pa_cons (pv 2) (pa_cons (pe_gR _ T.c_BadLine) pa_nil))))))).pt (pss_one (ps_ret (pe_lst (pa_cons (pe_S [115, 105, 103, 110, 97, 108]) (pa_cons (pe_xf T.e_BadSignal.xf T.nf_BadSignal_number hz hf (pv 2)) pa_nil))))) pss_nil) (pss_one (ps_ret (pe_lst (pa_cons (pe_S [111, 116, 104, 101, 114]) pa_nil))))))))) (pss_cons (ps_if (pt_not (pt_val (pe_callB (cIsi K) (by rfl) T.b_isinstance (by decide +kernel) (pa_cons (pv 1) (pa_cons (pe_gR _ T.c_Signals) pa_nil))))) (pss_one (ps_ret (pe_lst (pa_cons (pe_S [111, 116, 104, 101, 114]) pa_nil)))) pss_nil) (pss_one (ps_ret (pe_lst (pa_cons (pe_S [103, 111, 111, 100]) (pa_cons (peFld K (pv 1)) (pa_cons (peFld K (pv 1)) pa_nil)))))))), ?_⟩
  show (_ : TS) { nx := fun _ H' => Q .non H', rt := Q } [some x, none, none] H
  obtain ⟨d, hx, hg, q⟩ := h
  walk_at "go"
  refine ⟨H, d, Same.refl _, hx, hg, ?_⟩
  cases er : resD d with
  | line n k =>
    rw [er] at q
    intro dd H1 _ s1 hdd
    refine i_caught T.m_BadLine_GlimError fun a na => ?_
    show (_ : TS) _ [some x, none, some (.ref a)] H1
    walk_at "go"
    refine i_isX hdd T.e_BadLine (.own _) T.k_BadLine_BadText ?_
    walk_at "go"
    refine i_isX hdd T.e_BadLine (.own _) T.k_BadLine_TooLong ?_
    walk_at "go"
    refine i_isX hdd T.e_BadLine (.own _) T.k_BadLine_BadRound ?_
    walk_at "go"
    refine i_isX hdd T.e_BadLine (.own _) T.k_BadLine_BadLine ?_
    walk_at "go"
    refine i_isX hdd T.e_BadLine (.own _) T.k_BadLine_BadSignal ?_
    walk_at "go"
    refine i_xfs rfl hdd lk_line ?_
    walk_at "go"
    refine i_xfs rfl hdd lk_word ?_
    walk_at "go"
    refine i_new (by show 3 ≤ 100000; omega) fun p np => ?_
    exact q _ _ (s1.trans (same_upd np)) (.lst upd_same (by show 3 ≤ 10000; decide) (.cons (.str _ (by decide)) (.cons (.int _) (.cons (.int _) .nil))))
  | sig k =>
    rw [er] at q
    intro dd H1 _ s1 hdd
    refine i_caught T.m_BadSignal_GlimError fun a na => ?_
    show (_ : TS) _ [some x, none, some (.ref a)] H1
    walk_at "go"
    refine i_isX hdd T.e_BadSignal (.own _) T.k_BadSignal_BadText ?_
    walk_at "go"
    refine i_isX hdd T.e_BadSignal (.own _) T.k_BadSignal_TooLong ?_
    walk_at "go"
    refine i_isX hdd T.e_BadSignal (.own _) T.k_BadSignal_BadRound ?_
    walk_at "go"
    refine i_isX hdd T.e_BadSignal (.own _) T.k_BadSignal_BadLine ?_
    walk_at "go"
    refine i_isX hdd T.e_BadSignal (.own _) T.k_BadSignal_BadSignal ?_
    walk_at "go"
    refine i_isX hdd T.e_BadSignal (.own _) T.k_BadSignal_BadLine ?_
    walk_at "go"
    refine i_xf rfl hdd ?_
    walk_at "go"
    refine i_new (by show 2 ≤ 100000; omega) fun p np => ?_
    exact q _ _ (s1.trans (same_upd np)) (.lst upd_same (by show 2 ≤ 10000; decide) (.cons (.str _ (by decide)) (.cons (.int _) .nil)))
  | good pl ws =>
    rw [er] at q
    intro H1 p ps s1 ews sg gt
    obtain ⟨dx, t, d', sg⟩ := sg
    walk_at "go"
    refine i_isiO sg.ob T.ic_Signals (.own _) T.k_Signals_Signals ?_
    walk_at "go"
    refine i_fld sg.ob T.cl_Signals T.na_Signals_plain (SF_pl ..) ?_
    walk_at "go"
    refine i_fld sg.ob T.cl_Signals T.na_Signals_signals (SF_si ..) ?_
    walk_at "go"
    refine i_new (by show 3 ≤ 100000; omega) fun p2 np => ?_
    subst ews
    exact q _ _ (s1.trans (same_upd np)) (.lst upd_same (by show 3 ≤ 10000; decide) (.cons (.str _ (by decide)) (.cons (.str _ (by have := sg.lp; omega)) (.one (sg.sg.same (same_upd np))))))
end
local macro_rules | `(tactic| walk_at "dp") => `(tactic| (repeat' (first
  | walk_at "s"
  | (refine i_mul_strI (by decide) (by decide) ?_))))
theorem joinL_snoc : ∀ {ws : List (List Nat)} {w : List Nat}, ws ≠ [] → TL.joinL [32] (ws ++ [w]) = TL.joinL [32] ws ++ ([32] ++ w)
  | [a], w, _ => rfl
  | a :: b :: r, w, _ => by
    have ih := joinL_snoc (ws := b :: r) (w := w) (by simp)
    show a ++ ([32] ++ TL.joinL [32] ((b :: r) ++ [w])) = (a ++ ([32] ++ TL.joinL [32] (b :: r))) ++ ([32] ++ w)
    rw [ih]
    simp only [List.append_assoc]
theorem joinL_cons {ws : List (List Nat)} {w : List Nat} (h : ws ≠ []) : TL.joinL [32] (w :: ws) = w ++ ([32] ++ TL.joinL [32] ws) := by
  cases ws with
  | nil => exact absurd rfl h
  | cons b r => rfl
theorem LnM.join {t : Tx} {m : Nat} {ws : List (List Nat)} (ok : TabOk t) (h : ∀ w ∈ ws, Wd t w) (l : ws.length ≤ m) (m1 : 1 ≤ m) : LnM t m (dS (TL.joinL [32] ws)) := by
  cases ws with
  | nil => exact LnM.ln (ws := [[]]) (fun w hw => by rw [List.mem_singleton.mp hw]; exact wd_fix ok (by simp)) (by simp) (by simpa using m1)
  | cons a r => exact .ln h (by simp) l
theorem atS {t : Tx} {B : Hp} : ∀ {us : List (List Nat)}, (∀ w ∈ us, Wd t w) → AtAll B (us.map S) (us.map dS)
  | [], _ => .nil
  | w :: r, h => .cons (.str _ (Nat.le_trans (h w List.mem_cons_self).1.1 (by decide))) (atS fun x hx => h x (List.mem_cons_of_mem _ hx))
theorem ix_word {t : Tx} {ws : List (List Nat)} {j : Nat} (h : ∀ w ∈ ws, Wd t w) (hj : j < ws.length) : ∃ w, (ws.map S)[j]? = some (S w) ∧ Wd t w :=
  ⟨ws[j], by rw [List.getElem?_map, List.getElem?_eq_getElem hj]; rfl, h _ (List.getElem_mem hj)⟩
section
variable {P : Program} {w : World} {K : PySem.W.Frag} {mg : Str → Option Value} {base : Heap} {C_GlimError C_BadRound C_BadText C_BadLine C_BadSignal C_BadMessage C_TooLong C_Lines C_Signals C_dt_Signals___init__ : Addr}
def p_L_spoilt_line (K : PySem.W.Frag) : P3 := fun x y z H Q _ => ∃ A d f t ta ws m, x = .ref d.a ∧ y = S (TL.joinL [32] ws) ∧ z = .ref ta ∧ D2 K d f A H ∧ A ta = some (.dK (tabK t)) ∧ TabOk t ∧ (∀ w ∈ ws, Wd t w) ∧ ws ≠ [] ∧ ws.length ≤ m ∧ m ≤ 8 ∧
  ∀ A' H' l, Same A A' → D2 K d f A' H' → LnM t (m + 1) (dS l) → l.length ≤ 10000 → Q (S l) H'
theorem ok_L_spoilt_line (T : Txt K mg C_GlimError C_BadRound C_BadText C_BadLine C_BadSignal C_BadMessage C_TooLong C_Lines C_Signals C_dt_Signals___init__) : OK P w K mg base CX0 3 "_law_spoilt_line" ["_law_draw_here", "_law_line", "_law_texts_here"] (sp3  (p_L_spoilt_line K)) := by
  refine OK.mk (k := 2) T.d_L_spoilt_line sc_L_spoilt_line len3 fun f cdv A outer s H vs Q E hr h => ?_
  obtain ⟨x, y, z, rfl, h⟩ := h
  refine ⟨_, (pss_cons (ps_set (i := 3) sc_L_spoilt_line.nd rfl (Or.inl rfl) (pe_lst (pa_cons (pe_S []) (pa_cons (pe_S [114, 111, 117, 110, 100]) (pa_cons (pe_S [115, 105, 103, 110, 97, 108]) (pa_cons (pe_S [65]) (pa_cons (pe_S [97, 98]) (pa_cons (pe_S [48]) (pa_cons (pe_S [45]) (pa_cons (pe_S [120]) (pa_cons (pe_S [119, 120]) (pa_cons (pe_op op_mulP (pe_S [119]) pe_int) (pa_cons (pe_op op_mulP (pe_S [114]) pe_int) (pa_cons (pe_S [103]) (pa_cons (pe_S [46]) (pa_cons (pe_S [97]) (pa_cons (pe_S [113]) (pa_cons (pe_S [119, 46]) pa_nil)))))))))))))))))) (pss_cons (ps_set (i := 3) sc_L_spoilt_line.nd rfl (Or.inl rfl) (pe_op (opAdd K) (pv 3) (pe_callB (Fg.cSrtD) (by rfl) T.b_sorted (by decide +kernel) (pa_cons (pv 2) pa_nil)))) (pss_cons (ps_set (i := 4) sc_L_spoilt_line.nd rfl (Or.inl rfl) (peSplit K (pv 1) (pa_cons (pe_S [32]) pa_nil))) (pss_cons (ps_set (i := 5) sc_L_spoilt_line.nd rfl (Or.inl rfl) (pe_f (ok_L_pick (K := K) T) (hr.mono (by decide)) pass0 (pa_cons (pv 0) (pa_cons (pe_op (opAdd K) (pe_callB (cLen K) (by rfl) T.b_len (by decide +kernel) (pa_cons (pv 4) pa_nil)) pe_int) pa_nil)))) (pss_cons (ps_set (i := 6) sc_L_spoilt_line.nd rfl (Or.inl rfl) (pe_f (ok_L_pick (K := K) T) (hr.mono (by decide)) pass0 (pa_cons (pv 0) (pa_cons pe_int pa_nil)))) (pss_cons (ps_set (i := 7) sc_L_spoilt_line.nd rfl (Or.inl rfl) (pe_ix (ixK K) (pv 3) (pe_f (ok_L_pick (K := K) T) (hr.mono (by decide)) pass0 (pa_cons (pv 0) (pa_cons (pe_callB (cLen K) (by rfl) T.b_len (by decide +kernel) (pa_cons (pv 3) pa_nil)) pa_nil))) (fun _ _ => rfl))) (Evl.pss_cut (ps_if (pt_cmpR (opEq K hr.units) (pe_f (ok_L_pick (K := K) T) (hr.mono (by decide)) pass0 (pa_cons (pv 0) (pa_cons pe_int pa_nil))) pe_int (nomark _)) (pss_one (ps_set (i := 7) sc_L_spoilt_line.nd rfl (Or.inl rfl) (pe_ix (ixK K) (pv 3) (pe_f (ok_L_pick (K := K) T) (hr.mono (by decide)) pass0 (pa_cons (pv 0) (pa_cons pe_int pa_nil))) (fun _ _ => rfl)))) pss_nil) (Evl.pss_cut (ps_if (pt_cmpR (opEq K hr.units) (pv 6) pe_int (nomark _)) (pss_one (ps_set (i := 4) sc_L_spoilt_line.nd rfl (Or.inl rfl) (pe_op (opAdd K) (pe_slice (slK K) (pv 4) po_none (po_some (pv 5))) (pe_slice (slK K) (pv 4) (po_some (pe_op (opAdd K) (pv 5) pe_int)) po_none)))) (pss_one (ps_if (pt_cmpR (opEq K hr.units) (pv 6) pe_int (nomark _)) (pss_one (ps_set (i := 4) sc_L_spoilt_line.nd rfl (Or.inl rfl) (pe_op (opAdd K) (pe_op (opAdd K) (pe_slice (slK K) (pv 4) po_none (po_some (pv 5))) (pe_lst (pa_cons (pv 7) pa_nil))) (pe_slice (slK K) (pv 4) (po_some (pv 5)) po_none)))) (pss_one (ps_set (i := 4) sc_L_spoilt_line.nd rfl (Or.inl rfl) (pe_op (opAdd K) (pe_op (opAdd K) (pe_slice (slK K) (pv 4) po_none (po_some (pv 5))) (pe_lst (pa_cons (pv 7) pa_nil))) (pe_slice (slK K) (pv 4) (po_some (pe_op (opAdd K) (pv 5) pe_int)) po_none))))))) (pss_one (ps_ret (peJoin K (pe_S [32]) (pv 4)))))))))))), ?_⟩
  show (_ : TS) { nx := fun _ H' => Q .non H', rt := Q } [some x, some y, some z, none, none, none, none, none] H
  obtain ⟨A0, d, f, t, ta, ws, m, rfl, rfl, rfl, dr, et, ok, hw, ne, lm, m8, q⟩ := h
  have jl := join_len hw ne
  have ew := wd_wrds hw ne
  have pos := List.length_pos_iff.mpr ne
  have tl := ok.ln
  walk_at "dp"
  refine i_new (by show 16 ≤ 100000; omega) fun L nL => ?_
  obtain ⟨A1, s1, e1, d1⟩ := dr.step (.lst (MENU.map S)) nL
  show gName 3 (V.ref L) _ (upd H L (.lst (MENU.map S))) _
  generalize upd H L (.lst (MENU.map S)) = G1 at *
  walk_at "go"
  refine i_srtD (d1.old (s1 _ _ et)) (ks := t.map (·.1)) (by unfold tabK; rw [List.map_map, List.map_map]; rfl) (by rw [List.length_map]; omega) fun ys p hp np => ?_
  obtain ⟨A2, s2, e2, d2⟩ := d1.step (.lst (ys.map S)) np
  generalize upd G1 p (.lst (ys.map S)) = G2 at *
  have yl : ys.length = t.length := by rw [hp.length_eq, List.length_map]
  walk_at "go"
  refine i_catL (d2.old (s2 _ _ e1)) (d2.old e2) (by rw [List.length_map, List.length_map]; show 16 + _ ≤ 100000; omega) fun M nM => ?_
  rw [← List.map_append]
  have hm : ∀ w ∈ MENU ++ ys, Wd t w := fun w h => (List.mem_append.mp h).elim (fun h => wd_fix ok (List.mem_append_left _ h)) fun h => wd_key ok (hp.mem_iff.mp h)
  have ml : (MENU ++ ys).length = 16 + t.length := by rw [List.length_append, yl]; rfl
  generalize MENU ++ ys = menu at *
  obtain ⟨A3, s3, e3, d3⟩ := d2.step (.lst (menu.map S)) nM
  generalize upd G2 M (.lst (menu.map S)) = G3 at *
  have sA3 := (s1.trans s2).trans s3
  clear d1 d2 e1 e2 s1 s2 s3
  walk_at "go"
  refine ⟨rfl, ?_⟩
  walk_at "go"
  refine ⟨_, ⟨#[32]⟩, rfl, rfl, rfl, ?_, ?_⟩
  · rw [str_len]
    exact Nat.le_trans (show (TL.joinL [32] ws).length + 2 ≤ 100000 by omega) (by decide)
  intro W nW
  rw [words_V, ew]
  obtain ⟨A4, s4, eW, d4⟩ := d3.step (.lst (ws.map S)) nW
  generalize upd G3 W (.lst (ws.map S)) = G4 at *
  have e3' := s4 _ _ e3
  have sA4 := sA3.trans s4
  clear d3
  walk_at "go"
  refine i_len_lst (.inl (.inl (d4.old eW))) ?_
  rw [List.length_map]
  walk_at "go"
  refine pick2 d4 (by omega) fun pp G5 d5 bp => ?_
  obtain ⟨pl, rfl, hpl⟩ := btw_nat (k := ws.length + 1) bp (by omega)
  walk_at "go"
  refine pick2 d5 (by decide) fun kd G6 d6 bk => ?_
  walk_at "go"
  refine i_len_lst (.inl (.inl (d6.old e3'))) ?_
  rw [List.length_map]
  walk_at "go"
  refine pick2 d6 (by omega) fun jj G7 d7 bj => ?_
  obtain ⟨j, rfl, hj⟩ := btw_nat (k := menu.length) bj (by omega)
  obtain ⟨w1, hw1, wd1⟩ := ix_word hm hj
  refine i_ix_lst (.inl (.inl (d7.old e3'))) (atI_nat hw1) ?_
  walk_at "go"
  refine i_cut (fun σ G => ∃ w, σ = [some (.ref d.a), some (S (TL.joinL [32] ws)), some (.ref ta), some (.ref M), some (.ref W), some (.int (pl : Int)), some (.int kd), some (S w)] ∧ Wd t w ∧ D2 K d f A4 G) ?_ ?_
  · walk_at "go"
    refine pick2 d7 (by decide) fun k2 G8 d8 b8 => ?_
    walk_at "go"
    refine i_dec (fun z => ?_) (fun z => ?_)
    · walk_at "go"
      refine pick2 d8 (by decide) fun j2 G9 d9 b9 => ?_
      obtain ⟨j2, rfl, hj2⟩ := btw_nat (k := 16) b9 (by decide)
      obtain ⟨w2, hw2, wd2⟩ := ix_word hm (show j2 < menu.length by omega)
      refine i_ix_lst (.inl (.inl (d9.old e3'))) (atI_nat hw2) ?_
      walk_at "go"
      exact ⟨_, rfl, wd2, d9⟩
    · walk_at "go"
      exact ⟨_, rfl, wd1, d8⟩
  clear d4 d5 d6 d7 hw1 wd1 bj bk bp hm ml hj j
  rintro σ G8 ⟨w, rfl, wdw, d8⟩
  have wT : ∀ k, ∀ w ∈ ws.take k, Wd t w := fun k w h => hw w (List.mem_of_mem_take h)
  have wD : ∀ k, ∀ w ∈ ws.drop k, Wd t w := fun k w h => hw w (List.mem_of_mem_drop h)
  have wA : ∀ {u v : List (List Nat)}, (∀ e ∈ u, Wd t e) → (∀ e ∈ v, Wd t e) → ∀ e ∈ u ++ v, Wd t e := fun hu hv e he => (List.mem_append.mp he).elim (hu e) (hv e)
  have w1 : ∀ w' ∈ [w], Wd t w' := fun w' h => by rw [List.mem_singleton.mp h]; exact wdw
  have ep1 : (pl : Int) + 1 = ((pl + 1 : Nat) : Int) := by omega
  refine i_cut (fun σ G => ∃ (W' : Addr) (us : List (List Nat)) (A9 : Hp), σ = [some (.ref d.a), some (S (TL.joinL [32] ws)), some (.ref ta), some (.ref M), some (.ref W'), some (.int (pl : Int)), some (.int kd), some (S w)] ∧ Same A4 A9 ∧ D2 K d f A9 G ∧ G W' = some (.lst (us.map S)) ∧ (∀ w ∈ us, Wd t w) ∧ us.length ≤ m + 1) ?_ ?_
  · walk_at "go"
    refine i_dec (fun k4 => ?_) (fun k4 => ?_)
    · walk_at "go"
      refine i_slD d8 eW (cutV_to' pl) (atS (wT pl)) fun p1 A8 G8 s8 e8 al8 d8 => ?_
      walk_at "go"
      rw [ep1]
      refine i_slD d8 (s8 _ _ eW) (cutV_fr' (pl + 1)) (atS (wD (pl + 1))) fun p2 A9 G9 s9 e9 al9 d9 => ?_
      walk_at "go"
      refine i_catD d9 (s9 _ _ e8) e9 (al8.same s9) al9 (by simp only [List.length_map, List.length_take, List.length_drop]; omega) fun r A10 G10 s10 e10 al10 d10 => ?_
      rw [← List.map_append] at e10
      exact ⟨r, _, A10, rfl, ((s8.trans s9).trans s10), d10, d10.old e10, wA (wT pl) (wD _), by simp only [List.length_append, List.length_take, List.length_drop]; omega⟩
    walk_at "go"
    refine i_dec (fun k5 => ?_) (fun k5 => ?_)
    · walk_at "go"
      refine i_slD d8 eW (cutV_to' pl) (atS (wT pl)) fun p1 A8 G8 s8 e8 al8 d8 => ?_
      walk_at "go"
      refine i_new (by show 1 ≤ 100000; omega) fun p2 n2 => ?_
      have a1 : AtAll A8 [S w] [dS w] := atS w1
      obtain ⟨A9, s9, e9, al9, d9⟩ := cutAt d8 a1 n2
      generalize upd G8 p2 (.lst [S w]) = G9 at *
      have e9 : A9 p2 = some (.lst ([w].map S)) := e9
      have al9 : AtAll A9 ([w].map S) [dS w] := al9
      walk_at "go"
      refine i_catD d9 (s9 _ _ e8) e9 (al8.same s9) al9 (by simp only [List.length_map, List.length_take, List.length_cons, List.length_nil]; omega) fun p3 A10 G10 s10 e10 al10 d10 => ?_
      walk_at "go"
      have s8b := (s8.trans s9).trans s10
      refine i_slD d10 (s8b _ _ eW) (cutV_fr' pl) (atS (wD pl)) fun p4 A11 G11 s11 e11 al11 d11 => ?_
      walk_at "go"
      refine i_catD d11 (s11 _ _ e10) e11 (al10.same s11) al11 (by simp only [List.length_append, List.length_map, List.length_take, List.length_drop, List.length_cons, List.length_nil]; omega) fun r A12 G12 s12 e12 al12 d12 => ?_
      rw [← List.map_append, ← List.map_append] at e12
      exact ⟨r, _, A12, rfl, ((s8b.trans s11).trans s12), d12, d12.old e12, wA (wA (wT _) w1) (wD _), by simp only [List.length_append, List.length_take, List.length_drop, List.length_cons, List.length_nil]; omega⟩
    · walk_at "go"
      refine i_slD d8 eW (cutV_to' pl) (atS (wT pl)) fun p1 A8 G8 s8 e8 al8 d8 => ?_
      walk_at "go"
      refine i_new (by show 1 ≤ 100000; omega) fun p2 n2 => ?_
      have a1 : AtAll A8 [S w] [dS w] := atS w1
      obtain ⟨A9, s9, e9, al9, d9⟩ := cutAt d8 a1 n2
      generalize upd G8 p2 (.lst [S w]) = G9 at *
      have e9 : A9 p2 = some (.lst ([w].map S)) := e9
      have al9 : AtAll A9 ([w].map S) [dS w] := al9
      walk_at "go"
      refine i_catD d9 (s9 _ _ e8) e9 (al8.same s9) al9 (by simp only [List.length_map, List.length_take, List.length_cons, List.length_nil]; omega) fun p3 A10 G10 s10 e10 al10 d10 => ?_
      walk_at "go"
      rw [ep1]
      have s8b := (s8.trans s9).trans s10
      refine i_slD d10 (s8b _ _ eW) (cutV_fr' (pl + 1)) (atS (wD (pl + 1))) fun p4 A11 G11 s11 e11 al11 d11 => ?_
      walk_at "go"
      refine i_catD d11 (s11 _ _ e10) e11 (al10.same s11) al11 (by simp only [List.length_append, List.length_map, List.length_take, List.length_drop, List.length_cons, List.length_nil]; omega) fun r A12 G12 s12 e12 al12 d12 => ?_
      rw [← List.map_append, ← List.map_append] at e12
      exact ⟨r, _, A12, rfl, ((s8b.trans s11).trans s12), d12, d12.old e12, wA (wA (wT _) w1) (wD _), by simp only [List.length_append, List.length_take, List.length_drop, List.length_cons, List.length_nil]; omega⟩
  rintro σ G9 ⟨W', us, A9, rfl, s9, d9, e9, hu, lu⟩
  have ul := sum_le hu
  walk_at "go"
  refine i_joinG (.inl (.inl e9)) (by show _ + us.length * 1 ≤ 100000; omega) ?_
  refine q _ _ _ (sA4.trans s9) d9 (LnM.join ok hu lu (by omega)) ?_
  cases us with
  | nil => exact Nat.zero_le _
  | cons a r =>
    have := join_len hu (by simp)
    omega
end
theorem ixN_at {n p : Nat} (h : p < n) : ixN n (p : Int) = some p := by
  unfold ixN
  rw [if_pos (by omega), if_pos (by omega), Int.toNat_natCast]
theorem lay_str {l : List Nat} (h : ∀ c ∈ l, c < 128) : (dS l).canLay0 = true := strOk_small (l := l) fun c hc => Nat.lt_trans (h c hc) (by decide)
theorem joinL_mem : ∀ {ws : List (List Nat)} {c : Nat}, c ∈ TL.joinL [32] ws → c = 32 ∨ ∃ w ∈ ws, c ∈ w
  | [], c, h => absurd h (by simp [TL.joinL])
  | [p], c, h => .inr ⟨p, List.mem_cons_self, h⟩
  | p :: q :: r, c, h => by
    have h : c ∈ p ++ ([32] ++ TL.joinL [32] (q :: r)) := h
    rcases List.mem_append.mp h with h | h
    · exact .inr ⟨p, List.mem_cons_self, h⟩
    · rcases List.mem_append.mp h with h | h
      · exact .inl (List.mem_singleton.mp h)
      · rcases joinL_mem h with h | ⟨w, hw, h⟩
        · exact .inl h
        · exact .inr ⟨w, List.mem_cons_of_mem _ hw, h⟩
theorem join_chs {t : Tx} {ws : List (List Nat)} (h : ∀ w ∈ ws, Wd t w) : ∀ c ∈ TL.joinL [32] ws, c < 128 := fun c hc => by
  rcases joinL_mem hc with rfl | ⟨w, hw, hc⟩
  · decide
  · exact ((h w hw).1.2 c hc).1
theorem LnM.lay {t : Tx} {m : Nat} {e : PyData} (h : LnM t m e) : e.canLay0 = true ∧ e.depth ≤ 1 := by
  cases h with
  | non => exact ⟨rfl, Nat.zero_le _⟩
  | sev => exact ⟨rfl, Nat.zero_le _⟩
  | lst => exact ⟨by decide +kernel, by decide⟩
  | ln h ne l => exact ⟨lay_str (join_chs h), Nat.zero_le _⟩
theorem lays_of {ds : List PyData} (h : ∀ d ∈ ds, d.canLay0 = true) : PyData.canLayAll0 ds = true := by
  induction ds with
  | nil => rfl
  | cons d r ih =>
    show (d.canLay0 && PyData.canLayAll0 r) = true
    rw [h d List.mem_cons_self, ih fun e he => h e (List.mem_cons_of_mem _ he)]
    rfl
theorem lns_shape {t : Tx} {m : Nat} {ds : List PyData} (h : ∀ e ∈ ds, LnM t m e) : (PyData.list ds).canLay0 = true ∧ SeqAt.shaped (.list ds) = true := by
  have h1 : (PyData.list ds).canLay0 = true := lays_of fun e he => (h e he).lay.1
  refine ⟨h1, ?_⟩
  unfold SeqAt.shaped
  rw [h1, Bool.true_and, decide_eq_true_eq]
  have : PyData.depthAll ds ≤ 1 := deps_of fun e he => (h e he).lay.2
  show PyData.depthAll ds + 1 ≤ 64
  omega
abbrev ODD5 : List PyData := [.none, .int 7, .list [dS cRnd, dS [119]], dS [], dS [32]]
theorem odd5 {t : Tx} {m : Nat} (ok : TabOk t) (hm : 2 ≤ m) : ∀ e ∈ ODD5, LnM t m e := fun e he => by
  have w0 : Wd t [] := wd_fix ok (by simp)
  simp only [List.mem_cons, List.not_mem_nil, or_false] at he
  rcases he with rfl | rfl | rfl | rfl | rfl
  · exact .non
  · exact .sev
  · exact .lst
  · exact LnM.ln (ws := [[]]) (fun w hw => by rw [List.mem_singleton.mp hw]; exact w0) (by simp) (by show 1 ≤ m; omega)
  · refine LnM.ln (ws := [[], []]) (fun w hw => ?_) (by simp) (by show 2 ≤ m; omega)
    simp only [List.mem_cons, List.not_mem_nil, or_false] at hw
    rcases hw with rfl | rfl <;> exact w0
abbrev SIG3 : List (List (List Nat)) := [[cSig, [113], [119]], [cSig, [109], [46]], [cSig, [98], [103, 114]]]
theorem sig3 {t : Tx} {m : Nat} (ok : TabOk t) (hm : 3 ≤ m) : ∀ e ∈ SIG3.map (fun ws => dS (TL.joinL [32] ws)), LnM t m e := fun e he => by
  obtain ⟨ws, hw, rfl⟩ := List.mem_map.mp he
  refine .ln (fun w h => ?_) ?_ ?_
  · have key : ∀ ws ∈ SIG3, ∀ w ∈ ws, w ∈ FIXW ∨ isRw 24 w = true := by decide +kernel
    rcases key ws hw w h with h | h
    · exact wd_fix ok h
    · exact wd_row ok h
  · have : ∀ ws ∈ SIG3, ws ≠ [] := by decide
    exact this ws hw
  · have : ∀ ws ∈ SIG3, ws.length ≤ 3 := by decide
    exact Nat.le_trans (this ws hw) hm
section
variable {P : Program} {w : World} {K : PySem.W.Frag} {mg : Str → Option Value} {base : Heap} {C_GlimError C_BadRound C_BadText C_BadLine C_BadSignal C_BadMessage C_TooLong C_Lines C_Signals C_dt_Signals___init__ : Addr}
def p_L_spoilt (K : PySem.W.Frag) : P3 := fun x y z H Q _ => ∃ A d f t ta a xs ds m, x = .ref d.a ∧ y = .ref a ∧ z = .ref ta ∧ D2 K d f A H ∧ A ta = some (.dK (tabK t)) ∧ TabOk t ∧ A a = some (.lst xs) ∧ AtAll A xs ds ∧ ds.length ≤ 40 ∧ (∀ e ∈ ds, LnM t m e) ∧ 3 ≤ m ∧ m ≤ 8 ∧
  ∀ A' H' r ys es, Same A A' → D2 K d f A' H' → A' r = some (.lst ys) → AtAll A' ys es → es.length ≤ ds.length + 4 → (∀ e ∈ es, LnM t (m + 1) e) → Q (.ref r) H'
theorem ok_L_spoilt (T : Txt K mg C_GlimError C_BadRound C_BadText C_BadLine C_BadSignal C_BadMessage C_TooLong C_Lines C_Signals C_dt_Signals___init__) : OK P w K mg base CX0 4 "_law_spoilt" ["_law_draw_here", "_law_lines", "_law_texts_here"] (sp3  (p_L_spoilt K)) := by
  refine OK.mk (k := 3) T.d_L_spoilt sc_L_spoilt len3 fun f cdv A outer s H vs Q E hr h => ?_
  obtain ⟨x, y, z, rfl, h⟩ := h
  refine ⟨_, (pss_cons (ps_set (i := 3) sc_L_spoilt.nd rfl (Or.inl rfl) (pe_f (ok_L_pick (K := K) T) (hr.mono (by decide)) pass0 (pa_cons (pv 0) (pa_cons (pe_callB (cLen K) (by rfl) T.b_len (by decide +kernel) (pa_cons (pv 1) pa_nil)) pa_nil)))) (Evl.pss_cut (ps_if (pw_and (pt_cmpR op_gtP (pe_callB (cLen K) (by rfl) T.b_len (by decide +kernel) (pa_cons (pv 1) pa_nil)) pe_int (nomark _)) (pw_and1 (pt_cmpR (opEq K hr.units) (pe_f (ok_L_pick (K := K) T) (hr.mono (by decide)) pass0 (pa_cons (pv 0) (pa_cons pe_int pa_nil))) pe_int (nomark _)))).pt (pss_one (ps_set (i := 3) sc_L_spoilt.nd rfl (Or.inl rfl) (pe_op (opAdd K) pe_int (pe_f (ok_L_pick (K := K) T) (hr.mono (by decide)) pass0 (pa_cons (pv 0) (pa_cons (pe_op op_subP (pe_callB (cLen K) (by rfl) T.b_len (by decide +kernel) (pa_cons (pv 1) pa_nil)) pe_int) pa_nil)))))) pss_nil) (pss_cons (ps_set (i := 4) sc_L_spoilt.nd rfl (Or.inl rfl) (pe_f (ok_L_pick (K := K) T) (hr.mono (by decide)) pass0 (pa_cons (pv 0) (pa_cons pe_int pa_nil)))) (pss_cons (ps_if (pw_or (pt_cmpR (opEq K hr.units) (pv 1) (pe_lst pa_nil) (nomark _)) (pw_or1 (pt_cmpR (opEq K hr.units) (pv 4) pe_int (nomark _)))).pt (pss_one (ps_ret (pe_op (opAdd K) (pe_op (opAdd K) (pe_slice (slK K) (pv 1) po_none (po_some (pv 3))) (pe_lst (pa_cons (pe_ix (ixK K) (pe_lst (pa_cons pe_non (pa_cons pe_int (pa_cons (pe_lst (pa_cons (pe_S [114, 111, 117, 110, 100]) (pa_cons (pe_S [119]) pa_nil))) (pa_cons (pe_S []) (pa_cons (pe_S [32]) pa_nil)))))) (pe_f (ok_L_pick (K := K) T) (hr.mono (by decide)) pass0 (pa_cons (pv 0) (pa_cons pe_int pa_nil))) (fun _ _ => rfl)) pa_nil))) (pe_slice (slK K) (pv 1) (po_some (pv 3)) po_none)))) pss_nil) (pss_cons (ps_if (pt_cmpR (opEq K hr.units) (pv 4) pe_int (nomark _)) (pss_one (ps_ret (pe_op (opAdd K) (pe_slice (slK K) (pv 1) po_none (po_some (pv 3))) (pe_slice (slK K) (pv 1) (po_some (pe_op (opAdd K) (pv 3) pe_int)) po_none)))) pss_nil) (pss_cons (ps_if (pt_cmpR op_ltP (pv 4) pe_int (nomark _)) (pss_one (ps_ret (pe_op (opAdd K) (pe_op (opAdd K) (pv 1) (pe_lst (pa_cons (pe_ix (ixK K) (pv 1) (pv 3) (fun _ _ => rfl)) pa_nil))) (pe_slice (slK K) (pe_lst (pa_cons (pe_S [115, 105, 103, 110, 97, 108, 32, 113, 32, 119]) (pa_cons (pe_S [115, 105, 103, 110, 97, 108, 32, 109, 32, 46]) (pa_cons (pe_S [115, 105, 103, 110, 97, 108, 32, 98, 32, 103, 114]) pa_nil)))) po_none (po_some (pe_f (ok_L_pick (K := K) T) (hr.mono (by decide)) pass0 (pa_cons (pv 0) (pa_cons pe_int pa_nil)))))))) pss_nil) (pss_cons (ps_if (pt_cmpR (opEq K hr.units) (pv 4) pe_int (nomark _)) (pss_cons (ps_set (i := 5) sc_L_spoilt.nd rfl (Or.inl rfl) (pe_f (ok_L_pick (K := K) T) (hr.mono (by decide)) pass0 (pa_cons (pv 0) (pa_cons (pe_callB (cLen K) (by rfl) T.b_len (by decide +kernel) (pa_cons (pv 1) pa_nil)) pa_nil)))) (pss_cons (ps_set (i := 6) sc_L_spoilt.nd rfl (Or.inl rfl) (pe_callTy (cListP K) (by rfl) T.b_list (by decide +kernel) (pa_cons (pv 1) pa_nil))) (pss_cons (ps_asg (pe_ix (ixK K) (pv 1) (pv 5) (fun _ _ => rfl)) (pg_sub (pv 6) (pv 3) set_list)) (pss_cons (ps_asg (pe_ix (ixK K) (pv 1) (pv 3) (fun _ _ => rfl)) (pg_sub (pv 6) (pv 5) set_list)) (pss_one (ps_ret (pv 6))))))) pss_nil) (pss_cons (ps_if (pt_not (pt_val (pe_callB (cIsi K) (by rfl) T.b_isinstance (by decide +kernel) (pa_cons (pe_ix (ixK K) (pv 1) (pv 3) (fun _ _ => rfl)) (pa_cons (pe_bltn (v := .ty "str") (by rfl) T.b_str (by decide +kernel) rfl) pa_nil))))) (pss_one (ps_ret (pv 1))) pss_nil) (pss_cons (ps_if (pt_cmpR op_ltP (pv 4) pe_int (nomark _)) (pss_cons (ps_set (i := 7) sc_L_spoilt.nd rfl (Or.inl rfl) (pe_ix (ixK K) (pe_lst (pa_cons (pe_op (opAdd K) (pe_S [32]) (pe_ix (ixK K) (pv 1) (pv 3) (fun _ _ => rfl))) (pa_cons (pe_op (opAdd K) (pe_ix (ixK K) (pv 1) (pv 3) (fun _ _ => rfl)) (pe_S [32])) (pa_cons (pe_op (opAdd K) (pe_ix (ixK K) (pv 1) (pv 3) (fun _ _ => rfl)) (pe_S [32, 119])) (pa_cons (pe_op (opAdd K) (pe_ix (ixK K) (pv 1) (pv 3) (fun _ _ => rfl)) (pe_S [32, 97])) pa_nil))))) (pe_f (ok_L_pick (K := K) T) (hr.mono (by decide)) pass0 (pa_cons (pv 0) (pa_cons pe_int pa_nil))) (fun _ _ => rfl))) (pss_one (ps_ret (pe_op (opAdd K) (pe_op (opAdd K) (pe_slice (slK K) (pv 1) po_none (po_some (pv 3))) (pe_lst (pa_cons (pv 7) pa_nil))) (pe_slice (slK K) (pv 1) (po_some (pe_op (opAdd K) (pv 3) pe_int)) po_none))))) pss_nil) (pss_one (ps_ret (pe_op (opAdd K) (pe_op (opAdd K) (pe_slice (slK K) (pv 1) po_none (po_some (pv 3))) (pe_lst (pa_cons (pe_f (ok_L_spoilt_line (K := K) T) (hr.mono (by decide)) pass0 (pa_cons (pv 0) (pa_cons (pe_ix (ixK K) (pv 1) (pv 3) (fun _ _ => rfl)) (pa_cons (pv 2) pa_nil)))) pa_nil))) (pe_slice (slK K) (pv 1) (po_some (pe_op (opAdd K) (pv 3) pe_int)) po_none))))))))))))), ?_⟩
  show (_ : TS) { nx := fun _ H' => Q .non H', rt := Q } [some x, some y, some z, none, none, none, none, none] H
  obtain ⟨A0, d, f, t, ta, a, xs, ds, m, rfl, rfl, rfl, dr, et, ok, ea, al, dl, hg, m3, m8, q⟩ := h
  have ll := al.len
  walk_at "go"
  refine i_len_lst (.inl (.inl (dr.old ea))) ?_
  rw [ll]
  walk_at "go"
  refine pick2 dr (by omega) fun n0 G1 d1 b0 => ?_
  obtain ⟨n, rfl, hn⟩ : ∃ n : Nat, n0 = (n : Int) ∧ (1 ≤ ds.length → n < ds.length) := by
    obtain ⟨c0, c1, c2⟩ := b0
    obtain ⟨j, rfl⟩ := Int.eq_ofNat_of_zero_le c0
    refine ⟨j, rfl, fun h => ?_⟩
    by_cases h2 : 2 ≤ ds.length
    · have := c1 (by omega); omega
    · have := c2 (by omega); omega
  walk_at "go"
  refine i_cut (fun σ G => ∃ n : Nat, σ = [some (.ref d.a), some (.ref a), some (.ref ta), some (.int (n : Int)), none, none, none, none] ∧ D2 K d f A0 G ∧ (1 ≤ ds.length → n < ds.length)) ?_ ?_
  · walk_at "go"
    refine i_len_lst (.inl (.inl (d1.old ea))) ?_
    rw [ll]
    walk_at "go"
    refine i_dec (fun l2 => ?_) (fun l2 => ?_)
    · walk_at "go"
      refine pick2 d1 (by decide) fun k2 G2 d2 b2 => ?_
      walk_at "go"
      refine i_dec (fun z => ?_) (fun z => ?_)
      · walk_at "go"
        refine i_len_lst (.inl (.inl (d2.old ea))) ?_
        rw [ll]
        walk_at "go"
        rw [show (ds.length : Int) - 1 = ((ds.length - 1 : Nat) : Int) by omega]
        refine pick2 d2 (by omega) fun k3 G3 d3 b3 => ?_
        obtain ⟨j, rfl, hj⟩ := btw_nat (k := ds.length - 1) b3 (by omega)
        walk_at "go"
        rw [show (1 : Int) + (j : Int) = ((1 + j : Nat) : Int) by omega]
        exact ⟨1 + j, rfl, d3, fun _ => by omega⟩
      · walk_at "go"
        exact ⟨n, rfl, d2, hn⟩
    · walk_at "go"
      exact ⟨n, rfl, d1, hn⟩
  clear d1 b0 hn n dr
  rintro σ G ⟨n, rfl, d1, hn⟩
  have en1 : (n : Int) + 1 = ((n + 1 : Nat) : Int) := by omega
  have gT : ∀ k, ∀ e ∈ ds.take k, LnM t (m + 1) e := fun k e he => (hg e (List.mem_of_mem_take he)).up (by omega)
  have gD : ∀ k, ∀ e ∈ ds.drop k, LnM t (m + 1) e := fun k e he => (hg e (List.mem_of_mem_drop he)).up (by omega)
  have gA : ∀ {u v : List PyData}, (∀ e ∈ u, LnM t (m + 1) e) → (∀ e ∈ v, LnM t (m + 1) e) → ∀ e ∈ u ++ v, LnM t (m + 1) e := fun hu hv e he => (List.mem_append.mp he).elim (hu e) (hv e)
  have g1 : ∀ {e : PyData}, LnM t (m + 1) e → ∀ x ∈ [e], LnM t (m + 1) x := fun h x hx => by rw [List.mem_singleton.mp hx]; exact h
  walk_at "go"
  refine pick2 d1 (by decide) fun kd G2 d2 bk => ?_
  walk_at "go"
  refine i_new (by show 0 ≤ 100000; omega) fun L0 nL0 => ?_
  obtain ⟨A1, s1, e1, d3⟩ := d2.step (.lst []) nL0
  generalize upd G2 L0 (.lst []) = G3 at *
  have lay := lns_shape hg
  have aS : At A1 (.ref a) (.list ds) := .lst (s1 _ _ ea) (by omega) (al.same s1)
  have aE : At A1 (.ref L0) (.list []) := .lst e1 (Nat.zero_le _) .nil
  refine i_eq_data (aS.same d3.1 |>.dp K _ _ (PyData.hasDict_of_canLay _ lay.1)) (aE.same d3.1 |>.dp K _ _ rfl) lay.2 rfl (r := ds.isEmpty) (by cases ds <;> rfl) ?_
  have ea1 := s1 _ _ ea
  have et1 := s1 _ _ et
  have al1 := al.same s1
  clear aS aE d1 d2 e1 lay
  refine ⟨_, rfl, ?_⟩
  cases em : ds.isEmpty with
  | true =>
    walk_at "go"
    refine i_slD d3 ea1 (cutV_to n) (al1.take n) fun p1 A4 G4 s4 e4 al4 d4 => ?_
    walk_at "go"
    refine i_new (by show 2 ≤ 100000; omega) fun L1 nL1 => ?_
    obtain ⟨A5, s5, e5, d5⟩ := d4.step (.lst [S cRnd, S [119]]) nL1
    generalize upd G4 L1 (.lst [S cRnd, S [119]]) = G5 at *
    walk_at "go"
    refine i_new (by show 5 ≤ 100000; omega) fun L2 nL2 => ?_
    have ao : AtAll A5 [.non, .int 7, .ref L1, S [], S [32]] ODD5 := .cons .non (.cons (.int 7) (.cons (At.mkLst e5 (.cons (.str _ (by decide)) (.one (.str _ (by decide)))) (by show 2 ≤ 10000; decide)) (.cons (.str _ (by decide)) (.one (.str _ (by decide))))))
    obtain ⟨A6, s6, e6, al6, d6⟩ := cutAt d5 ao nL2
    generalize upd G5 L2 (.lst [.non, .int 7, .ref L1, S [], S [32]]) = G6 at *
    walk_at "go"
    refine pick2 d6 (by decide) fun jj G7 d7 bj => ?_
    obtain ⟨j, rfl, hj⟩ := btw_nat (k := 5) bj (by decide)
    have hoj : ODD5[j]? = some ODD5[j] := List.getElem?_eq_getElem hj
    have goj := odd5 (m := m + 1) ok (by omega) _ (List.getElem_mem hj)
    generalize ODD5[j] = oj at hoj goj
    obtain ⟨y, hy, ay⟩ := al6.at hoj
    refine i_ix_lst (.inl (.inl (d7.old e6))) (atI_nat hy) ?_
    walk_at "go"
    refine i_new (by show 1 ≤ 100000; omega) fun p2 np2 => ?_
    obtain ⟨A8, s8, e8, al8, d8⟩ := cutAt d7 (.one ay) np2
    generalize upd G7 p2 (.lst [y]) = G8 at *
    walk_at "go"
    have s48 := (s5.trans s6).trans s8
    refine i_catD d8 (s48 _ _ e4) e8 (al4.same s48) al8 (by simp only [List.length_append, List.length_take, List.length_drop, List.length_cons, List.length_nil]; omega) fun p3 A9 G9 s9 e9 al9 d9 => ?_
    walk_at "go"
    have s49 := (s4.trans s48).trans s9
    refine i_slD d9 (s49 _ _ ea1) (cutV_fr n) ((al1.same s49).drop n) fun p4 A10 G10 s10 e10 al10 d10 => ?_
    walk_at "go"
    refine i_catD d10 (s10 _ _ e9) e10 (al9.same s10) al10 (by simp only [List.length_append, List.length_take, List.length_drop, List.length_cons, List.length_nil]; omega) fun r A11 G11 s11 e11 al11 d11 => ?_
    exact q A11 G11 r _ _ (((s1.trans s49).trans s10).trans s11) d11 e11 al11 (by simp only [List.length_append, List.length_take, List.length_drop, List.length_cons, List.length_nil]; omega) (gA (gA (gT n) (g1 goj)) (gD _))
  | false =>
  have dpos : 1 ≤ ds.length := by
    cases ds with
    | nil => cases em
    | cons _ _ => exact Nat.succ_le_succ (Nat.zero_le _)
  replace hn := hn dpos
  have hcn : ds[n]? = some ds[n] := List.getElem?_eq_getElem hn
  have gcn := hg _ (List.mem_of_getElem? hcn)
  generalize ds[n] = c at hcn gcn
  obtain ⟨y, hy, ay⟩ := al1.at hcn
  walk_at "go"
  refine i_dec (fun k0 => ?_) (fun k0 => ?_)
  · walk_at "go"
    refine i_slD d3 ea1 (cutV_to n) (al1.take n) fun p1 A4 G4 s4 e4 al4 d4 => ?_
    walk_at "go"
    refine i_new (by show 2 ≤ 100000; omega) fun L1 nL1 => ?_
    obtain ⟨A5, s5, e5, d5⟩ := d4.step (.lst [S cRnd, S [119]]) nL1
    generalize upd G4 L1 (.lst [S cRnd, S [119]]) = G5 at *
    walk_at "go"
    refine i_new (by show 5 ≤ 100000; omega) fun L2 nL2 => ?_
    have ao : AtAll A5 [.non, .int 7, .ref L1, S [], S [32]] ODD5 := .cons .non (.cons (.int 7) (.cons (At.mkLst e5 (.cons (.str _ (by decide)) (.one (.str _ (by decide)))) (by show 2 ≤ 10000; decide)) (.cons (.str _ (by decide)) (.one (.str _ (by decide))))))
    obtain ⟨A6, s6, e6, al6, d6⟩ := cutAt d5 ao nL2
    generalize upd G5 L2 (.lst [.non, .int 7, .ref L1, S [], S [32]]) = G6 at *
    walk_at "go"
    refine pick2 d6 (by decide) fun jj G7 d7 bj => ?_
    obtain ⟨j, rfl, hj⟩ := btw_nat (k := 5) bj (by decide)
    have hoj : ODD5[j]? = some ODD5[j] := List.getElem?_eq_getElem hj
    have goj := odd5 (m := m + 1) ok (by omega) _ (List.getElem_mem hj)
    generalize ODD5[j] = oj at hoj goj
    obtain ⟨y, hy, ay⟩ := al6.at hoj
    refine i_ix_lst (.inl (.inl (d7.old e6))) (atI_nat hy) ?_
    walk_at "go"
    refine i_new (by show 1 ≤ 100000; omega) fun p2 np2 => ?_
    obtain ⟨A8, s8, e8, al8, d8⟩ := cutAt d7 (.one ay) np2
    generalize upd G7 p2 (.lst [y]) = G8 at *
    walk_at "go"
    have s48 := (s5.trans s6).trans s8
    refine i_catD d8 (s48 _ _ e4) e8 (al4.same s48) al8 (by simp only [List.length_append, List.length_take, List.length_drop, List.length_cons, List.length_nil]; omega) fun p3 A9 G9 s9 e9 al9 d9 => ?_
    walk_at "go"
    have s49 := (s4.trans s48).trans s9
    refine i_slD d9 (s49 _ _ ea1) (cutV_fr n) ((al1.same s49).drop n) fun p4 A10 G10 s10 e10 al10 d10 => ?_
    walk_at "go"
    refine i_catD d10 (s10 _ _ e9) e10 (al9.same s10) al10 (by simp only [List.length_append, List.length_take, List.length_drop, List.length_cons, List.length_nil]; omega) fun r A11 G11 s11 e11 al11 d11 => ?_
    exact q A11 G11 r _ _ (((s1.trans s49).trans s10).trans s11) d11 e11 al11 (by simp only [List.length_append, List.length_take, List.length_drop, List.length_cons, List.length_nil]; omega) (gA (gA (gT n) (g1 goj)) (gD _))
  walk_at "go"
  refine i_dec (fun k1 => ?_) (fun k1 => ?_)
  · walk_at "go"
    refine i_slD d3 ea1 (cutV_to n) (al1.take n) fun p1 A4 G4 s4 e4 al4 d4 => ?_
    walk_at "go"
    rw [en1]
    refine i_slD d4 (s4 _ _ ea1) (cutV_fr (n + 1)) ((al1.same s4).drop (n + 1)) fun p2 A5 G5 s5 e5 al5 d5 => ?_
    walk_at "go"
    refine i_catD d5 (s5 _ _ e4) e5 (al4.same s5) al5 (by simp only [List.length_append, List.length_take, List.length_drop, List.length_cons, List.length_nil]; omega) fun r A6 G6 s6 e6 al6 d6 => ?_
    exact q A6 G6 r _ _ (((s1.trans s4).trans s5).trans s6) d6 e6 al6 (by simp only [List.length_append, List.length_take, List.length_drop, List.length_cons, List.length_nil]; omega) (gA (gT n) (gD _))
  walk_at "go"
  refine i_dec (fun k2 => ?_) (fun k2 => ?_)
  · walk_at "go"
    refine i_ix_lst (.inl (.inl (d3.old ea1))) (atI_nat hy) ?_
    walk_at "go"
    refine i_new (by show 1 ≤ 100000; omega) fun p1 n1 => ?_
    obtain ⟨A4, s4, e4, al4, d4⟩ := cutAt d3 (.one ay) n1
    generalize upd G3 p1 (.lst [y]) = G4 at *
    walk_at "go"
    refine i_catD d4 (s4 _ _ ea1) e4 (al1.same s4) al4 (by simp only [List.length_append, List.length_take, List.length_drop, List.length_cons, List.length_nil]; omega) fun p2 A5 G5 s5 e5 al5 d5 => ?_
    walk_at "go"
    refine i_new (by show 3 ≤ 100000; omega) fun p3 n3 => ?_
    have a3 : AtAll A5 [S [115, 105, 103, 110, 97, 108, 32, 113, 32, 119], S [115, 105, 103, 110, 97, 108, 32, 109, 32, 46], S [115, 105, 103, 110, 97, 108, 32, 98, 32, 103, 114]] (SIG3.map fun ws => dS (TL.joinL [32] ws)) := .cons (.str _ (by decide)) (.cons (.str _ (by decide)) (.one (.str _ (by decide))))
    obtain ⟨A6, s6, e6, al6, d6⟩ := cutAt d5 a3 n3
    generalize upd G5 p3 (.lst [S [115, 105, 103, 110, 97, 108, 32, 113, 32, 119], S [115, 105, 103, 110, 97, 108, 32, 109, 32, 46], S [115, 105, 103, 110, 97, 108, 32, 98, 32, 103, 114]]) = G6 at *
    walk_at "go"
    refine pick2 d6 (by decide) fun jj G7 d7 bj => ?_
    obtain ⟨j, rfl, hj⟩ := btw_nat (k := 4) bj (by decide)
    walk_at "go"
    refine i_slD d7 e6 (cutV_to j) (al6.take j) fun p4 A8 G8 s8 e8 al8 d8 => ?_
    walk_at "go"
    have s68 := s6.trans s8
    refine i_catD d8 (s68 _ _ e5) e8 (al5.same s68) al8 (by simp only [List.length_append, List.length_take, List.length_drop, List.length_cons, List.length_nil]; omega) fun r A9 G9 s9 e9 al9 d9 => ?_
    exact q A9 G9 r _ _ ((((s1.trans s4).trans s5).trans s68).trans s9) d9 e9 al9 (by simp only [List.length_append, List.length_take, List.length_map, List.length_cons, List.length_nil]; omega) (gA (gA (fun e he => (hg e he).up (by omega)) (g1 (gcn.up (by omega)))) fun e he => sig3 ok (by omega) e (List.mem_of_mem_take he))
  walk_at "go"
  refine i_dec (fun k3 => ?_) (fun k3 => ?_)
  · walk_at "go"
    refine i_len_lst (.inl (.inl (d3.old ea1))) ?_
    rw [ll]
    walk_at "go"
    refine pick2 d3 (by omega) fun jj G4 d4 bj => ?_
    obtain ⟨j, rfl, hj⟩ := btw_nat (k := ds.length) bj dpos
    have hcj : ds[j]? = some ds[j] := List.getElem?_eq_getElem hj
    have gcj := hg _ (List.mem_of_getElem? hcj)
    generalize ds[j] = cj at hcj gcj
    obtain ⟨yj, hyj, ayj⟩ := al1.at hcj
    walk_at "go"
    refine ⟨a, xs, rfl, .inl (.inl (.inl (d4.old ea1))), fun T0 nT => ?_⟩
    have nA := d4.free nT
    have cel := d4.cel
    have d5 := d4.new (o := .lst xs) nT
    have eT : (upd G4 T0 (.lst xs)) T0 = some (.lst xs) := upd_same
    have sT : Same A1 (upd A1 T0 (.lst xs)) := same_upd nA
    generalize upd G4 T0 (.lst xs) = G5 at *
    walk_at "go"
    refine i_ix_lst (.inl (.inl (d5.old (sT _ _ ea1)))) (atI_nat hyj) ?_
    walk_at "go"
    refine i_setL n eT (ixN_at (by omega)) rfl ?_
    have d6 := d5.put (o' := .lst (xs.set n yj)) cel nA
    have eT6 : (upd G5 T0 (.lst (xs.set n yj))) T0 = some (.lst (xs.set n yj)) := upd_same
    have sT6 : Same A1 (upd A1 T0 (.lst (xs.set n yj))) := same_upd nA
    generalize upd G5 T0 (.lst (xs.set n yj)) = G6 at *
    walk_at "go"
    refine i_ix_lst (.inl (.inl (d6.old (sT6 _ _ ea1)))) (atI_nat hy) ?_
    walk_at "go"
    refine i_setL j eT6 (ixN_at (by rw [List.length_set]; omega)) rfl ?_
    have d7 := d6.put (o' := .lst ((xs.set n yj).set j y)) cel nA
    have sT7 : Same A1 (upd A1 T0 (.lst ((xs.set n yj).set j y))) := same_upd nA
    have al7 := (atAll_set (atAll_set al1 ayj n) ay j).same sT7
    generalize upd G6 T0 (.lst ((xs.set n yj).set j y)) = G7 at *
    walk_at "go"
    refine q _ G7 T0 _ _ (s1.trans sT7) d7 upd_same al7 (by rw [List.length_set, List.length_set]; omega) fun e he => ?_
    rcases mem_set he with he | he
    · rcases mem_set he with he | he
      · exact (hg e he).up (by omega)
      · rw [he]; exact gcj.up (by omega)
    · rw [he]; exact gcn.up (by omega)
  walk_at "go"
  refine i_ix_lst (.inl (.inl (d3.old ea1))) (atI_nat hy) ?_
  walk_at "go"
  cases ec : isStrD c with
  | false =>
    refine i_isiStr false (ay.same d3.1) ec ?_
    walk_at "go"
    exact q A1 G3 a xs ds s1 d3 ea1 al1 (by omega) fun e he => (hg e he).up (by omega)
  | true =>
  refine i_isiStr true (ay.same d3.1) ec ?_
  obtain ⟨wv, rfl, hw, ne, lm⟩ := gcn.str ec
  have jl := join_len hw ne
  obtain ⟨l, rfl, el, hl0⟩ := ay.strl
  obtain rfl : TL.joinL [32] wv = l := dS_inj (congrArg PyData.str el)
  clear el
  walk_at "go"
  refine i_dec (fun k4 => ?_) (fun k4 => ?_)
  · have hw0 : Wd t [] := wd_fix ok (by simp)
    have hw1 : Wd t [119] := wd_row ok (by decide +kernel)
    have hw2 : Wd t [97] := wd_fix ok (by simp)
    have snoc : ∀ {w : List Nat}, Wd t w → LnM t (m + 1) (dS (TL.joinL [32] wv ++ ([32] ++ w))) := fun h => by
      rw [← joinL_snoc ne]
      exact .ln (fun w' h' => (List.mem_append.mp h').elim (hw w') fun z => by rw [List.mem_singleton.mp z]; exact h) (by simp) (by rw [List.length_append, List.length_singleton]; omega)
    have lns : ∀ e ∈ [dS ([32] ++ TL.joinL [32] wv), dS (TL.joinL [32] wv ++ ([32] ++ [])), dS (TL.joinL [32] wv ++ ([32] ++ [119])), dS (TL.joinL [32] wv ++ ([32] ++ [97]))], LnM t (m + 1) e := fun e he => by
      simp only [List.mem_cons, List.not_mem_nil, or_false] at he
      rcases he with rfl | rfl | rfl | rfl
      · rw [show [32] ++ TL.joinL [32] wv = TL.joinL [32] ([] :: wv) by rw [joinL_cons ne]; rfl]
        exact .ln (fun w' h' => by
          rcases List.mem_cons.mp h' with rfl | h'
          · exact hw0
          · exact hw w' h') (by simp) (by rw [List.length_cons]; omega)
      · exact snoc hw0
      · exact snoc hw1
      · exact snoc hw2
    walk_at "go"
    refine i_ix_lst (.inl (.inl (d3.old ea1))) (atI_nat hy) ?_
    walk_at "go"
    refine i_ix_lst (.inl (.inl (d3.old ea1))) (atI_nat hy) ?_
    walk_at "go"
    refine i_ix_lst (.inl (.inl (d3.old ea1))) (atI_nat hy) ?_
    walk_at "go"
    refine i_ix_lst (.inl (.inl (d3.old ea1))) (atI_nat hy) ?_
    walk_at "go"
    refine i_new (by show 4 ≤ 100000; omega) fun L nL => ?_
    have a4 : AtAll A1 [S ([32] ++ TL.joinL [32] wv), S (TL.joinL [32] wv ++ [32]), S (TL.joinL [32] wv ++ [32, 119]), S (TL.joinL [32] wv ++ [32, 97])] [dS ([32] ++ TL.joinL [32] wv), dS (TL.joinL [32] wv ++ ([32] ++ [])), dS (TL.joinL [32] wv ++ ([32] ++ [119])), dS (TL.joinL [32] wv ++ ([32] ++ [97]))] := by
      have h1 : ([32] ++ TL.joinL [32] wv).length ≤ 10000 ∧ (TL.joinL [32] wv ++ [32]).length ≤ 10000 ∧ (TL.joinL [32] wv ++ [32, 119]).length ≤ 10000 ∧ (TL.joinL [32] wv ++ [32, 97]).length ≤ 10000 := by
        simp only [List.length_append, List.length_cons, List.length_nil]; omega
      exact .cons (.str _ h1.1) (.cons (.str _ h1.2.1) (.cons (.str _ h1.2.2.1) (.one (.str _ h1.2.2.2))))
    obtain ⟨A4, s4, e4, al4, d4⟩ := cutAt d3 a4 nL
    generalize upd G3 L (.lst [S ([32] ++ TL.joinL [32] wv), S (TL.joinL [32] wv ++ [32]), S (TL.joinL [32] wv ++ [32, 119]), S (TL.joinL [32] wv ++ [32, 97])]) = G4 at *
    walk_at "go"
    refine pick2 d4 (by decide) fun jj G5 d5 bj => ?_
    obtain ⟨j, rfl, hj⟩ := btw_nat (k := 4) bj (by decide)
    obtain ⟨e, he⟩ : ∃ e, [dS ([32] ++ TL.joinL [32] wv), dS (TL.joinL [32] wv ++ ([32] ++ [])), dS (TL.joinL [32] wv ++ ([32] ++ [119])), dS (TL.joinL [32] wv ++ ([32] ++ [97]))][j]? = some e := ⟨_, List.getElem?_eq_getElem (by exact hj)⟩
    have ge := lns e (List.mem_of_getElem? he)
    obtain ⟨v, hv, av⟩ := al4.at he
    refine i_ix_lst (.inl (.inl (d5.old e4))) (atI_nat hv) ?_
    walk_at "go"
    have ea4 := s4 _ _ ea1
    have al14 := al1.same s4
    clear lns snoc
    refine i_slD d5 ea4 (cutV_to n) (al14.take n) fun p1 A6 G6 s6 e6 al6 d6 => ?_
    walk_at "go"
    refine i_new (by show 1 ≤ 100000; omega) fun p2 np2 => ?_
    obtain ⟨A7, s7, e7, al7, d7⟩ := cutAt d6 (.one (av.same s6)) np2
    generalize upd G6 p2 (.lst [v]) = G7 at *
    walk_at "go"
    refine i_catD d7 (s7 _ _ e6) e7 (al6.same s7) al7 (by simp only [List.length_append, List.length_take, List.length_drop, List.length_cons, List.length_nil]; omega) fun p3 A8 G8 s8 e8 al8 d8 => ?_
    walk_at "go"
    rw [en1]
    have s68 := (s6.trans s7).trans s8
    refine i_slD d8 (s68 _ _ ea4) (cutV_fr (n + 1)) ((al14.same s68).drop (n + 1)) fun p4 A9 G9 s9 e9 al9 d9 => ?_
    walk_at "go"
    refine i_catD d9 (s9 _ _ e8) e9 (al8.same s9) al9 (by simp only [List.length_append, List.length_take, List.length_drop, List.length_cons, List.length_nil]; omega) fun r A10 G10 s10 e10 al10 d10 => ?_
    exact q A10 G10 r _ _ ((((s1.trans s4).trans s68).trans s9).trans s10) d10 e10 al10 (by simp only [List.length_append, List.length_take, List.length_drop, List.length_cons, List.length_nil]; omega) (gA (gA (gT n) (g1 ge)) (gD _))
  walk_at "go"
  refine i_slD d3 ea1 (cutV_to n) (al1.take n) fun p1 A4 G4 s4 e4 al4 d4 => ?_
  walk_at "go"
  refine i_ix_lst (.inl (.inl (d4.old (s4 _ _ ea1)))) (atI_nat hy) ?_
  walk_at "go"
  refine ⟨A4, d, f, t, ta, wv, m, rfl, rfl, rfl, d4, s4 _ _ et1, ok, hw, ne, lm, m8, fun A5 G5 l s5 d5 gl ll5 => ?_⟩
  walk_at "go"
  refine i_new (by show 1 ≤ 100000; omega) fun p2 np2 => ?_
  obtain ⟨A6, s6, e6, al6, d6⟩ := cutAt d5 (.one (.str l ll5)) np2
  generalize upd G5 p2 (.lst [S l]) = G6 at *
  walk_at "go"
  have s46 := s5.trans s6
  refine i_catD d6 (s46 _ _ e4) e6 (al4.same s46) al6 (by simp only [List.length_append, List.length_take, List.length_drop, List.length_cons, List.length_nil]; omega) fun p3 A8 G8 s8 e8 al8 d8 => ?_
  walk_at "go"
  rw [en1]
  have s48 := (s4.trans s46).trans s8
  refine i_slD d8 (s48 _ _ ea1) (cutV_fr (n + 1)) ((al1.same s48).drop (n + 1)) fun p4 A9 G9 s9 e9 al9 d9 => ?_
  walk_at "go"
  refine i_catD d9 (s9 _ _ e8) e9 (al8.same s9) al9 (by simp only [List.length_append, List.length_take, List.length_drop, List.length_cons, List.length_nil]; omega) fun r A10 G10 s10 e10 al10 d10 => ?_
  exact q A10 G10 r _ _ (((s1.trans s48).trans s9).trans s10) d10 e10 al10 (by simp only [List.length_append, List.length_take, List.length_drop, List.length_cons, List.length_nil]; omega) (gA (gA (gT n) (g1 gl)) (gD _))
end
theorem sm8 {c : Nat} (h : c < 128) : c < 16 ^ 8 := Nat.lt_trans h (by decide)
theorem LnM.rp {t : Tx} {m : Nat} {e : PyData} (h : LnM t m e) (hm : m ≤ 12) : Rp 732 e ∧ e.hasDict = false := by
  cases h with
  | non => exact ⟨Rp.non, rfl⟩
  | sev => exact ⟨Rp.int (by decide), rfl⟩
  | lst => exact ⟨(Rp.list (m := 20) (ds := [dS cRnd, dS [119]]) fun d hd => by
      simp only [List.mem_cons, List.not_mem_nil, or_false] at hd
      rcases hd with rfl | rfl
      · exact Rp.str (by decide) (by decide)
      · exact Rp.str (by decide) (by decide)).mono (by show 21 * 2 ≤ 732; decide), rfl⟩
  | ln h ne l =>
    have := join_len h ne
    exact ⟨Rp.str (by omega) fun c hc => sm8 (join_chs h c hc), rfl⟩
theorem nd_of {ds : List PyData} (h : ∀ d ∈ ds, d.hasDict = false) : PyData.hasDictAll ds = false := by
  induction ds with
  | nil => rfl
  | cons d r ih =>
    show (d.hasDict || PyData.hasDictAll r) = false
    rw [h d List.mem_cons_self, ih fun e he => h e (List.mem_cons_of_mem _ he)]
    rfl
/-- data that repr shows -/
def Shw (d : PyData) : Prop := Rp 20000 d ∧ d.hasDict = false ∧ d.depth ≤ 5
theorem lns_shw {t : Tx} {m : Nat} {ds : List PyData} (h : ∀ e ∈ ds, LnM t m e) (hm : m ≤ 12) (l : ds.length ≤ 24) : Shw (.list ds) ∧ Shw (.tuple ds) := by
  have nd := nd_of fun e he => ((h e he).rp hm).2
  have dp : PyData.depthAll ds ≤ 1 := deps_of fun e he => (h e he).lay.2
  have hb : (732 + 1) * ds.length ≤ 20000 := Nat.le_trans (Nat.mul_le_mul_left _ l) (by decide)
  exact ⟨⟨(Rp.list fun e he => ((h e he).rp hm).1).mono hb, nd, by show PyData.depthAll ds + 1 ≤ 5; omega⟩, ⟨(Rp.tuple fun e he => ((h e he).rp hm).1).mono hb, nd, by show PyData.depthAll ds + 1 ≤ 5; omega⟩⟩
theorem shw_leaf {ds : List PyData} (h : ∀ d ∈ ds, Rp 1000 d ∧ d.hasDict = false ∧ d.depth ≤ 3) (l : ds.length ≤ 4) : Shw (.list ds) ∧ Shw (.tuple ds) := by
  have nd := nd_of fun e he => (h e he).2.1
  have dp : PyData.depthAll ds ≤ 3 := deps_of fun e he => (h e he).2.2
  have hb : (1000 + 1) * ds.length ≤ 20000 := Nat.le_trans (Nat.mul_le_mul_left _ l) (by decide)
  exact ⟨⟨(Rp.list fun e he => (h e he).1).mono hb, nd, by show PyData.depthAll ds + 1 ≤ 5; omega⟩, ⟨(Rp.tuple fun e he => (h e he).1).mono hb, nd, by show PyData.depthAll ds + 1 ≤ 5; omega⟩⟩
theorem lf_str {l : List Nat} (h : l.length ≤ 1000) (hc : ∀ c ∈ l, c < 128) : Rp 1000 (dS l) ∧ (dS l).hasDict = false ∧ (dS l).depth ≤ 3 := ⟨Rp.str h fun c k => sm8 (hc c k), rfl, Nat.zero_le _⟩
theorem lf_int {i : Int} (h : i.natAbs ≤ 1000) : Rp 1000 (.int i) ∧ (PyData.int i).hasDict = false ∧ (PyData.int i).depth ≤ 3 := ⟨Rp.int (Nat.lt_of_le_of_lt h (by decide)), rfl, Nat.zero_le _⟩
theorem az_small : ∀ c ∈ AZ, c < 128 := by decide
theorem GoodT.rows {ps : Tb} (g : GoodT ps) {p : Nat × List Nat} (hp : p ∈ ps) : ∀ c ∈ p.2, c < 128 := fun c hc => by
  have h := g.ok p hp
  unfold firstBad at h
  rw [List.findIdx?_eq_none_iff] at h
  have h4 := h c hc
  cases e : decide (c ∈ SG) with
  | true => exact (sg_small c (of_decide_eq_true e)).1
  | false => rw [e] at h4; cases h4
theorem lf_sgs {ps : Tb} (g : GoodT ps) : Rp 1000 (sgT ps) ∧ (sgT ps).hasDict = false ∧ (sgT ps).depth ≤ 3 := by
  have key : ∀ e ∈ ps.map sgP, Rp 26 e ∧ e.hasDict = false ∧ e.depth ≤ 1 := fun e he => by
    obtain ⟨p, hp, rfl⟩ := List.mem_map.mp he
    have hl := g.lw p hp
    refine ⟨(Rp.tuple (m := 12) (ds := [dS [p.1], dS p.2]) fun d hd => ?_).mono (by show 13 * 2 ≤ 26; decide), rfl, by show max 0 (max 0 0) + 1 ≤ 1; decide⟩
    simp only [List.mem_cons, List.not_mem_nil, or_false] at hd
    rcases hd with rfl | rfl
    · exact Rp.str (by show 1 ≤ 12; decide) fun c hc => by rw [List.mem_singleton.mp hc]; exact sm8 (az_small _ (g.az p hp))
    · exact Rp.str hl fun c hc => sm8 (g.rows hp c hc)
  refine ⟨(Rp.tuple fun e he => (key e he).1).mono ?_, nd_of fun e he => (key e he).2.1, ?_⟩
  · have := g.ln
    rw [List.length_map]
    show 27 * ps.length ≤ 1000
    omega
  · have : PyData.depthAll (ps.map sgP) ≤ 1 := deps_of fun e he => (key e he).2.2
    show PyData.depthAll (ps.map sgP) + 1 ≤ 3
    omega
theorem rnd_le {d : PyData} {k : Nat} (h : lnRnd d = .inr k) : k ≤ 3 := by
  cases d with
  | str z =>
    have h : rndW (wrds z) = .inr k := h
    unfold rndW at h
    split at h
    · split at h
      · cases e : rdP ((wrds z).getD 1 []) with
        | none => rw [e] at h; cases h; decide
        | some r =>
          rw [e] at h
          dsimp only at h
          split at h
          · cases h; decide
          · cases h
      · cases h; omega
    · cases h; decide
  | _ => cases h; decide
theorem sig_le {d : PyData} {k : Nat} (h : lnSig d = .inr k) : k ≤ 3 := by
  cases d with
  | str z =>
    have h : sigW (wrds z) = .inr k := h
    unfold sigW at h
    repeat' split at h
    all_goals first
      | (cases h; omega)
      | cases h
  | _ => cases h; decide
theorem all_le : ∀ {r : List PyData} {n0 n k : Nat}, readAll lnSig r n0 = .inr (n, k) → n < n0 + r.length ∧ k ≤ 3
  | [], _, _, _, h => by cases h
  | c :: r, n0, n, k, h => by
    have h : (match lnSig c with | .inr e => .inr (n0, e) | .inl es => match readAll lnSig r (n0 + 1) with | .inl ws => .inl (.tuple es :: ws) | .inr p => .inr p : List PyData ⊕ (Nat × Nat)) = .inr (n, k) := h
    rw [List.length_cons]
    cases e1 : lnSig c with
    | inr j =>
      rw [e1] at h
      cases h
      exact ⟨by omega, sig_le e1⟩
    | inl es =>
      rw [e1] at h
      dsimp only at h
      cases e2 : readAll lnSig r (n0 + 1) with
      | inr p =>
        rw [e2] at h
        cases h
        obtain ⟨a, b⟩ := all_le e2
        exact ⟨by omega, b⟩
      | inl vs => rw [e2] at h; cases h
theorem sgBad_lt : ∀ {ds : List PyData} {used : List (List Nat)} {n k : Nat}, sgBad used n ds = some k → k < n + ds.length
  | [], _, _, _, h => by cases h
  | d :: r, used, n, k, h => by
    have h : (if (isSigD d && !decide (sgKey d ∈ used)) = true then sgBad (sgKey d :: used) (n + 1) r else some n) = some k := h
    rw [List.length_cons]
    split at h
    · have := sgBad_lt h; omega
    · cases h; omega
theorem res_shw {t : Tx} {m : Nat} {ds : List PyData} (ok : TabOk t) (h : ∀ e ∈ ds, LnM t m e) (hm : m ≤ 12) (l : ds.length ≤ 24) : Shw (resT (resA ds)) := by
  have ln : ∀ {n k : Nat}, n ≤ 100 → k ≤ 3 → Shw (resT (.line n k)) := fun h1 h2 => (shw_leaf (ds := [dS cLine, .int _, .int _]) (fun d hd => by
    simp only [List.mem_cons, List.not_mem_nil, or_false] at hd
    rcases hd with rfl | rfl | rfl
    · exact lf_str (by decide) (by decide)
    · exact lf_int (by omega)
    · exact lf_int (by omega)) (by show 3 ≤ 4; decide)).1
  cases ds with
  | nil => exact ln (by decide) (by decide)
  | cons d r =>
    rw [List.length_cons] at l
    show Shw (resT (match lnRnd d with | .inr k => Rs.line 0 k | .inl pl => resB pl (readAll lnSig r 1)))
    cases e0 : lnRnd d with
    | inr k => exact ln (by decide) (rnd_le e0)
    | inl pl =>
      dsimp only
      cases e1 : readAll lnSig r 1 with
      | inr p =>
        obtain ⟨n, k⟩ := p
        obtain ⟨h1, h2⟩ := all_le e1
        exact ln (by omega) h2
      | inl ws =>
        show Shw (resT (resW pl ws))
        unfold resW
        have wl : ws.length ≤ r.length := by
          have : ∀ {r ws : List PyData} {n : Nat}, readAll lnSig r n = .inl ws → ws.length ≤ r.length := fun {r} => by
            induction r with
            | nil => intro ws n h; cases h; exact Nat.le_refl _
            | cons c r ih =>
              intro ws n h
              have h : (match lnSig c with | .inr e => .inr (n, e) | .inl es => match readAll lnSig r (n + 1) with | .inl ws => .inl (.tuple es :: ws) | .inr p => .inr p : List PyData ⊕ (Nat × Nat)) = .inl ws := h
              cases a1 : lnSig c with
              | inr j => rw [a1] at h; cases h
              | inl es =>
                rw [a1] at h
                dsimp only at h
                cases a2 : readAll lnSig r (n + 1) with
                | inr p => rw [a2] at h; cases h
                | inl vs =>
                  rw [a2] at h
                  cases h
                  have := ih a2
                  rw [List.length_cons, List.length_cons]
                  omega
          exact this e1
        cases e2 : sgsD (.tuple ws) with
        | some k =>
          have hk : k.natAbs ≤ 1000 := by
            have e2 : (if ws.length ≤ 4 then (sgBad [] 0 ws).map fun n : Nat => (n : Int) else some (-1)) = some k := e2
            split at e2
            · obtain ⟨n, hn, rfl⟩ := Option.map_eq_some_iff.mp e2
              have := sgBad_lt hn
              omega
            · cases e2; decide
          exact (shw_leaf (ds := [dS cSig, .int k]) (fun d hd => by
            simp only [List.mem_cons, List.not_mem_nil, or_false] at hd
            rcases hd with rfl | rfl
            · exact lf_str (by decide) (by decide)
            · exact lf_int hk) (by show 2 ≤ 4; decide)).1
        | none =>
          obtain ⟨ps, ep, g⟩ := sgs_of e2
          cases ep
          obtain ⟨w0, _, hw0, _, _, l01, er0⟩ := rnd_ws (h d List.mem_cons_self) e0
          have plr := rd_rnd ok (hw0 _ (by rw [List.getD_eq_getElem?_getD, List.getElem?_eq_getElem l01]; exact List.getElem_mem _)) er0
          exact (shw_leaf (ds := [dS cGood, dS pl, sgT ps]) (fun d hd => by
            simp only [List.mem_cons, List.not_mem_nil, or_false] at hd
            rcases hd with rfl | rfl | rfl
            · exact lf_str (by decide) (by decide)
            · exact lf_str (by have := plr.2.1; omega) fun c hc => (sg_small c (plr.2.2 c hc)).1
            · exact lf_sgs g) (by show 3 ≤ 4; decide)).1
theorem let_one (c : Nat) : letL [c] = decide (c ∈ AZ) := by
  show (decide (1 = 1) && (decide (c ∈ AZ) && true)) = _
  rw [Bool.and_true, decide_eq_true rfl, Bool.true_and]
theorem sgBad_good : ∀ (ps : Tb) (used : List (List Nat)) (n : Nat), (∀ p ∈ ps, [p.1] ∉ used ∧ p.1 ∈ AZ ∧ p.2.length ≤ 12 ∧ p.2 ≠ [] ∧ firstBad p.2 = none) → (ps.map (·.1)).Nodup → sgBad used n (ps.map sgP) = none
  | [], _, _, _, _ => rfl
  | p :: r, used, n, h, nd => by
    obtain ⟨h1, h2, h3, h4, h5⟩ := h p (List.mem_cons_self ..)
    rw [List.map_cons, List.nodup_cons] at nd
    have es : isSigD (sgP p) = true := by
      show (letL [p.1] && (rowL 12 p.2 && decide (p.2 ≠ []))) = true
      rw [let_one, decide_eq_true h2, decide_eq_true h4]
      unfold rowL
      rw [h5, decide_eq_true (show (p.2.length : Int) ≤ 12 by omega)]
      rfl
    have ek : sgKey (sgP p) = [p.1] := rfl
    show (if isSigD (sgP p) && !decide (sgKey (sgP p) ∈ used) then sgBad (sgKey (sgP p) :: used) (n + 1) (r.map sgP) else some n) = none
    rw [es, ek, decide_eq_false h1, if_pos (by decide)]
    refine sgBad_good r _ _ (fun x hx => ?_) nd.2
    obtain ⟨g1, g2⟩ := h x (List.mem_cons_of_mem _ hx)
    refine ⟨fun z => ?_, g2⟩
    rcases List.mem_cons.mp z with z | z
    · exact nd.1 (List.mem_map.mpr ⟨x, hx, by simpa using z⟩)
    · exact g1 z
theorem sgs_good {ps : Tb} (g : GoodT ps) : sgsD (sgT ps) = none := by
  show (if (ps.map sgP).length ≤ 4 then (sgBad [] 0 (ps.map sgP)).map fun n : Nat => (n : Int) else some (-1)) = none
  have := g.ln
  rw [if_pos (by rw [List.length_map]; exact this), sgBad_good ps [] 0 (fun p hp => ⟨List.not_mem_nil, g.az p hp, g.lw p hp, g.ne p hp, g.ok p hp⟩) g.nd]
  rfl
theorem rnd_good {pl : List Nat} (g : GoodR pl 24) : rndD (dS pl) = none := by
  show rndL pl = none
  unfold rndL
  rw [if_pos ⟨g.ne, g.le⟩, firstBad_none g.row]
  rfl
theorem sg_keep {C a : Addr} {H H' : Hp} {pl : List Nat} {ps : Tb} (h : Sg C H a pl ps) (s : ∀ b o, H b = some o → (∀ xs, o ≠ .lst xs) → H' b = some o) : Sg C H' a pl ps := by
  obtain ⟨dx, t, d, ob, sg, sp, lp, ls, lw⟩ := h
  exact ⟨dx, t, d, s _ _ ob nofun, sg.keep (fun b xs e => s b _ e nofun) (noL_sg ps), s _ _ sp nofun, lp, ls, lw⟩
/-- an instance is made of what is good -/
theorem mk_good {C CD CR CS p dx : Addr} {G : Hp} {pl : List Nat} {ps : Tb} {z : V} {D : PyData} {R : Hp → Prop} {E : XK} (hz : (∃ d, At G z d ∧ d.depth < 6 ∧ D = deepD d) ∨ (z = .ref CD ∧ D = .tuple [])) (eD : D = sgT ps) (gr : GoodR pl 24) (g : GoodT ps)
    (np : G p = none) (ndx : G dx = none) (ne : dx ≠ p) (q : ∀ H', Same G H' → Sg C H' p pl ps → R H') :
    p_init C CD CR CS (.ref p) (S pl) z (upd (upd G dx (.own p)) p (.ins C dx [])) (fun v H2 => v = .non ∧ R H2) E := by
  have sH : Same G (upd (upd G dx (.own p)) p (.ins C dx [])) := (same_upd ndx).trans (same_upd ((upd_ne ne.symm).trans np))
  refine ⟨p, dx, dS pl, D, rfl, upd_same, .str pl (by have := gr.le; omega), hz.imp (fun ⟨d, h1, h2, h3⟩ => ⟨d, h1.same sH, h2, h3⟩) id, ?_⟩
  subst eD
  rw [rnd_good gr, sgs_good g]
  intro pl2 ps2 H' t dd e3 e4 bt sg
  cases dS_inj e3
  cases sgT_inj e4
  refine ⟨rfl, q H' (fun b o e => ?_) ⟨dx, t, dd, sg⟩⟩
  have hb : b ≠ p := ne_of_none e np
  exact bt b o hb ((upd_ne hb).trans (same_upd ndx _ _ e))
section
variable {K : PySem.W.Frag}
theorem Dr.max {d : Dd} {Hk H : Hp} (h : Dr K d Hk H) : Dr K d (wo H d.a) H :=
  h.know (fun b o e => by rw [wo_ne (ne_of_none e h.2.1)]; exact h.1 _ _ e) wo_sub wo_same
end
theorem i_forR3 {σ : L2.St} {H : Hp} {D : Ends} {tb : TS} {g : TG} (n : Nat) (hn : n ≤ 100000000) (Pv : Nat → L2.St → Hp → Prop) (h0 : Pv 0 σ H)
    (hs : ∀ i σ' H', i < n → Pv i σ' H' → g (.int (i : Int)) σ' H' fun σ2 H2 => tb { D with nx := Pv (i + 1), ct := Pv (i + 1), bk := D.nx } σ2 H2) (hd : ∀ σ' H', Pv n σ' H' → D.nx σ' H') : ∃ j : Int, ([.int (n : Int)] : List V) = [.int j] ∧ -(2 ^ 62) ≤ j ∧ j < 2 ^ 62 ∧ LoopG g tb D σ (Itr 0 j.toNat) H := by
  refine ⟨(n : Int), rfl, by omega, by omega, ?_⟩
  rw [Int.toNat_natCast]
  refine for_range Pv h0 (fun i σ' H' hi p => ?_) hd
  rw [Int.zero_add]
  exact hs i σ' H' hi p
theorem Dr.lst {K : PySem.W.Frag} {d : Dd} {Hk H : Hp} (dr : Dr K d Hk H) : ∃ xs, H d.a = some (.lst xs) := by
  obtain ⟨_, _, _, _, p, b, u, x', s, ha, _⟩ := dr
  exact ⟨_, ha⟩
theorem i_ne_same {K : PySem.W.Frag} {H : Hp} {Q : VK} {x : Str} (q : Q (.bl false) H) : neP K (.str x) (.str x) H Q := by
  show neP K (S x.cps.toList) (S x.cps.toList) H Q
  refine i_ne_str ?_
  rw [decide_eq_true rfl]
  exact q
theorem i_eq_same {K : PySem.W.Frag} {H : Hp} {Q : VK} {x : Str} (q : Q (.bl true) H) : eqP K (.str x) (.str x) H Q := by
  show eqP K (S x.cps.toList) (S x.cps.toList) H Q
  refine i_eq_str ?_
  rw [decide_eq_true rfl]
  exact q
/-- what stands anew is known -/
theorem D2.learn {K : PySem.W.Frag} {d : Dd} {f A G G1 : Hp} {p : Addr} {o : HO} (h : D2 K d f A G) (s : Same G G1) (n : G p = none) (e : G1 p = some o) : ∃ A1, Same A A1 ∧ A1 p = some o ∧ D2 K d f A1 G1 :=
  ⟨upd A p o, same_upd (h.free n), upd_same, h.ext ⟨same_upd (h.free n), fun b u eb => by
    by_cases z : b = p
    · rw [z, upd_same] at eb; rw [z, e]; exact eb
    · rw [upd_ne z] at eb; exact s _ _ (h.old eb), s, fun b h1 h2 => by
    by_cases z : b = p
    · rw [z]; exact n
    · rw [upd_ne z] at h2; exact absurd h1 h2⟩⟩
theorem dk_getR {H : Hp} {a : Addr} {kvs : List (Key × V)} {l : List Nat} {v : V} {P : V → Prop} (h : Rd H a (.dK kvs)) (e : valV kvs (kS l) = some v) (q : P v) : ∃ a' v', V.ref a = .ref a' ∧ DGet H a' (S l) (some v') ∧ P v' :=
  ⟨a, v, rfl, .inl ⟨kvs, kS l, h, rfl, e.symm⟩, q⟩
theorem look_mem' : ∀ {t : Tx} {e : List Nat × Option (List Nat)}, (t.map (·.1)).Nodup → e ∈ t → t.lookup e.1 = some e.2
  | (k, o) :: r, e, nd, he => by
    rw [List.map_cons, List.nodup_cons] at nd
    rw [List.lookup_cons]
    rcases List.mem_cons.mp he with rfl | he
    · simp
    · have hne : e.1 ≠ k := fun z => nd.1 (List.mem_map.mpr ⟨e, he, z⟩)
      rw [show (e.1 == k) = false by simpa using hne]
      exact look_mem' nd.2 he
/-- the texts that stand for a round -/
def gds (t : Tx) : List (List Nat) := (t.filter fun e => e.2.isSome).map (·.1)
theorem kept_gds (t : Tx) : kept (fun i => (t.getD i ([], none)).2.isSome) (fun i => S (t.getD i ([], none)).1) t.length = (gds t).map S := by
  have key : ∀ n, n ≤ t.length → kept (fun i => (t.getD i ([], none)).2.isSome) (fun i => S (t.getD i ([], none)).1) n = ((t.take n).filter fun e => e.2.isSome).map fun e => S e.1 := fun n => by
    induction n with
    | zero => intro _; rfl
    | succ n ih =>
      intro hn
      have hg : t[n]? = some (t.getD n ([], none)) := by rw [List.getD_eq_getElem?_getD, List.getElem?_eq_getElem (by omega)]; rfl
      have tk : t.take (n + 1) = t.take n ++ [t.getD n ([], none)] := by rw [List.take_succ, hg]; rfl
      rw [tk, List.filter_append, List.map_append, ← ih (by omega)]
      cases hp : (t.getD n ([], none)).2.isSome with
      | true => rw [kept_yes (f := fun i => (t.getD i ([], none)).2.isSome) hp, List.filter_cons_of_pos (p := fun e : List Nat × Option (List Nat) => e.2.isSome) hp]; rfl
      | false => rw [kept_no (f := fun i => (t.getD i ([], none)).2.isSome) hp, List.filter_cons_of_neg (p := fun e : List Nat × Option (List Nat) => e.2.isSome) (by rw [hp]; decide)]; simp
  have := key _ (Nat.le_refl _)
  rw [List.take_length] at this
  rw [this]
  unfold gds
  rw [List.map_map]
  rfl
theorem gds_ok {t : Tx} (ok : TabOk t) : (∀ w ∈ gds t, w ∈ t.map (·.1)) ∧ 1 ≤ (gds t).length ∧ (gds t).length ≤ 40 := by
  refine ⟨fun w hw => ?_, ?_, ?_⟩
  · obtain ⟨e, he, rfl⟩ := List.mem_map.mp hw
    exact List.mem_map_of_mem (List.mem_filter.mp he).1
  · obtain ⟨e, he, hs⟩ := ok.gd
    have : e.1 ∈ gds t := List.mem_map_of_mem (List.mem_filter.mpr ⟨he, hs⟩)
    exact List.length_pos_of_mem this
  · unfold gds
    rw [List.length_map]
    exact Nat.le_trans (List.length_filter_le _ _) ok.ln
theorem rndL1_join (pl : List Nat) : rndL1 pl = TL.joinL [32] [cRnd, fC pl] := by unfold rndL1; rw [List.append_assoc]; rfl
theorem sigL1_join (p : Nat × List Nat) : sigL1 p = TL.joinL [32] [cSig, [p.1], p.2] := by unfold sigL1; simp only [List.append_assoc]; rfl
theorem rnd_ln {t : Tx} {w : List Nat} (ok : TabOk t) (hw : Wd t w) {m : Nat} (hm : 2 ≤ m) : LnM t m (dS (TL.joinL [32] [cRnd, w])) :=
  .ln (fun x hx => by
    rcases List.mem_cons.mp hx with rfl | hx
    · exact wd_fix ok (by simp)
    · rw [List.mem_singleton.mp hx]; exact hw) (by simp) (by show 2 ≤ m; exact hm)
theorem row_is {w : List Nat} {m : Nat} (h1 : w ≠ []) (h2 : w.length ≤ m) (h3 : firstBad w = none) : isRw m w = true := by
  refine isRw_iff.mpr ⟨List.length_pos_iff.mpr h1, h2, fun c hc => ?_⟩
  unfold firstBad at h3
  rw [List.findIdx?_eq_none_iff] at h3
  have h4 := h3 c hc
  cases e : decide (c ∈ SG) with
  | true => exact of_decide_eq_true e
  | false => rw [e] at h4; cases h4
theorem az_fix : ∀ c ∈ AZ, [c] ∈ FIXW := by decide +kernel
theorem sig_wds {t : Tx} (ok : TabOk t) {ps : Tb} (g : GoodT ps) {p : Nat × List Nat} (hp : p ∈ ps) : ∀ w ∈ [cSig, [p.1], p.2], Wd t w := fun x hx => by
  have l12 := g.lw p hp
  rcases List.mem_cons.mp hx with rfl | hx
  · exact wd_fix ok (by simp)
  rcases List.mem_cons.mp hx with rfl | hx
  · exact wd_fix ok (az_fix _ (g.az p hp))
  · rw [List.mem_singleton.mp hx]
    exact wd_row ok (row_is (g.ne p hp) (by omega) (g.ok p hp))
theorem lines_ln {t : Tx} {pl : List Nat} {ps : Tb} (ok : TabOk t) (g : GoodT ps) (hk : fC pl ∈ t.map (·.1)) : ∀ e ∈ linesD pl ps, LnM t 3 e := fun e he => by
  rcases List.mem_cons.mp he with rfl | he
  · rw [rndL1_join]
    exact rnd_ln ok (wd_key ok hk) (by decide)
  · obtain ⟨p, hp, rfl⟩ := List.mem_map.mp he
    rw [sigL1_join]
    exact .ln (sig_wds ok g hp) (by simp) (by show 3 ≤ 3; decide)
theorem lines_read {t : Tx} {pl : List Nat} {ps : Tb} (ok : TabOk t) (hr : IsRound pl) (g : GoodT ps) (hk : fC pl ∈ t.map (·.1)) : resA (linesD pl ps) = .good pl (ps.map sgP) ∧ lnRnd (dS (rndL1 pl)) = .inl pl := by
  have h0 : lnRnd (dS (rndL1 pl)) = .inl pl := by
    rw [rndL1_join, lnRnd_ws (t := t) (fun x hx => by
      rcases List.mem_cons.mp hx with rfl | hx
      · exact wd_fix ok (by simp)
      · rw [List.mem_singleton.mp hx]; exact wd_key ok hk) (by simp)]
    unfold rndW
    rw [if_pos (show ([cRnd, fC pl] : List (List Nat)).getD 0 [] = cRnd from rfl), if_pos (by show 1 < 2; decide)]
    show (match rdP (fC pl) with | some r => if 2 < 2 then Sum.inr 2 else .inl r | none => .inr 1) = _
    rw [(rdP_fold hr).1]
    rfl
  refine ⟨?_, h0⟩
  have h1 : ∀ p ∈ ps, lnSig (dS (sigL1 p)) = .inl [dS [p.1], dS p.2] := fun p hp => by
    have l12 := g.lw p hp
    rw [sigL1_join, lnSig_ws (sig_wds ok g hp) (by simp)]
    unfold sigW
    have hl : letL [p.1] = true := by rw [let_one, decide_eq_true (g.az p hp)]
    have hrw := rw_row.mp (row_is (m := 12) (g.ne p hp) l12 (g.ok p hp))
    rw [if_pos (show ([cSig, [p.1], p.2] : List (List Nat)).getD 0 [] = cSig from rfl), if_pos (by show 1 < 3; decide)]
    show (if letL [p.1] = true then (if 2 < 3 then (if rowL 12 p.2 = true ∧ 1 ≤ p.2.length then (if 3 < 3 then Sum.inr 3 else .inl [dS [p.1], dS p.2]) else .inr 2) else .inr 3) else .inr 1) = _
    rw [if_pos hl, if_pos (by decide), if_pos hrw, if_neg (by decide)]
  show (match lnRnd (dS (rndL1 pl)) with | .inr k => Rs.line 0 k | .inl pl' => resB pl' (readAll lnSig (ps.map fun p => dS (sigL1 p)) 1)) = _
  rw [h0, all_good fun e he => by
    obtain ⟨p, hp, rfl⟩ := List.mem_map.mp he
    exact ⟨_, h1 p hp⟩]
  have e : (ps.map fun p => dS (sigL1 p)).map sgOf = ps.map sgP := by
    rw [List.map_map]
    refine List.map_congr_left fun p hp => ?_
    show tpl (lnSig (dS (sigL1 p))) = _
    rw [h1 p hp]
    rfl
  show resW pl ((ps.map fun p => dS (sigL1 p)).map sgOf) = _
  rw [e]
  unfold resW
  rw [show sgsD (.tuple (ps.map sgP)) = none from sgs_good g]
def sgL : PyData → PyData
  | .tuple [.str a, .str b] => dS (cSig ++ [32] ++ a.cps.toList ++ [32] ++ b.cps.toList)
  | _ => .none
theorem sgL_sg (p : Nat × List Nat) : sgL (sgP p) = dS (sigL1 p) := rfl
section
variable {P : Program} {w : World} {K : PySem.W.Frag} {mg : Str → Option Value} {base : Heap} {C_GlimError C_BadRound C_BadText C_BadLine C_BadSignal C_BadMessage C_TooLong C_Lines C_Signals C_dt_Signals___init__ : Addr}
def p_L_asked (K : PySem.W.Frag) : P1 := fun x H Q _ => ∃ (H0 : Hp) (d : Dd), x = .ref d.a ∧ Dr K d H0 H ∧ ∀ H', Q (.bl true) H'
theorem ok_L_asked (T : Txt K mg C_GlimError C_BadRound C_BadText C_BadLine C_BadSignal C_BadMessage C_TooLong C_Lines C_Signals C_dt_Signals___init__) : GOK P w K mg base CX0 29 "_law_asked" ["_law_draw_here"] (sp1  (p_L_asked K)) := by
  refine GOK.mk (k := 28) T.d_L_asked sc_L_asked len1 fun f cdv A outer s H vs Q E hgu hr h => ?_
  obtain ⟨x, rfl, h⟩ := h
  refine ⟨_, (pss_cons (ps_asg (pe_f (ok_L_talk (K := K) T) (hr.mono (by decide)) pass0 (pa_cons (pv 0) (pa_cons pe_int (pa_cons pe_int pa_nil)))) (pgTup (n := 2) K rfl (pgs_cons (pg_name (i := 1) sc_L_asked.nd rfl (Or.inl rfl)) (pgs_cons (pg_name (i := 2) sc_L_asked.nd rfl (Or.inl rfl)) pgs_nil)))) (pss_cons (ps_set (i := 3) sc_L_asked.nd rfl (Or.inl rfl) (pe_mk (ok_Signals___init__ (K := K) T) (hr.mono (by decide)) Fg.passN (pa_cons (pv 1) (pa_cons (pv 2) pa_nil)))) (pss_cons (ps_set (i := 4) sc_L_asked.nd rfl (Or.inl rfl) (pe_f (ok_L_folded (K := K) T) (hr.mono (by decide)) pass0 (pa_cons (pv 1) pa_nil))) (pss_cons (ps_set (i := 5) sc_L_asked.nd rfl (Or.inl rfl) (pe_op (opAdd K) (pe_lst (pa_cons (pe_op (opAdd K) (pe_S [114, 111, 117, 110, 100, 32]) (pv 4)) pa_nil)) (pe_lc (own := [("_law_pair", 14)]) (g := gName 14) (tt := tYes) (by rfl) sc_L_asked.nd (piAny K (pv 2)) (blkOk_by (own := [("_law_pair", 14)]) (N := ["_law_draw_here", "_law_plain", "_law_pairs", "_law_signals", "_law_folded_here", "_law_due_here", "_law_lines", "_law_back", "_law_texts_here", "_law_good", "_law_turn", "_law_kind", "_law_passed", "_law_before", "_law_pair", "_law_text"]) (sc := (defScope s_L_asked)) (by decide +kernel)) (fun _ _ _ _ _ => (pg_name (i := 14) sc_L_asked.nd rfl (Or.inl rfl))) (fun _ _ _ _ _ => pts_nil) (fun _ _ _ _ _ => (pe_op (opAdd K) (pe_op (opAdd K) (pe_op (opAdd K) (pe_S [115, 105, 103, 110, 97, 108, 32]) (pe_ix (ixK K) (pv 14) pe_int (fun _ _ => rfl))) (pe_S [32])) (pe_ix (ixK K) (pv 14) pe_int (fun _ _ => rfl))))))) (pss_cons (ps_set (i := 6) sc_L_asked.nd rfl (Or.inl rfl) (pe_f (ok_write_signals (K := K) T) (hr.mono (by decide)) Fg.passN (pa_cons (pv 3) pa_nil))) (pss_cons (ps_if (pt_cmpR (opNe K hr.units) (pe_callB (Fg.cReprA K hgu hr.units) (by rfl) T.b_repr (by decide +kernel) (pa_cons (pv 6) pa_nil)) (pe_callB (Fg.cReprA K hgu hr.units) (by rfl) T.b_repr (by decide +kernel) (pa_cons (pe_callTy (cTup K) (by rfl) T.b_tuple (by decide +kernel) (pa_cons (pv 5) pa_nil)) pa_nil)) (nomark _)) (pss_one (ps_ret pe_bl)) pss_nil) (pss_cons (ps_set (i := 7) sc_L_asked.nd rfl (Or.inl rfl) (pe_f (ok_read_signals (K := K) T) (hr.mono (by decide)) Fg.passN (pa_cons (pv 6) pa_nil))) (pss_cons (ps_if (pw_or (pt_cmpR (opNe K hr.units) (pe_callB (Fg.cReprA K hgu hr.units) (by rfl) T.b_repr (by decide +kernel) (pa_cons (pe_cmpR (Fg.opEqOX K (ok_Signals___eq__ (K := K) T) (hr.mono (by decide)) pass0) (pv 7) (pv 3) (nomark _)) pa_nil)) (pe_S [84, 114, 117, 101]) (nomark _)) (pw_or1 (pt_cmpR (opNe K hr.units) (pe_callB (Fg.cReprA K hgu hr.units) (by rfl) T.b_repr (by decide +kernel) (pa_cons (pe_lst (pa_cons (peFld K (pv 7)) (pa_cons (peFld K (pv 7)) pa_nil))) pa_nil)) (pe_callB (Fg.cReprA K hgu hr.units) (by rfl) T.b_repr (by decide +kernel) (pa_cons (pe_lst (pa_cons (pv 1) (pa_cons (pe_callTy (cTup K) (by rfl) T.b_tuple (by decide +kernel) (pa_cons (pv 2) pa_nil)) pa_nil))) pa_nil)) (nomark _)))).pt (pss_one (ps_ret pe_bl)) pss_nil) (pss_cons (ps_set (i := 8) sc_L_asked.nd rfl (Or.inr rfl) (Fg.pe_f0 (ok_L_texts (K := K) T) (hr.mono (by decide)) pass0)) (pss_cons (ps_dput (hu_of hr) (pv 8) (pv 4) (pv 1) rfl) (pss_cons (ps_set (i := 9) sc_L_asked.nd rfl (Or.inl rfl) (pe_callB (cSortedS K) (by rfl) T.b_sorted (by decide +kernel) (pa_cons (pe_lock (pe_lc (own := [("_law_text", 15)]) (g := gName 15) (by rfl) sc_L_asked.nd (pi_keys (pv 8)) (blkOk_by (own := [("_law_text", 15)]) (N := ["_law_draw_here", "_law_plain", "_law_pairs", "_law_signals", "_law_folded_here", "_law_due_here", "_law_lines", "_law_back", "_law_texts_here", "_law_good", "_law_turn", "_law_kind", "_law_passed", "_law_before", "_law_pair", "_law_text"]) (sc := (defScope s_L_asked)) (by decide +kernel)) (fun _ _ _ _ _ => (pg_name (i := 15) sc_L_asked.nd rfl (Or.inl rfl))) (fun _ _ _ _ _ => (pts_one (pt_cmpR op_isNotP (pe_dget (hu_of hr) (pv 8) (pv 15) (fun _ _ => rfl)) pe_non (nomark _)))) (fun _ _ _ _ _ => (pv 15)))) pa_nil))) (Evl.pss_cut (ps_if (pt_cmpR (opEq K hr.units) (pe_f (ok_L_pick (K := K) T) (hr.mono (by decide)) pass0 (pa_cons (pv 0) (pa_cons pe_int pa_nil))) pe_int (nomark _)) (pss_one (ps_asg (pe_op (opAdd K) (pe_S [114, 111, 117, 110, 100, 32]) (pe_ix (ixK K) (pv 9) (pe_f (ok_L_pick (K := K) T) (hr.mono (by decide)) pass0 (pa_cons (pv 0) (pa_cons (pe_callB (cLen K) (by rfl) T.b_len (by decide +kernel) (pa_cons (pv 9) pa_nil)) pa_nil))) (fun _ _ => rfl))) (pg_sub (pv 5) pe_int set_list))) (pss_one (ps_if (pt_cmpR (opEq K hr.units) (pe_f (ok_L_pick (K := K) T) (hr.mono (by decide)) pass0 (pa_cons (pv 0) (pa_cons pe_int pa_nil))) pe_int (nomark _)) (pss_one (ps_asg (pe_op (opAdd K) (pe_S [114, 111, 117, 110, 100, 32]) (pv 1)) (pg_sub (pv 5) pe_int set_list))) pss_nil))) (Evl.pss_cut (ps_if (pt_cmpR op_gtP (pe_f (ok_L_pick (K := K) T) (hr.mono (by decide)) pass0 (pa_cons (pv 0) (pa_cons pe_int pa_nil))) pe_int (nomark _)) (pss_one (ps_for PassesOwn.never rfl (pi_range1 rfl T.b_range (pa_cons (pe_ix (ixK K) (pe_lst (pa_cons pe_int (pa_cons pe_int (pa_cons pe_int (pa_cons pe_int (pa_cons pe_int pa_nil)))))) (pe_f (ok_L_pick (K := K) T) (hr.mono (by decide)) pass0 (pa_cons (pv 0) (pa_cons pe_int pa_nil))) (fun _ _ => rfl)) pa_nil)) (pg_name (i := 10) sc_L_asked.nd rfl (Or.inl rfl)) (pss_one (ps_set (i := 5) sc_L_asked.nd rfl (Or.inl rfl) (pe_f (ok_L_spoilt (K := K) T) (hr.mono (by decide)) pass0 (pa_cons (pv 0) (pa_cons (pv 5) (pa_cons (pv 8) pa_nil)))))))) pss_nil) (pss_cons (ps_set (i := 11) sc_L_asked.nd rfl (Or.inl rfl) (pe_f (ok_L_pick (K := K) T) (hr.mono (by decide)) pass0 (pa_cons (pv 0) (pa_cons pe_int pa_nil)))) (pss_cons (ps_set (i := 12) sc_L_asked.nd rfl (Or.inl rfl) (pe_callTy (cListP K) (by rfl) T.b_list (by decide +kernel) (pa_cons (pv 5) pa_nil))) (Evl.pss_cut (ps_if (pt_cmpR (opEq K hr.units) (pv 11) pe_int (nomark _)) (pss_one (ps_set (i := 12) sc_L_asked.nd rfl (Or.inl rfl) (pe_ix (ixK K) (pe_lst (pa_cons pe_non (pa_cons pe_int (pa_cons (pe_S [114, 111, 117, 110, 100, 32, 119]) (pa_cons pe_dnewK pa_nil))))) (pe_f (ok_L_pick (K := K) T) (hr.mono (by decide)) pass0 (pa_cons (pv 0) (pa_cons pe_int pa_nil))) (fun _ _ => rfl)))) (pss_one (ps_if (pt_cmpR (opEq K hr.units) (pv 11) pe_int (nomark _)) (pss_one (ps_set (i := 12) sc_L_asked.nd rfl (Or.inl rfl) (pe_lst pa_nil))) (pss_one (ps_if (pt_cmpR op_gtP (pv 11) pe_int (nomark _)) (pss_one (ps_set (i := 12) sc_L_asked.nd rfl (Or.inl rfl) (pe_callTy (cTup K) (by rfl) T.b_tuple (by decide +kernel) (pa_cons (pv 5) pa_nil)))) pss_nil))))) (pss_cons (ps_set (i := 13) sc_L_asked.nd rfl (Or.inl rfl) (pe_callB (Fg.cReprB K hgu hr.units) (by rfl) T.b_repr (by decide +kernel) (pa_cons (pv 12) pa_nil))) (pss_cons (ps_if (pw_or (pt_cmpR (opNe K hr.units) (pe_callB (Fg.cReprA K hgu hr.units) (by rfl) T.b_repr (by decide +kernel) (pa_cons (pe_f (ok_L_told (K := K) T) (hr.mono (by decide)) pass0 (pa_cons (pv 12) pa_nil)) pa_nil)) (pe_callB (Fg.cReprA K hgu hr.units) (by rfl) T.b_repr (by decide +kernel) (pa_cons (pe_f (ok_L_due (K := K) T) (hr.mono (by decide)) pass0 (pa_cons (pv 12) (pa_cons (pv 8) pa_nil))) pa_nil)) (nomark _)) (pw_or1 (pt_cmpR (opNe K hr.units) (pe_callB (Fg.cReprB K hgu hr.units) (by rfl) T.b_repr (by decide +kernel) (pa_cons (pv 12) pa_nil)) (pv 13) (nomark _)))).pt (pss_one (ps_ret pe_bl)) pss_nil) (pss_one (ps_ret (pe_cmpR (opEq K hr.units) (pe_callB (Fg.cReprA K hgu hr.units) (by rfl) T.b_repr (by decide +kernel) (pa_cons (pe_f (ok_write_signals (K := K) T) (hr.mono (by decide)) Fg.passN (pa_cons (pv 3) pa_nil)) pa_nil)) (pe_callB (Fg.cReprA K hgu hr.units) (by rfl) T.b_repr (by decide +kernel) (pa_cons (pv 6) pa_nil)) (nomark _)))))))))))))))))))))), ?_⟩
  show (_ : TS) { nx := fun _ H' => Q .non H', rt := Q } [some x, none, none, none, none, none, none, none, none, none, none, none, none, none, none, none] H
  obtain ⟨H0, d, rfl, dr, q⟩ := h
  walk_at "go"
  refine ⟨H0, d, rfl, rfl, rfl, dr, fun pl ps a b xs A H1 s0 nda gr gt eb pr ea dr1 => ?_⟩
  have ea1 := dr1.1 _ _ ea
  have eb1 := dr1.1 _ _ eb
  have pr1 : Prs H1 xs ps := pr.same dr1.1
  have xl := pr.len
  rw [List.length_map] at xl
  have l4 := gt.ln
  have rnd : IsRound pl := ⟨gr.ne, gr.le, gr.row⟩
  have p24 := gr.le
  walk_at "go"
  intro p dx np ndx nex
  walk_at "go"
  refine mk_good (D := sgT ps) (.inl ⟨.list (ps.map sgP), .lst eb1 (by omega) pr1, ?_, ?_⟩) rfl gr gt np ndx nex (fun G2 s2 sg => ?_)
  · have : PyData.depthAll (ps.map sgP) ≤ 1 := deps_of fun e he => by
      obtain ⟨q, _, rfl⟩ := List.mem_map.mp he
      exact (by decide : max 0 (max 0 0) + 1 ≤ 1)
    show PyData.depthAll (ps.map sgP) + 1 < 6
    omega
  · show PyData.tuple (ps.map sgP) = .tuple (deepD.deepDs (ps.map sgP))
    rw [deeps_id fun e he => by obtain ⟨q, _, rfl⟩ := List.mem_map.mp he; rfl]
  have dr2 := dr1.same s2
  obtain ⟨dl, edl⟩ := Dr.lst dr2
  have d2 := D2.of0 (Dr.max dr2)
  have sgA : Sg C_Signals (wo G2 d.a) p pl ps := sg_keep sg fun b o e hl => by
    rw [wo_ne (fun z => by rw [z, edl] at e; cases e; exact hl _ rfl)]
    exact e
  have sA : Same A (wo G2 d.a) := fun b o e => by
    rw [wo_ne (ne_of_none e nda)]
    exact dr2.1 _ _ e
  replace eb := sA _ _ eb
  replace pr : Prs (wo G2 d.a) xs ps := pr.same sA
  clear sA ea ea1 eb1 pr1 nda dr1 dr2 edl dl sg np ndx nex dr s0
  generalize wo G2 d.a = A2 at *
  walk_at "go"
  refine ⟨pl, rfl, rnd, fun G3 s3 => ?_⟩
  have d3 := d2.same s3
  have fl := fC_len (List.length_pos_iff.mp rnd.1)
  walk_at "go"
  refine i_new (by show 1 ≤ 100000; omega) fun L1 nL1 => ?_
  rw [show S ([114, 111, 117, 110, 100, 32] ++ fC pl) = S (rndL1 pl) from rfl]
  have eL1 : (upd G3 L1 (.lst [S (rndL1 pl)])) L1 = some (.lst [S (rndL1 pl)]) := upd_same
  have d4 := d3.skip (o := .lst [S (rndL1 pl)]) nL1
  generalize upd G3 L1 (.lst [S (rndL1 pl)]) = G4 at *
  walk_at "go"
  refine Fg.c_lstD (A := A2) d4.1 (fun R k => by walk_at "go"; exact k) (.inl (.inl (d4.old eb))) pr (by omega) sgL (fun _ => rfl) (fun y e A5 G5 he hy y5 QV k => ?_) (fun L2 A5 G5 ls x5 e2 ea2 al2 len2 => ?_)
  · obtain ⟨pp, hpp, rfl⟩ := List.mem_map.mp he
    obtain ⟨c, zs, rfl, hc, _, az⟩ := hy.tupled
    cases az with
    | cons a0 az =>
    cases az with
    | cons a1 az =>
    cases az
    obtain ⟨l0, rfl, e0, _⟩ := a0.strl
    obtain ⟨l1, rfl, e1, _⟩ := a1.strl
    obtain rfl : [pp.1] = l0 := by
      injection e0 with e0
      simpa using congrArg Array.toList e0
    obtain rfl : pp.2 = l1 := by
      injection e1 with e1
      simpa using congrArg Array.toList e1
    have hc5 := y5.ag _ _ hc
    have l12 := gt.lw pp hpp
    show (_ : TE) [some (.ref d.a), some (S pl), some (.ref b), some (.ref p), some (S (fC pl)), none, none, none, none, none, none, none, none, none, some (.ref c), none] G5 QV
    walk_at "go"
    exact k A5 G5 _ (Ext.refl y5.ag) (show At A5 (S (sigL1 pp)) (dS (sigL1 pp)) from .str _ (by unfold sigL1; simp only [List.length_append, List.length_cons, List.length_nil]; omega))
  have d5 := d4.ext x5
  have eL1b := x5.gg _ _ eL1
  replace eb := x5.aa _ _ eb
  replace pr : Prs A5 xs ps := pr.same x5.aa
  replace sgA := sgA.same x5.aa
  have eps : (ps.map sgP).map sgL = ps.map fun p => dS (sigL1 p) := by
    rw [List.map_map]
    exact List.map_congr_left fun p _ => sgL_sg p
  rw [eps] at al2
  rw [List.length_map] at len2
  clear eL1 x5 d2 d3 d4 e2
  walk_at "go"
  refine i_catL eL1b (d5.old ea2) (by rw [len2]; show 1 + _ ≤ 100000; omega) fun L3 nL3 => ?_
  clear eL1b
  have n3 := d5.free nL3
  have d6 := (d5.new (o := .lst ([S (rndL1 pl)] ++ ls)) nL3).hide n3
  have al6 : AtAll A5 ([S (rndL1 pl)] ++ ls) (linesD pl ps) := .cons (.str _ (by unfold rndL1; simp only [List.length_append, List.length_cons, List.length_nil]; omega)) al2
  clear al2 ea2 eps
  have dlen : (linesD pl ps).length = 1 + ps.length := by unfold linesD; rw [List.length_cons, List.length_map]; omega
  generalize ([S (rndL1 pl)] ++ ls) = ys at *
  have yl := al6.len
  have eL3 : joinH (oneH L3 (.lst ys)) noF L3 = some (.lst ys) := joinH_some (if_pos rfl)
  generalize hf1 : joinH (oneH L3 (.lst ys)) noF = f1 at *
  generalize upd G5 L3 (.lst ys) = G6 at *
  have cel : SqL K A5 d.c (d.ns.map V.int) := by
    have := d5.cel
    unfold Cel at this
    rwa [join_noF] at this
  clear d5 nL3
  -- the table
  obtain ⟨okT, ptT, kT⟩ := put_ok (t := TXS) tx_ok (by decide) rnd
  generalize ht : putT TXS (fC pl) pl = t at *
  have lnA := lines_ln okT gt kT
  obtain ⟨rdA, rdB⟩ := lines_read okT rnd gt kT
  obtain ⟨_, shT⟩ := lns_shw lnA (by decide) (by omega)
  walk_at "go"
  refine ⟨A5, p, pl, ps, d6.1, rfl, sgA.same d6.1, rnd, fun A7 G7 v6 x7 av => ?_⟩
  have d7 := d6.ext x7
  walk_at "go"
  refine i_reprA (av.same x7.ag) shT.1 (by decide) shT.2.1 (by have := shT.2.2; omega) ?_
  walk_at "go"
  refine i_tuple_lst (.inl (.inl (d7.fr eL3))) fun tl ntl => ?_
  have d8 := d7.skip (o := .tup ys) ntl
  have aT : At (upd G7 tl (.tup ys)) (.ref tl) (.tuple (linesD pl ps)) := At.mkTup upd_same (((al6.same x7.aa).same d7.1).same (same_upd ntl)) (by omega)
  have s8 : Same G7 (upd G7 tl (.tup ys)) := same_upd ntl
  generalize upd G7 tl (.tup ys) = G8 at *
  walk_at "go"
  refine i_reprA aT shT.1 (by decide) shT.2.1 (by have := shT.2.2; omega) ?_
  refine i_ne_same ?_
  walk_at "go"
  have sgG := (sgA.same x7.aa).same (d7.1.trans s8)
  refine ⟨A7, .tuple (linesD pl ps), d7.1.trans s8, av, fun ds0 e0 => ?_, ?_⟩
  · cases e0
    refine ⟨fun e he => (lnA e he).short (by decide), fun e pl' h1 h2 => ?_⟩
    cases h1
    rw [rdB] at h2
    cases h2
    exact rnd
  rw [show resD (.tuple (linesD pl ps)) = .good pl (ps.map sgP) from rdA]
  intro G9 p2 ps2 s9 ep sg2 gt2
  have eps2 : ps = ps2 := sgT_inj (congrArg PyData.tuple ep)
  subst eps2
  clear ep gt2
  have s79 := s8.trans s9
  obtain ⟨dx1, t1, dd1, sg1⟩ := id (sgG.same s9)
  obtain ⟨dx2, t2, dd2, sg2'⟩ := id sg2
  have es : (decide (pl = pl) && (sgT ps).eqv (sgT ps)) = true := by
    rw [decide_eq_true rfl, PySem.SeqAt.eqv_refl _ (sgT_lay gt)]
    rfl
  walk_at "go"
  refine i_eqOO sg2'.ob sg1.ob ⟨_, _, rfl, p2, pl, ps, rfl, sg2, gt, .inl ⟨p, pl, ps, rfl, ⟨dx1, t1, dd1, sg1⟩, gt, _, rfl, ?_⟩⟩
  rw [es]
  walk_at "go"
  refine i_reprA (d := .bool true) (.bl true) (Rp.bool (m := 1) true) (by decide) rfl (by decide) ?_
  walk_at "go"
  rw [show (PyData.bool true).shown = ⟨([84, 114, 117, 101] : List Nat).toArray⟩ by decide +kernel]
  refine i_ne_same ?_
  walk_at "go"
  refine i_fld sg2'.ob T.cl_Signals T.na_Signals_plain (SF_pl ..) ?_
  walk_at "go"
  refine i_fld sg2'.ob T.cl_Signals T.na_Signals_signals (SF_si ..) ?_
  walk_at "go"
  refine i_new (by show 2 ≤ 100000; omega) fun p3 np3 => ?_
  have plc : ∀ c ∈ pl, c < 128 := fun c hc => (sg_small c (rnd.2.2 c hc)).1
  have shP := (shw_leaf (ds := [dS pl, sgT ps]) (fun d hd => by
    simp only [List.mem_cons, List.not_mem_nil, or_false] at hd
    rcases hd with rfl | rfl
    · exact lf_str (by omega) plc
    · exact lf_sgs gt) (by show 2 ≤ 4; decide)).1
  walk_at "go"
  refine i_reprA (d := .list [dS pl, sgT ps]) (.lst upd_same (by show 2 ≤ 10000; decide) (.cons (.str _ (by omega)) (.one (sg2'.sg.same (same_upd np3))))) shP.1 (by decide) shP.2.1 (by have := shP.2.2; omega) ?_
  have s10 : Same G7 (upd G9 p3 (.lst [S pl, .ref t2])) := s79.trans (same_upd np3)
  generalize upd G9 p3 (.lst [S pl, .ref t2]) = G10 at *
  clear sg2 sg2' sg1 sgG s79 s9 s8 aT np3
  have d10 := d7.same s10
  replace eb := x7.aa _ _ eb
  replace pr : Prs A7 xs ps := pr.same x7.aa
  replace sgA := sgA.same x7.aa
  replace al6 := al6.same x7.aa
  replace cel := x7.aa.seq cel
  clear s10 x7 d6 d7 d8
  walk_at "go"
  refine i_tuple_lst (.inl (.inl (d10.old eb))) fun tl2 nt2 => ?_
  have d11 := d10.skip (o := .tup xs) nt2
  have aP : At (upd G10 tl2 (.tup xs)) (.ref tl2) (sgT ps) := At.mkTup upd_same ((pr.same d10.1).same (same_upd nt2)) (by rw [List.length_map]; omega)
  generalize upd G10 tl2 (.tup xs) = G11 at *
  walk_at "go"
  refine i_new (by show 2 ≤ 100000; omega) fun p4 np4 => ?_
  walk_at "go"
  refine i_reprA (d := .list [dS pl, sgT ps]) (.lst upd_same (by show 2 ≤ 10000; decide) (.cons (.str _ (by omega)) (.one (aP.same (same_upd np4))))) shP.1 (by decide) shP.2.1 (by have := shP.2.2; omega) ?_
  refine i_ne_same ?_
  have d12 := d11.skip (o := .lst [S pl, .ref tl2]) np4
  generalize upd G11 p4 (.lst [S pl, .ref tl2]) = G12 at *
  clear d10 d11 aP np4 nt2
  walk_at "go"
  refine i_sp0 fun G13 tt s13 ntt ett => ?_
  walk_at "go"
  refine dk_put ett (by rw [tab_len]; decide) ?_
  rw [ptT]
  have s14 : Same G12 (upd G13 tt (.dK (tabK t))) := Same.upd s13 ntt
  obtain ⟨A14, sA14, et, d14⟩ := d12.learn s14 ntt upd_same
  generalize upd G13 tt (.dK (tabK t)) = G14 at *
  replace eb := sA14 _ _ eb
  replace sgA := sgA.same sA14
  replace al6 := al6.same sA14
  replace av := av.same sA14
  replace cel := sA14.seq cel
  clear pr d12 s13 ntt ett s14 sA14
  walk_at "go"
  obtain ⟨gd1, gd2, gd3⟩ := gds_ok okT
  refine c_keysF (fun i => (t.getD i ([], none)).2.isSome) (fun i => S (t.getD i ([], none)).1) (d14.old et) (fun G1 R k => by walk_at "go"; exact k) (by rw [tab_len]; have := okT.ln; omega) (fun _ => rfl) (fun i k y G1 od hk hf QB kk => ?_) (fun i k y G1 od hk hf hfi QV kk => ?_) (fun L5 nL5 => ?_)
  · obtain ⟨e, he, ek⟩ : ∃ e, t[i]? = some e ∧ (kS e.1, oS e.2) = (k, y) := by
      unfold tabK at hk
      rw [List.getElem?_map] at hk
      exact Option.map_eq_some_iff.mp hk
    have eg : t.getD i ([], none) = e := by rw [List.getD_eq_getElem?_getD, he]; rfl
    rw [eg] at kk
    cases ek
    show (_ : TT) [some (.ref d.a), some (S pl), some (.ref b), some (.ref p), some (S (fC pl)), some (.ref L3), some v6, some (.ref p2), some (.ref tt), none, none, none, none, none, none, some (S e.1)] G1 QB
    walk_at "go"
    refine dk_getR (v := oS e.2) (.inr ⟨od, hf⟩) (by rw [tab_val, look_mem' okT.nd (List.mem_of_getElem? he)]; rfl) ?_
    cases eo : e.2 with
    | none =>
      rw [eo] at kk
      rw [show oS none = V.non from rfl]
      walk_at "go"
      exact kk
    | some r =>
      rw [eo] at kk
      rw [show oS (some r) = S r from rfl]
      walk_at "go"
      exact kk
  · obtain ⟨e, he, ek⟩ : ∃ e, t[i]? = some e ∧ (kS e.1, oS e.2) = (k, y) := by
      unfold tabK at hk
      rw [List.getElem?_map] at hk
      exact Option.map_eq_some_iff.mp hk
    have eg : t.getD i ([], none) = e := by rw [List.getD_eq_getElem?_getD, he]; rfl
    rw [eg] at kk
    cases ek
    show (_ : TE) [some (.ref d.a), some (S pl), some (.ref b), some (.ref p), some (S (fC pl)), some (.ref L3), some v6, some (.ref p2), some (.ref tt), none, none, none, none, none, none, some (S e.1)] G1 QV
    walk_at "go"
    exact kk
  rw [tab_len, kept_gds]
  have d15 := d14.skip (o := .lst ((gds t).map S)) nL5
  have eL5 : (upd G14 L5 (.lst ((gds t).map S))) L5 = some (.lst ((gds t).map S)) := upd_same
  generalize upd G14 L5 (.lst ((gds t).map S)) = G15 at *
  walk_at "go"
  refine i_sortedS (.inl (.inl eL5)) (by omega) fun zs p5 hz _ np5 => ?_
  obtain ⟨A16, s16, ez, d16⟩ := d15.step (.lst (zs.map S)) np5
  generalize upd G15 p5 (.lst (zs.map S)) = G16 at *
  have zl : zs.length = (gds t).length := hz.length_eq
  have zw : ∀ w ∈ zs, Wd t w := fun w h => wd_key okT (gd1 w (hz.mem_iff.mp h))
  replace eb := s16 _ _ eb
  replace sgA := sgA.same s16
  replace al6 := al6.same s16
  replace av := av.same s16
  replace et := s16 _ _ et
  replace cel := s16.seq cel
  clear d14 d15 eL5 nL5 np5 s16 hz gd1
  -- the first line
  have n16 : A16 L3 = none := d16.2.2 L3 (by rw [eL3]; simp)
  walk_at "go"
  subst hf1
  obtain ⟨_, d17⟩ := d16.show (show noF L3 = none from rfl)
  clear d16 eL3
  have celF : Cel K d noF A16 := by
    unfold Cel
    rw [join_noF]
    exact cel
  clear cel
  have sT : ∀ {o : HO}, Same A16 (upd A16 L3 o) := same_upd n16
  have ix0 : ixN ys.length 0 = some 0 := by
    unfold ixN
    rw [if_pos (by decide), if_pos (by omega)]
    rfl
  have first : ∀ {w : List Nat} {H : Hp} {o : HO} {R : Hp → Prop}, Wd t w → D2 K d noF (upd A16 L3 (.lst ys)) H → (∀ A xs' es H', Same A16 A → D2 K d noF A H' → A L3 = some (.lst xs') → AtAll A xs' es → es.length ≤ 5 → (∀ e ∈ es, LnM t 3 e) → R H') → R (upd H L3 (.lst (ys.set 0 (S (cRnd ++ [32] ++ w))))) := fun {w H o R} hw dd k => by
    refine k _ _ ((linesD pl ps).set 0 (dS (TL.joinL [32] [cRnd, w]))) _ sT (dd.put (o' := .lst (ys.set 0 (S (cRnd ++ [32] ++ w)))) celF n16) upd_same ((atAll_set al6 (show At A16 (S (cRnd ++ [32] ++ w)) (dS (TL.joinL [32] [cRnd, w])) from ?_) 0).same sT) (by rw [List.length_set]; omega) fun e he => ?_
    · rw [show cRnd ++ [32] ++ w = TL.joinL [32] [cRnd, w] by rw [List.append_assoc]; rfl]
      have := hw.1.1
      exact .str _ (by show (cRnd ++ ([32] ++ w)).length ≤ 10000; simp only [List.length_append, List.length_cons, List.length_nil]; omega)
    · rcases mem_set he with he | he
      · exact lnA e he
      · rw [he]; exact rnd_ln okT hw (by decide)
  refine i_cut (fun σ G => ∃ A xs' es, σ = [some (.ref d.a), some (S pl), some (.ref b), some (.ref p), some (S (fC pl)), some (.ref L3), some v6, some (.ref p2), some (.ref tt), some (.ref p5), none, none, none, none, none, none] ∧ Same A16 A ∧ D2 K d noF A G ∧ A L3 = some (.lst xs') ∧ AtAll A xs' es ∧ es.length ≤ 5 ∧ ∀ e ∈ es, LnM t 3 e) ?_ ?_
  · walk_at "go"
    refine pick2 d17 (by decide) fun k1 G17 d18 b1 => ?_
    walk_at "go"
    refine i_dec (fun z1 => ?_) (fun z1 => ?_)
    · walk_at "go"
      refine i_len_lst (.inl (.inl (d18.old (sT _ _ ez)))) ?_
      rw [List.length_map]
      walk_at "go"
      refine pick2 d18 (by omega) fun jj G18 d19 bj => ?_
      obtain ⟨j, rfl, hj⟩ := btw_nat (k := zs.length) bj (by omega)
      obtain ⟨w, hw1, wd1⟩ := ix_word zw hj
      have w60 := wd1.1.1
      refine i_ix_lst (.inl (.inl (d19.old (sT _ _ ez)))) (atI_nat hw1) ?_
      walk_at "go"
      refine i_setL 0 d19.lst ix0 rfl ?_
      exact first (o := .own L3) wd1 d19 fun A xs' es H' a1 a2 a3 a4 a5 a6 => ⟨A, xs', es, rfl, a1, a2, a3, a4, a5, a6⟩
    · walk_at "go"
      refine pick2 d18 (by decide) fun k2 G18 d19 b2 => ?_
      walk_at "go"
      refine i_dec (fun z2 => ?_) (fun z2 => ?_)
      · walk_at "go"
        refine i_setL 0 d19.lst ix0 rfl ?_
        exact first (o := .own L3) (wd_row okT (isRw_iff.mpr rnd)) d19 fun A xs' es H' a1 a2 a3 a4 a5 a6 => ⟨A, xs', es, rfl, a1, a2, a3, a4, a5, a6⟩
      · walk_at "go"
        exact ⟨_, ys, _, rfl, sT, d19, upd_same, al6.same sT, by omega, lnA⟩
  clear first d17 celF ix0 ez zw zl
  rintro σ G17 ⟨A17, xs', es, rfl, s17, d18, e18, a18, l18, g18⟩
  refine i_cut (fun σ G => ∃ A r v10 xs' es, σ = [some (.ref d.a), some (S pl), some (.ref b), some (.ref p), some (S (fC pl)), some (.ref r), some v6, some (.ref p2), some (.ref tt), some (.ref p5), v10, none, none, none, none, none] ∧ Same A16 A ∧ D2 K d noF A G ∧ A r = some (.lst xs') ∧ AtAll A xs' es ∧ es.length ≤ 17 ∧ ∀ e ∈ es, LnM t 6 e) ?_ ?_
  · walk_at "go"
    refine pick2 d18 (by decide) fun k1 G18 d19 b1 => ?_
    walk_at "go"
    refine i_dec (fun z1 => ?_) (fun z1 => ?_)
    · walk_at "go"
      refine i_forR ?_
      walk_at "go"
      refine i_new (by show 5 ≤ 100000; omega) fun L6 nL6 => ?_
      obtain ⟨A20, s20, e20, d20⟩ := d19.step (.lst [.int 1, .int 1, .int 1, .int 2, .int 3]) nL6
      generalize upd G18 L6 (.lst [.int 1, .int 1, .int 1, .int 2, .int 3]) = G20 at *
      walk_at "go"
      refine pick2 d20 (by decide) fun jj G21 d21 bj => ?_
      obtain ⟨j, rfl, hj⟩ := btw_nat (k := 5) bj (by decide)
      obtain ⟨c, hc, hc2⟩ : ∃ c : Nat, c ≤ 3 ∧ ([.int 1, .int 1, .int 1, .int 2, .int 3] : List V)[j]? = some (.int (c : Int)) := by
        match j, hj with
        | 0, _ => exact ⟨1, by decide, rfl⟩
        | 1, _ => exact ⟨1, by decide, rfl⟩
        | 2, _ => exact ⟨1, by decide, rfl⟩
        | 3, _ => exact ⟨2, by decide, rfl⟩
        | 4, _ => exact ⟨3, by decide, rfl⟩
      refine i_ix_lst (.inl (.inl (d21.old e20))) (atI_nat hc2) ?_
      walk_at "go"
      refine i_forR3 c (by omega) (fun i σ G => ∃ A r v10 xs' es, σ = [some (.ref d.a), some (S pl), some (.ref b), some (.ref p), some (S (fC pl)), some (.ref r), some v6, some (.ref p2), some (.ref tt), some (.ref p5), v10, none, none, none, none, none] ∧ Same A16 A ∧ D2 K d noF A G ∧ A r = some (.lst xs') ∧ AtAll A xs' es ∧ es.length ≤ 5 + 4 * i ∧ ∀ e ∈ es, LnM t (3 + i) e)
        ⟨A20, L3, none, xs', es, rfl, s17.trans s20, d21, s20 _ _ e18, a18.same s20, l18, g18⟩ ?_ ?_
      · rintro i σ G hi ⟨A, r, v10, xs2, es2, rfl, sA, dd, er, ar, lr, gr2⟩
        walk_at "go"
        refine ⟨A, d, noF, t, tt, r, xs2, es2, 3 + i, rfl, rfl, rfl, dd, sA _ _ et, okT, er, ar, by omega, gr2, by omega, by omega, fun A' H' r' ys' es' s' d' e' al' l' g' => ?_⟩
        walk_at "go"
        exact ⟨A', r', _, ys', es', rfl, sA.trans s', d', e', al', by omega, fun e he => (g' e he).up (by omega)⟩
      · rintro σ G ⟨A, r, v10, xs2, es2, rfl, sA, dd, er, ar, lr, gr2⟩
        exact ⟨A, r, v10, xs2, es2, rfl, sA, dd, er, ar, by omega, fun e he => (gr2 e he).up (by omega)⟩
    · walk_at "go"
      exact ⟨A17, L3, none, xs', es, rfl, s17, d19, e18, a18, by omega, fun e he => (g18 e he).up (by omega)⟩
  clear d18 e18 a18 l18 g18 s17 es xs' A17 G17
  rintro σ G17 ⟨A17, r, v10, xs', es, rfl, s17, d18, e18, a18, l18, g18⟩
  have xl18 := a18.len
  walk_at "go"
  refine pick2 d18 (by decide) fun kd G18 d19 b1 => ?_
  walk_at "go"
  refine ⟨r, xs', rfl, .inl (.inl (.inl (d19.old e18))), fun p6 np6 => ?_⟩
  obtain ⟨A20, s20, e20, d20⟩ := d19.step (.lst xs') np6
  generalize upd G18 p6 (.lst xs') = G20 at *
  have a20 := a18.same s20
  have s1720 := s17.trans s20
  have er20 := s20 _ _ e18
  clear d18 d19 a18 e18 s17 s20
  obtain ⟨shL, shU⟩ := lns_shw g18 (by decide) (by omega)
  walk_at "go"
  refine i_cut (fun σ G => ∃ A D v12, σ = [some (.ref d.a), some (S pl), some (.ref b), some (.ref p), some (S (fC pl)), some (.ref r), some v6, some (.ref p2), some (.ref tt), some (.ref p5), v10, some (.int kd), some v12, none, none, none] ∧ Same A16 A ∧ D2 K d noF A G ∧ At A v12 D ∧ (∀ es, seqD D = some es → es.length ≤ 17 ∧ ∀ e ∈ es, LnM t 6 e) ∧ Rp 20000 D ∧ flatL D ∧ D.depth ≤ 5) ?_ ?_
  · walk_at "go"
    refine i_dec (fun z1 => ?_) (fun z1 => ?_)
    · walk_at "go"
      refine i_dnewK fun D1 nD1 => ?_
      obtain ⟨A21, s21, e21, d21⟩ := d20.step (.dK []) nD1
      generalize upd G20 D1 (.dK []) = G21 at *
      walk_at "go"
      refine i_new (by show 4 ≤ 100000; omega) fun L7 nL7 => ?_
      obtain ⟨A22, s22, e22, d22⟩ := d21.step (.lst [.non, .int 7, S [114, 111, 117, 110, 100, 32, 119], .ref D1]) nL7
      generalize upd G21 L7 (.lst [.non, .int 7, S [114, 111, 117, 110, 100, 32, 119], .ref D1]) = G22 at *
      walk_at "go"
      refine pick2 d22 (by decide) fun jj G23 d23 bj => ?_
      obtain ⟨j, rfl, hj⟩ := btw_nat (k := 4) bj (by decide)
      obtain ⟨v, D, hv, av, hs, hp, hf, hd⟩ : ∃ v D, ([.non, .int 7, S [114, 111, 117, 110, 100, 32, 119], .ref D1] : List V)[j]? = some v ∧ At A22 v D ∧ seqD D = none ∧ Rp 20000 D ∧ flatL D ∧ D.depth ≤ 5 := by
        match j, hj with
        | 0, _ => exact ⟨_, _, rfl, .non, rfl, Rp.non, .inl (.inl rfl), by decide⟩
        | 1, _ => exact ⟨_, _, rfl, .int 7, rfl, Rp.int (by decide), .inl (.inl rfl), by decide⟩
        | 2, _ => exact ⟨_, _, rfl, .str _ (by decide), rfl, Rp.str (by decide) (by decide), .inl (.inl rfl), by decide⟩
        | 3, _ => exact ⟨_, _, rfl, .dct (s22 _ _ e21), rfl, rp_of (by decide +kernel), .inl (.inr rfl), by decide⟩
      refine i_ix_lst (.inl (.inl (d23.old e22))) (atI_nat hv) ?_
      walk_at "go"
      exact ⟨A22, D, v, rfl, (s1720.trans s21).trans s22, d23, av, fun es e => absurd (hs.symm.trans e) nofun, hp, hf, hd⟩
    walk_at "go"
    refine i_dec (fun z2 => ?_) (fun z2 => ?_)
    · walk_at "go"
      refine i_new (by show 0 ≤ 100000; omega) fun L7 nL7 => ?_
      obtain ⟨A21, s21, e21, d21⟩ := d20.step (.lst []) nL7
      walk_at "go"
      exact ⟨A21, .list [], _, rfl, s1720.trans s21, d21, .lst e21 (by decide) .nil, fun es e => by cases e; exact ⟨by decide, fun e he => absurd he (by simp)⟩, rp_of (by decide +kernel), .inl (.inl rfl), by decide⟩
    walk_at "go"
    refine i_dec (fun z3 => ?_) (fun z3 => ?_)
    · walk_at "go"
      refine i_tuple_lst (.inl (.inl (d20.old er20))) fun tl3 nt3 => ?_
      obtain ⟨A21, s21, e21, d21⟩ := d20.step (.tup xs') nt3
      walk_at "go"
      exact ⟨A21, .tuple es, _, rfl, s1720.trans s21, d21, At.mkTup e21 (a20.same s21) (by omega), fun es' e => by cases e; exact ⟨l18, g18⟩, shU.1, .inl (.inl shU.2.1), shU.2.2⟩
    · walk_at "go"
      exact ⟨A20, .list es, _, rfl, s1720, d20, At.mkLst e20 a20 (by omega), fun es' e => by cases e; exact ⟨l18, g18⟩, shL.1, .inl (.inl shL.2.1), shL.2.2⟩
  clear d20 e20 a20 er20 s1720 shL shU xl18 g18 l18 es xs' A20 G20 A17 G17
  rintro σ G20 ⟨A20, D, v12, rfl, s20, d20, aD, hD, rpD, flD, dpD⟩
  have shR : Shw (resT (resD D)) := by
    cases eD : seqD D with
    | none =>
      have : resD D = .line 0 0 := by
        cases D with
        | list _ => cases eD
        | tuple _ => cases eD
        | _ => rfl
      rw [this]
      exact res_shw (ds := []) okT (m := 6) (fun e he => absurd he (by simp)) (by decide) (by decide)
    | some es =>
      obtain ⟨l17, g17⟩ := hD es eD
      have : resD D = resA es := by
        cases D with
        | list _ => cases eD; rfl
        | tuple _ => cases eD; rfl
        | _ => cases eD
      rw [this]
      exact res_shw okT g17 (by decide) (by omega)
  walk_at "go"
  refine i_reprB (aD.same d20.1) rpD (by decide) flD (by omega) ?_
  walk_at "go"
  refine ⟨D, aD.same d20.1, fun es e => ?_, fun G21 w1 s21 aw1 => ?_⟩
  · have eD : seqD D = some es := by cases D <;> exact e
    obtain ⟨l17, g17⟩ := hD es eD
    refine ⟨fun e he => (g17 e he).short (by decide), fun e pl' h1 h2 => ?_⟩
    obtain ⟨w0, _, hw0, _, _, l01, er0⟩ := rnd_ws (g17 e (List.mem_of_mem_head? h1)) h2
    exact rd_rnd okT (hw0 _ (by rw [List.getD_eq_getElem?_getD, List.getElem?_eq_getElem l01]; exact List.getElem_mem _)) er0
  walk_at "go"
  refine i_reprA aw1 shR.1 (by decide) shR.2.1 (by have := shR.2.2; omega) ?_
  walk_at "go"
  have d21 := d20.same s21
  refine ⟨D, t, tt, rfl, aD.same d21.1, d21.1 _ _ (s20 _ _ et), okT, fun es e => ⟨by have := (hD es e).1; omega, fun x hx => ((hD es e).2 x hx).up (by decide)⟩, fun G22 w2 s22 aw2 => ?_⟩
  have d22 := d21.same s22
  walk_at "go"
  refine i_reprA aw2 shR.1 (by decide) shR.2.1 (by have := shR.2.2; omega) ?_
  refine i_ne_same ?_
  walk_at "go"
  refine i_reprB (aD.same d22.1) rpD (by decide) flD (by omega) ?_
  walk_at "go"
  refine i_ne_same ?_
  walk_at "go"
  refine ⟨A20, p, pl, ps, d22.1, rfl, (sgA.same s20).same d22.1, rnd, fun A23 G23 w3 x23 aw3 => ?_⟩
  walk_at "go"
  refine i_reprA (aw3.same x23.ag) shT.1 (by decide) shT.2.1 (by have := shT.2.2; omega) ?_
  walk_at "go"
  refine i_reprA (((av.same s20).same d22.1).same x23.gg) shT.1 (by decide) shT.2.1 (by have := shT.2.2; omega) ?_
  refine i_eq_same ?_
  exact q _
def p_law (K : PySem.W.Frag) : P1 := fun x H Q _ => ∃ (a : Addr) (ns : List Int), x = .ref a ∧ SqL K H a (ns.map V.int) ∧ ns.length ≤ 63 ∧ ∀ H', Q (.bl true) H'
theorem ok_law_at {f : Addr} {fd : FuncData} (F : Fun K "law" "law" s_law f fd) (T : Txt K mg C_GlimError C_BadRound C_BadText C_BadLine C_BadSignal C_BadMessage C_TooLong C_Lines C_Signals C_dt_Signals___init__) : GOk P w K mg base CX0 30 f fd ["_law_script"] (sp1 (p_law K)) := by
  refine FnGOk.mk (k := 29) F sc_law len1 fun cdv A outer s H vs Q E hgu hr h => ?_
  obtain ⟨x, rfl, h⟩ := h
  refine ⟨_, (pss_one (ps_try_only rfl rfl ⟨rfl, by decide, Or.inl T.c_GlimError⟩ takes0 (fun W pn xe tk _ => (pss_one (ps_ret (pe_g (ok_L_asked (K := K) T) hgu (hr.mono (by decide)) pass0 (pa_cons (pe_f (ok_L_draw (K := K) T) (hr.mono (by decide)) pass0 (pa_cons (pv 0) pa_nil)) pa_nil))))) (fun a oe cls d pn hz hf => (pss_one (ps_ret pe_bl))))), ?_⟩
  show (_ : TS) { nx := fun _ H' => Q .non H', rt := Q } [some x] H
  obtain ⟨a, ns, rfl, hS, hl, q⟩ := h
  walk_at "go"
  refine ⟨a, ns, rfl, hS, by omega, fun H0 d H1 s0 dr => ?_⟩
  walk_at "go"
  exact ⟨H0, d, rfl, dr, fun H' => q H'⟩
end
theorem all_mk {l : PySem.W.OpenLaw} {w : World} {K : PySem.W.Frag} {h : Heap} {mg : Str → Option Value} {fa C_GlimError C_BadRound C_BadText C_BadLine C_BadSignal C_BadMessage C_TooLong C_Lines C_Signals C_dt_Signals___init__ f1 f2 f3 f4 f5 f6 f7 f8 f9 f10 f11 f12 f13 f14 f15 f16 f17 f18 f19 f20 f21 f22 f23 f24 f25 f26 f27 f28 f29 f30 f31 f32 f33 f34 f35 f36 f37 f38 f39 f40 f41 f42 f43 f44 f45 f46 f47 f48 f49 f50 f51 f52 f53 f54 f55 f56 f57 f58 f59 f60 f61 f62 f63 f64 f65 f66 f67 f68 f69 f70 : Addr} (X : K.In h) (G : h.Ns mainGlobals mg) (hfa : mg "law" = some (.ref fa))
    {od1 an1 od2 an2 od3 an3 od4 an4 od5 an5 od6 an6 od7 an7 od8 an8 od9 an9 od10 an10 od11 an11 od12 an12 od13 an13 od14 an14 od15 an15 od16 an16 od17 an17 od18 an18 od19 an19 od20 an20 od21 an21 od22 an22 od23 an23 od24 an24 od25 an25 od26 an26 od27 an27 od28 an28 od29 an29 od30 an30 od31 an31 od32 an32 od33 an33 od34 an34 od35 an35 od36 an36 od37 an37 od38 an38 od39 an39 od40 an40 od41 an41 od42 an42 od43 an43 od44 an44 od45 an45 od46 an46 od47 an47 od48 an48 od49 an49 od50 an50 od51 an51 od52 an52 od53 an53 od54 an54 od55 an55 od56 an56 od57 an57 od58 an58 od59 an59 od60 an60 od61 an61 od62 an62 od63 an63 od64 an64 od65 an65 od66 an66 od67 an67 od68 an68 od69 an69 od70 an70 : Option Addr} {sl1 sl2 sl3 sl4 sl5 sl6 sl7 sl8 sl9 sl10 sl11 sl12 sl13 sl14 sl15 sl16 sl17 sl18 sl19 sl20 sl21 sl22 sl23 sl24 sl25 sl26 sl27 sl28 sl29 sl30 sl31 sl32 sl33 sl34 sl35 sl36 sl37 sl38 sl39 sl40 sl41 sl42 sl43 sl44 sl45 sl46 sl47 sl48 sl49 sl50 sl51 sl52 sl53 sl54 sl55 sl56 sl57 sl58 sl59 sl60 sl61 sl62 sl63 sl64 sl65 sl66 sl67 sl68 sl69 sl70 : Array (Option Value)} {oc1 kV1 dc1 pm1 cd1 ct1 oc2 kV2 dc2 pm2 cd2 ct2 oc3 kV3 dc3 pm3 cd3 ct3 oc4 kV4 dc4 pm4 cd4 ct4 oc5 kV5 dc5 pm5 cd5 ct5 oc6 kV6 dc6 pm6 cd6 ct6 oc7 kV7 dc7 pm7 cd7 ct7 oc8 kV8 dc8 pm8 cd8 ct8 oc9 kV9 dc9 pm9 cd9 ct9 oc10 kV10 dc10 pm10 cd10 ct10 oc11 kV11 dc11 pm11 cd11 ct11 oc12 kV12 dc12 pm12 cd12 ct12 oc13 kV13 dc13 pm13 cd13 ct13 oc14 kV14 dc14 pm14 cd14 ct14 oc15 kV15 dc15 pm15 cd15 ct15 oc16 kV16 dc16 pm16 cd16 ct16 oc17 kV17 dc17 pm17 cd17 ct17 oc18 kV18 dc18 pm18 cd18 ct18 oc19 kV19 dc19 pm19 cd19 ct19 oc20 kV20 dc20 pm20 cd20 ct20 oc21 kV21 dc21 pm21 cd21 ct21 oc22 kV22 dc22 pm22 cd22 ct22 oc23 kV23 dc23 pm23 cd23 ct23 oc24 kV24 dc24 pm24 cd24 ct24 oc25 kV25 dc25 pm25 cd25 ct25 oc26 kV26 dc26 pm26 cd26 ct26 oc27 kV27 dc27 pm27 cd27 ct27 oc28 kV28 dc28 pm28 cd28 ct28 oc29 kV29 dc29 pm29 cd29 ct29 oc30 kV30 dc30 pm30 cd30 ct30 oc31 kV31 dc31 pm31 cd31 ct31 oc32 kV32 dc32 pm32 cd32 ct32 oc33 kV33 dc33 pm33 cd33 ct33 oc34 kV34 dc34 pm34 cd34 ct34 oc35 kV35 dc35 pm35 cd35 ct35 oc36 kV36 dc36 pm36 cd36 ct36 oc37 kV37 dc37 pm37 cd37 ct37 oc38 kV38 dc38 pm38 cd38 ct38 oc39 kV39 dc39 pm39 cd39 ct39 oc40 kV40 dc40 pm40 cd40 ct40 oc41 kV41 dc41 pm41 cd41 ct41 oc42 kV42 dc42 pm42 cd42 ct42 oc43 kV43 dc43 pm43 cd43 ct43 oc44 kV44 dc44 pm44 cd44 ct44 oc45 kV45 dc45 pm45 cd45 ct45 oc46 kV46 dc46 pm46 cd46 ct46 oc47 kV47 dc47 pm47 cd47 ct47 oc48 kV48 dc48 pm48 cd48 ct48 oc49 kV49 dc49 pm49 cd49 ct49 oc50 kV50 dc50 pm50 cd50 ct50 oc51 kV51 dc51 pm51 cd51 ct51 oc52 kV52 dc52 pm52 cd52 ct52 oc53 kV53 dc53 pm53 cd53 ct53 oc54 kV54 dc54 pm54 cd54 ct54 oc55 kV55 dc55 pm55 cd55 ct55 oc56 kV56 dc56 pm56 cd56 ct56 oc57 kV57 dc57 pm57 cd57 ct57 oc58 kV58 dc58 pm58 cd58 ct58 oc59 kV59 dc59 pm59 cd59 ct59 oc60 kV60 dc60 pm60 cd60 ct60 oc61 kV61 dc61 pm61 cd61 ct61 oc62 kV62 dc62 pm62 cd62 ct62 oc63 kV63 dc63 pm63 cd63 ct63 oc64 kV64 dc64 pm64 cd64 ct64 oc65 kV65 dc65 pm65 cd65 ct65 oc66 kV66 dc66 pm66 cd66 ct66 oc67 kV67 dc67 pm67 cd67 ct67 oc68 kV68 dc68 pm68 cd68 ct68 oc69 kV69 dc69 pm69 cd69 ct69 oc70 kV70 dc70 pm70 cd70 ct70 : Value}
    {nm_TooLong q_TooLong : Str} {N_TooLong : Addr} {bs_TooLong bm_TooLong : List Value} {sn_TooLong : List Str} {sub_TooLong : List Value} {ab_TooLong : Bool} {col_TooLong : Option Bool} {dd_TooLong : Option Addr} {m0_TooLong m1_TooLong m2_TooLong m3_TooLong m5_TooLong : Option Value}
    {nm_BadMessage q_BadMessage : Str} {N_BadMessage : Addr} {bs_BadMessage bm_BadMessage : List Value} {sn_BadMessage : List Str} {sub_BadMessage : List Value} {ab_BadMessage : Bool} {col_BadMessage : Option Bool} {dd_BadMessage : Option Addr} {m0_BadMessage m1_BadMessage m2_BadMessage m3_BadMessage m5_BadMessage : Option Value}
    {nm_BadSignal q_BadSignal : Str} {N_BadSignal : Addr} {bs_BadSignal bm_BadSignal : List Value} {sn_BadSignal : List Str} {sub_BadSignal : List Value} {ab_BadSignal : Bool} {col_BadSignal : Option Bool} {dd_BadSignal : Option Addr} {m0_BadSignal m1_BadSignal m2_BadSignal m3_BadSignal m5_BadSignal : Option Value}
    {nm_BadLine q_BadLine : Str} {N_BadLine : Addr} {bs_BadLine bm_BadLine : List Value} {sn_BadLine : List Str} {sub_BadLine : List Value} {ab_BadLine : Bool} {col_BadLine : Option Bool} {dd_BadLine : Option Addr} {m0_BadLine m1_BadLine m2_BadLine m3_BadLine m5_BadLine : Option Value}
    {nm_BadText q_BadText : Str} {N_BadText : Addr} {bs_BadText bm_BadText : List Value} {sn_BadText : List Str} {sub_BadText : List Value} {ab_BadText : Bool} {col_BadText : Option Bool} {dd_BadText : Option Addr} {m0_BadText m1_BadText m2_BadText m3_BadText m5_BadText : Option Value}
    {nm_BadRound q_BadRound : Str} {N_BadRound : Addr} {bs_BadRound bm_BadRound : List Value} {sn_BadRound : List Str} {sub_BadRound : List Value} {ab_BadRound : Bool} {col_BadRound : Option Bool} {dd_BadRound : Option Addr} {m0_BadRound m1_BadRound m2_BadRound m3_BadRound m5_BadRound : Option Value}
    {t_SIGNS t_LETTERS t_MOST_LEVELS t_MOST_ROUND t_DIGITS t_MOST_OPEN t_PLAIN t_MOST_SIGNALS t_MOST_WORD t_MOST_PIECES : Tok}
    {dt_dt_Signals___init__ : Option Addr} {nt_dt_Signals___init__ : Nat} {st_dt_Signals___init__ : Array (Option Value)}
    {D37 : Addr} {oD37 : Value} {dD37 : Option Addr} {nD37 : Nat} {sD37 : Array (Option Value)}
    {D24 : Addr} {oD24 : Value} {dD24 : Option Addr} {nD24 : Nat} {sD24 : Array (Option Value)} {td24_0 : Tok}
    {D1 : Addr} {oD1 : Value} {dD1 : Option Addr} {nD1 : Nat} {sD1 : Array (Option Value)} {td1_0 : Tok}
    (a1 : PySem.W.nsIn K mainGlobals "deep" = some (some (.ref f1)))
    (l1 : K.lookup f1 = some ⟨oc1, od1, .func (PySem.W.fnOf "deep" "deep" (defArgs s_deep) (defBody s_deep) (defScope s_deep) (.ref D1) kV1 dc1 pm1 an1 cd1 ct1), sl1⟩)
    (c1 : PySem.W.codeIn K cd1 "deep" = true)
    (k1 : PySem.W.keepIn K (.ref f1) = true)
    (e1 : K.lookup D1 = some ⟨oD1, dD1, .seq #[.int (0) td1_0] nD1, sD1⟩)
    (a2 : PySem.W.nsIn K mainGlobals "wrong_sign" = some (some (.ref f2)))
    (l2 : K.lookup f2 = some ⟨oc2, od2, .func (PySem.W.fnOf "wrong_sign" "wrong_sign" (defArgs s_wrong_sign) (defBody s_wrong_sign) (defScope s_wrong_sign) .none kV2 dc2 pm2 an2 cd2 ct2), sl2⟩)
    (c2 : PySem.W.codeIn K cd2 "wrong_sign" = true)
    (k2 : PySem.W.keepIn K (.ref f2) = true)
    (a3 : PySem.W.nsIn K mainGlobals "is_row" = some (some (.ref f3)))
    (l3 : K.lookup f3 = some ⟨oc3, od3, .func (PySem.W.fnOf "is_row" "is_row" (defArgs s_is_row) (defBody s_is_row) (defScope s_is_row) .none kV3 dc3 pm3 an3 cd3 ct3), sl3⟩)
    (c3 : PySem.W.codeIn K cd3 "is_row" = true)
    (k3 : PySem.W.keepIn K (.ref f3) = true)
    (a4 : PySem.W.nsIn K mainGlobals "is_letter" = some (some (.ref f4)))
    (l4 : K.lookup f4 = some ⟨oc4, od4, .func (PySem.W.fnOf "is_letter" "is_letter" (defArgs s_is_letter) (defBody s_is_letter) (defScope s_is_letter) .none kV4 dc4 pm4 an4 cd4 ct4), sl4⟩)
    (c4 : PySem.W.codeIn K cd4 "is_letter" = true)
    (k4 : PySem.W.keepIn K (.ref f4) = true)
    (a5 : PySem.W.nsIn K mainGlobals "check_round" = some (some (.ref f5)))
    (l5 : K.lookup f5 = some ⟨oc5, od5, .func (PySem.W.fnOf "check_round" "check_round" (defArgs s_check_round) (defBody s_check_round) (defScope s_check_round) .none kV5 dc5 pm5 an5 cd5 ct5), sl5⟩)
    (c5 : PySem.W.codeIn K cd5 "check_round" = true)
    (k5 : PySem.W.keepIn K (.ref f5) = true)
    (a6 : PySem.W.nsIn K mainGlobals "shortlex" = some (some (.ref f6)))
    (l6 : K.lookup f6 = some ⟨oc6, od6, .func (PySem.W.fnOf "shortlex" "shortlex" (defArgs s_shortlex) (defBody s_shortlex) (defScope s_shortlex) .none kV6 dc6 pm6 an6 cd6 ct6), sl6⟩)
    (c6 : PySem.W.codeIn K cd6 "shortlex" = true)
    (k6 : PySem.W.keepIn K (.ref f6) = true)
    (a7 : PySem.W.nsIn K mainGlobals "least_text" = some (some (.ref f7)))
    (l7 : K.lookup f7 = some ⟨oc7, od7, .func (PySem.W.fnOf "least_text" "least_text" (defArgs s_least_text) (defBody s_least_text) (defScope s_least_text) .none kV7 dc7 pm7 an7 cd7 ct7), sl7⟩)
    (c7 : PySem.W.codeIn K cd7 "least_text" = true)
    (k7 : PySem.W.keepIn K (.ref f7) = true)
    (a8 : PySem.W.nsIn K mainGlobals "closed_text" = some (some (.ref f8)))
    (l8 : K.lookup f8 = some ⟨oc8, od8, .func (PySem.W.fnOf "closed_text" "closed_text" (defArgs s_closed_text) (defBody s_closed_text) (defScope s_closed_text) .none kV8 dc8 pm8 an8 cd8 ct8), sl8⟩)
    (c8 : PySem.W.codeIn K cd8 "closed_text" = true)
    (k8 : PySem.W.keepIn K (.ref f8) = true)
    (a9 : PySem.W.nsIn K mainGlobals "item_text" = some (some (.ref f9)))
    (l9 : K.lookup f9 = some ⟨oc9, od9, .func (PySem.W.fnOf "item_text" "item_text" (defArgs s_item_text) (defBody s_item_text) (defScope s_item_text) .none kV9 dc9 pm9 an9 cd9 ct9), sl9⟩)
    (c9 : PySem.W.codeIn K cd9 "item_text" = true)
    (k9 : PySem.W.keepIn K (.ref f9) = true)
    (a10 : PySem.W.nsIn K mainGlobals "items_text" = some (some (.ref f10)))
    (l10 : K.lookup f10 = some ⟨oc10, od10, .func (PySem.W.fnOf "items_text" "items_text" (defArgs s_items_text) (defBody s_items_text) (defScope s_items_text) .none kV10 dc10 pm10 an10 cd10 ct10), sl10⟩)
    (c10 : PySem.W.codeIn K cd10 "items_text" = true)
    (k10 : PySem.W.keepIn K (.ref f10) = true)
    (a11 : PySem.W.nsIn K mainGlobals "fold_round" = some (some (.ref f11)))
    (l11 : K.lookup f11 = some ⟨oc11, od11, .func (PySem.W.fnOf "fold_round" "fold_round" (defArgs s_fold_round) (defBody s_fold_round) (defScope s_fold_round) .none kV11 dc11 pm11 an11 cd11 ct11), sl11⟩)
    (c11 : PySem.W.codeIn K cd11 "fold_round" = true)
    (k11 : PySem.W.keepIn K (.ref f11) = true)
    (a12 : PySem.W.nsIn K mainGlobals "common_beats" = some (some (.ref f12)))
    (l12 : K.lookup f12 = some ⟨oc12, od12, .func (PySem.W.fnOf "common_beats" "common_beats" (defArgs s_common_beats) (defBody s_common_beats) (defScope s_common_beats) .none kV12 dc12 pm12 an12 cd12 ct12), sl12⟩)
    (c12 : PySem.W.codeIn K cd12 "common_beats" = true)
    (k12 : PySem.W.keepIn K (.ref f12) = true)
    (a13 : PySem.W.nsIn K mainGlobals "repeated" = some (some (.ref f13)))
    (l13 : K.lookup f13 = some ⟨oc13, od13, .func (PySem.W.fnOf "repeated" "repeated" (defArgs s_repeated) (defBody s_repeated) (defScope s_repeated) .none kV13 dc13 pm13 an13 cd13 ct13), sl13⟩)
    (c13 : PySem.W.codeIn K cd13 "repeated" = true)
    (k13 : PySem.W.keepIn K (.ref f13) = true)
    (a14 : PySem.W.nsIn K mainGlobals "put_behind" = some (some (.ref f14)))
    (l14 : K.lookup f14 = some ⟨oc14, od14, .func (PySem.W.fnOf "put_behind" "put_behind" (defArgs s_put_behind) (defBody s_put_behind) (defScope s_put_behind) .none kV14 dc14 pm14 an14 cd14 ct14), sl14⟩)
    (c14 : PySem.W.codeIn K cd14 "put_behind" = true)
    (k14 : PySem.W.keepIn K (.ref f14) = true)
    (a15 : PySem.W.nsIn K mainGlobals "first_lit" = some (some (.ref f15)))
    (l15 : K.lookup f15 = some ⟨oc15, od15, .func (PySem.W.fnOf "first_lit" "first_lit" (defArgs s_first_lit) (defBody s_first_lit) (defScope s_first_lit) .none kV15 dc15 pm15 an15 cd15 ct15), sl15⟩)
    (c15 : PySem.W.codeIn K cd15 "first_lit" = true)
    (k15 : PySem.W.keepIn K (.ref f15) = true)
    (a16 : PySem.W.nsIn K mainGlobals "shown_together" = some (some (.ref f16)))
    (l16 : K.lookup f16 = some ⟨oc16, od16, .func (PySem.W.fnOf "shown_together" "shown_together" (defArgs s_shown_together) (defBody s_shown_together) (defScope s_shown_together) .none kV16 dc16 pm16 an16 cd16 ct16), sl16⟩)
    (c16 : PySem.W.codeIn K cd16 "shown_together" = true)
    (k16 : PySem.W.keepIn K (.ref f16) = true)
    (a17 : PySem.W.nsIn K mainGlobals "behind_digits" = some (some (.ref f17)))
    (l17 : K.lookup f17 = some ⟨oc17, od17, .func (PySem.W.fnOf "behind_digits" "behind_digits" (defArgs s_behind_digits) (defBody s_behind_digits) (defScope s_behind_digits) .none kV17 dc17 pm17 an17 cd17 ct17), sl17⟩)
    (c17 : PySem.W.codeIn K cd17 "behind_digits" = true)
    (k17 : PySem.W.keepIn K (.ref f17) = true)
    (a18 : PySem.W.nsIn K mainGlobals "is_within" = some (some (.ref f18)))
    (l18 : K.lookup f18 = some ⟨oc18, od18, .func (PySem.W.fnOf "is_within" "is_within" (defArgs s_is_within) (defBody s_is_within) (defScope s_is_within) .none kV18 dc18 pm18 an18 cd18 ct18), sl18⟩)
    (c18 : PySem.W.codeIn K cd18 "is_within" = true)
    (k18 : PySem.W.keepIn K (.ref f18) = true)
    (a19 : PySem.W.nsIn K mainGlobals "read_item" = some (some (.ref f19)))
    (l19 : K.lookup f19 = some ⟨oc19, od19, .func (PySem.W.fnOf "read_item" "read_item" (defArgs s_read_item) (defBody s_read_item) (defScope s_read_item) .none kV19 dc19 pm19 an19 cd19 ct19), sl19⟩)
    (c19 : PySem.W.codeIn K cd19 "read_item" = true)
    (k19 : PySem.W.keepIn K (.ref f19) = true)
    (a20 : PySem.W.nsIn K mainGlobals "read_filled" = some (some (.ref f20)))
    (l20 : K.lookup f20 = some ⟨oc20, od20, .func (PySem.W.fnOf "read_filled" "read_filled" (defArgs s_read_filled) (defBody s_read_filled) (defScope s_read_filled) .none kV20 dc20 pm20 an20 cd20 ct20), sl20⟩)
    (c20 : PySem.W.codeIn K cd20 "read_filled" = true)
    (k20 : PySem.W.keepIn K (.ref f20) = true)
    (a21 : PySem.W.nsIn K mainGlobals "read_part" = some (some (.ref f21)))
    (l21 : K.lookup f21 = some ⟨oc21, od21, .func (PySem.W.fnOf "read_part" "read_part" (defArgs s_read_part) (defBody s_read_part) (defScope s_read_part) .none kV21 dc21 pm21 an21 cd21 ct21), sl21⟩)
    (c21 : PySem.W.codeIn K cd21 "read_part" = true)
    (k21 : PySem.W.keepIn K (.ref f21) = true)
    (a22 : PySem.W.nsIn K mainGlobals "read_parts" = some (some (.ref f22)))
    (l22 : K.lookup f22 = some ⟨oc22, od22, .func (PySem.W.fnOf "read_parts" "read_parts" (defArgs s_read_parts) (defBody s_read_parts) (defScope s_read_parts) .none kV22 dc22 pm22 an22 cd22 ct22), sl22⟩)
    (c22 : PySem.W.codeIn K cd22 "read_parts" = true)
    (k22 : PySem.W.keepIn K (.ref f22) = true)
    (a23 : PySem.W.nsIn K mainGlobals "read_round" = some (some (.ref f23)))
    (l23 : K.lookup f23 = some ⟨oc23, od23, .func (PySem.W.fnOf "read_round" "read_round" (defArgs s_read_round) (defBody s_read_round) (defScope s_read_round) .none kV23 dc23 pm23 an23 cd23 ct23), sl23⟩)
    (c23 : PySem.W.codeIn K cd23 "read_round" = true)
    (k23 : PySem.W.keepIn K (.ref f23) = true)
    (a24 : PySem.W.findIn K (.ref C_Lines) "__init__" = some (some (.ref f24)))
    (i24 : PySem.W.isFn K (.ref f24) = true)
    (l24 : K.lookup f24 = some ⟨oc24, od24, .func (PySem.W.fnOf "__init__" "Lines.__init__" (defArgs s_Lines___init__) (defBody s_Lines___init__) (defScope s_Lines___init__) (.ref D24) kV24 dc24 pm24 an24 cd24 ct24), sl24⟩)
    (c24 : PySem.W.codeIn K cd24 "Lines.__init__" = true)
    (k24 : PySem.W.keepIn K (.ref f24) = true)
    (e24 : K.lookup D24 = some ⟨oD24, dD24, .seq #[.int (0) td24_0] nD24, sD24⟩)
    (a25 : PySem.W.findIn K (.ref C_Lines) "is_over" = some (some (.ref f25)))
    (i25 : PySem.W.isFn K (.ref f25) = true)
    (l25 : K.lookup f25 = some ⟨oc25, od25, .func (PySem.W.fnOf "is_over" "Lines.is_over" (defArgs s_Lines_is_over) (defBody s_Lines_is_over) (defScope s_Lines_is_over) .none kV25 dc25 pm25 an25 cd25 ct25), sl25⟩)
    (c25 : PySem.W.codeIn K cd25 "Lines.is_over" = true)
    (k25 : PySem.W.keepIn K (.ref f25) = true)
    (a26 : PySem.W.findIn K (.ref C_Lines) "words" = some (some (.ref f26)))
    (i26 : PySem.W.isFn K (.ref f26) = true)
    (l26 : K.lookup f26 = some ⟨oc26, od26, .func (PySem.W.fnOf "words" "Lines.words" (defArgs s_Lines_words) (defBody s_Lines_words) (defScope s_Lines_words) .none kV26 dc26 pm26 an26 cd26 ct26), sl26⟩)
    (c26 : PySem.W.codeIn K cd26 "Lines.words" = true)
    (k26 : PySem.W.keepIn K (.ref f26) = true)
    (a27 : PySem.W.findIn K (.ref C_Lines) "word_at" = some (some (.ref f27)))
    (i27 : PySem.W.isFn K (.ref f27) = true)
    (l27 : K.lookup f27 = some ⟨oc27, od27, .func (PySem.W.fnOf "word_at" "Lines.word_at" (defArgs s_Lines_word_at) (defBody s_Lines_word_at) (defScope s_Lines_word_at) .none kV27 dc27 pm27 an27 cd27 ct27), sl27⟩)
    (c27 : PySem.W.codeIn K cd27 "Lines.word_at" = true)
    (k27 : PySem.W.keepIn K (.ref f27) = true)
    (a28 : PySem.W.findIn K (.ref C_Lines) "letter_at" = some (some (.ref f28)))
    (i28 : PySem.W.isFn K (.ref f28) = true)
    (l28 : K.lookup f28 = some ⟨oc28, od28, .func (PySem.W.fnOf "letter_at" "Lines.letter_at" (defArgs s_Lines_letter_at) (defBody s_Lines_letter_at) (defScope s_Lines_letter_at) .none kV28 dc28 pm28 an28 cd28 ct28), sl28⟩)
    (c28 : PySem.W.codeIn K cd28 "Lines.letter_at" = true)
    (k28 : PySem.W.keepIn K (.ref f28) = true)
    (a29 : PySem.W.findIn K (.ref C_Lines) "row_at" = some (some (.ref f29)))
    (i29 : PySem.W.isFn K (.ref f29) = true)
    (l29 : K.lookup f29 = some ⟨oc29, od29, .func (PySem.W.fnOf "row_at" "Lines.row_at" (defArgs s_Lines_row_at) (defBody s_Lines_row_at) (defScope s_Lines_row_at) .none kV29 dc29 pm29 an29 cd29 ct29), sl29⟩)
    (c29 : PySem.W.codeIn K cd29 "Lines.row_at" = true)
    (k29 : PySem.W.keepIn K (.ref f29) = true)
    (a30 : PySem.W.findIn K (.ref C_Lines) "round_at" = some (some (.ref f30)))
    (i30 : PySem.W.isFn K (.ref f30) = true)
    (l30 : K.lookup f30 = some ⟨oc30, od30, .func (PySem.W.fnOf "round_at" "Lines.round_at" (defArgs s_Lines_round_at) (defBody s_Lines_round_at) (defScope s_Lines_round_at) .none kV30 dc30 pm30 an30 cd30 ct30), sl30⟩)
    (c30 : PySem.W.codeIn K cd30 "Lines.round_at" = true)
    (k30 : PySem.W.keepIn K (.ref f30) = true)
    (a31 : PySem.W.findIn K (.ref C_Lines) "close_at" = some (some (.ref f31)))
    (i31 : PySem.W.isFn K (.ref f31) = true)
    (l31 : K.lookup f31 = some ⟨oc31, od31, .func (PySem.W.fnOf "close_at" "Lines.close_at" (defArgs s_Lines_close_at) (defBody s_Lines_close_at) (defScope s_Lines_close_at) .none kV31 dc31 pm31 an31 cd31 ct31), sl31⟩)
    (c31 : PySem.W.codeIn K cd31 "Lines.close_at" = true)
    (k31 : PySem.W.keepIn K (.ref f31) = true)
    (a32 : PySem.W.findIn K (.ref C_Lines) "want" = some (some (.ref f32)))
    (i32 : PySem.W.isFn K (.ref f32) = true)
    (l32 : K.lookup f32 = some ⟨oc32, od32, .func (PySem.W.fnOf "want" "Lines.want" (defArgs s_Lines_want) (defBody s_Lines_want) (defScope s_Lines_want) .none kV32 dc32 pm32 an32 cd32 ct32), sl32⟩)
    (c32 : PySem.W.codeIn K cd32 "Lines.want" = true)
    (k32 : PySem.W.keepIn K (.ref f32) = true)
    (a33 : PySem.W.nsIn K mainGlobals "is_signal" = some (some (.ref f33)))
    (l33 : K.lookup f33 = some ⟨oc33, od33, .func (PySem.W.fnOf "is_signal" "is_signal" (defArgs s_is_signal) (defBody s_is_signal) (defScope s_is_signal) .none kV33 dc33 pm33 an33 cd33 ct33), sl33⟩)
    (c33 : PySem.W.codeIn K cd33 "is_signal" = true)
    (k33 : PySem.W.keepIn K (.ref f33) = true)
    (a34 : PySem.W.nsIn K mainGlobals "check_signals" = some (some (.ref f34)))
    (l34 : K.lookup f34 = some ⟨oc34, od34, .func (PySem.W.fnOf "check_signals" "check_signals" (defArgs s_check_signals) (defBody s_check_signals) (defScope s_check_signals) .none kV34 dc34 pm34 an34 cd34 ct34), sl34⟩)
    (c34 : PySem.W.codeIn K cd34 "check_signals" = true)
    (k34 : PySem.W.keepIn K (.ref f34) = true)
    (a35 : PySem.W.nsIn K mainGlobals "wrong_piece" = some (some (.ref f35)))
    (l35 : K.lookup f35 = some ⟨oc35, od35, .func (PySem.W.fnOf "wrong_piece" "wrong_piece" (defArgs s_wrong_piece) (defBody s_wrong_piece) (defScope s_wrong_piece) .none kV35 dc35 pm35 an35 cd35 ct35), sl35⟩)
    (c35 : PySem.W.codeIn K cd35 "wrong_piece" = true)
    (k35 : PySem.W.keepIn K (.ref f35) = true)
    (a36 : PySem.W.nsIn K mainGlobals "message_row" = some (some (.ref f36)))
    (l36 : K.lookup f36 = some ⟨oc36, od36, .func (PySem.W.fnOf "message_row" "message_row" (defArgs s_message_row) (defBody s_message_row) (defScope s_message_row) .none kV36 dc36 pm36 an36 cd36 ct36), sl36⟩)
    (c36 : PySem.W.codeIn K cd36 "message_row" = true)
    (k36 : PySem.W.keepIn K (.ref f36) = true)
    (a37 : PySem.W.findIn K (.ref C_Signals) "__init__" = some (some (.ref f37)))
    (i37 : PySem.W.isFn K (.ref f37) = true)
    (l37 : K.lookup f37 = some ⟨oc37, od37, .func (PySem.W.fnOf "__init__" "Signals.__init__" (defArgs s_Signals___init__) (defBody s_Signals___init__) (defScope s_Signals___init__) (.ref D37) kV37 dc37 pm37 an37 cd37 ct37), sl37⟩)
    (c37 : PySem.W.codeIn K cd37 "Signals.__init__" = true)
    (k37 : PySem.W.keepIn K (.ref f37) = true)
    (e37 : K.lookup D37 = some ⟨oD37, dD37, .seq #[.ref C_dt_Signals___init__] nD37, sD37⟩)
    (a38 : PySem.W.findIn K (.ref C_Signals) "__len__" = some (some (.ref f38)))
    (i38 : PySem.W.isFn K (.ref f38) = true)
    (l38 : K.lookup f38 = some ⟨oc38, od38, .func (PySem.W.fnOf "__len__" "Signals.__len__" (defArgs s_Signals___len__) (defBody s_Signals___len__) (defScope s_Signals___len__) .none kV38 dc38 pm38 an38 cd38 ct38), sl38⟩)
    (c38 : PySem.W.codeIn K cd38 "Signals.__len__" = true)
    (k38 : PySem.W.keepIn K (.ref f38) = true)
    (a39 : PySem.W.findIn K (.ref C_Signals) "__iter__" = some (some (.ref f39)))
    (i39 : PySem.W.isFn K (.ref f39) = true)
    (l39 : K.lookup f39 = some ⟨oc39, od39, .func (PySem.W.fnOf "__iter__" "Signals.__iter__" (defArgs s_Signals___iter__) (defBody s_Signals___iter__) (defScope s_Signals___iter__) .none kV39 dc39 pm39 an39 cd39 ct39), sl39⟩)
    (c39 : PySem.W.codeIn K cd39 "Signals.__iter__" = true)
    (k39 : PySem.W.keepIn K (.ref f39) = true)
    (a40 : PySem.W.findIn K (.ref C_Signals) "__eq__" = some (some (.ref f40)))
    (i40 : PySem.W.isFn K (.ref f40) = true)
    (l40 : K.lookup f40 = some ⟨oc40, od40, .func (PySem.W.fnOf "__eq__" "Signals.__eq__" (defArgs s_Signals___eq__) (defBody s_Signals___eq__) (defScope s_Signals___eq__) .none kV40 dc40 pm40 an40 cd40 ct40), sl40⟩)
    (c40 : PySem.W.codeIn K cd40 "Signals.__eq__" = true)
    (k40 : PySem.W.keepIn K (.ref f40) = true)
    (a41 : PySem.W.findIn K (.ref C_Signals) "__call__" = some (some (.ref f41)))
    (i41 : PySem.W.isFn K (.ref f41) = true)
    (l41 : K.lookup f41 = some ⟨oc41, od41, .func (PySem.W.fnOf "__call__" "Signals.__call__" (defArgs s_Signals___call__) (defBody s_Signals___call__) (defScope s_Signals___call__) .none kV41 dc41 pm41 an41 cd41 ct41), sl41⟩)
    (c41 : PySem.W.codeIn K cd41 "Signals.__call__" = true)
    (k41 : PySem.W.keepIn K (.ref f41) = true)
    (a42 : PySem.W.nsIn K mainGlobals "write_signals" = some (some (.ref f42)))
    (l42 : K.lookup f42 = some ⟨oc42, od42, .func (PySem.W.fnOf "write_signals" "write_signals" (defArgs s_write_signals) (defBody s_write_signals) (defScope s_write_signals) .none kV42 dc42 pm42 an42 cd42 ct42), sl42⟩)
    (c42 : PySem.W.codeIn K cd42 "write_signals" = true)
    (k42 : PySem.W.keepIn K (.ref f42) = true)
    (a43 : PySem.W.nsIn K mainGlobals "read_signals" = some (some (.ref f43)))
    (l43 : K.lookup f43 = some ⟨oc43, od43, .func (PySem.W.fnOf "read_signals" "read_signals" (defArgs s_read_signals) (defBody s_read_signals) (defScope s_read_signals) .none kV43 dc43 pm43 an43 cd43 ct43), sl43⟩)
    (c43 : PySem.W.codeIn K cd43 "read_signals" = true)
    (k43 : PySem.W.keepIn K (.ref f43) = true)
    (a44 : PySem.W.nsIn K mainGlobals "_law_draw" = some (some (.ref f44)))
    (l44 : K.lookup f44 = some ⟨oc44, od44, .func (PySem.W.fnOf "_law_draw" "_law_draw" (defArgs s_L_draw) (defBody s_L_draw) (defScope s_L_draw) .none kV44 dc44 pm44 an44 cd44 ct44), sl44⟩)
    (c44 : PySem.W.codeIn K cd44 "_law_draw" = true)
    (k44 : PySem.W.keepIn K (.ref f44) = true)
    (a45 : PySem.W.nsIn K mainGlobals "_law_mix" = some (some (.ref f45)))
    (l45 : K.lookup f45 = some ⟨oc45, od45, .func (PySem.W.fnOf "_law_mix" "_law_mix" (defArgs s_L_mix) (defBody s_L_mix) (defScope s_L_mix) .none kV45 dc45 pm45 an45 cd45 ct45), sl45⟩)
    (c45 : PySem.W.codeIn K cd45 "_law_mix" = true)
    (k45 : PySem.W.keepIn K (.ref f45) = true)
    (a46 : PySem.W.nsIn K mainGlobals "_law_pick" = some (some (.ref f46)))
    (l46 : K.lookup f46 = some ⟨oc46, od46, .func (PySem.W.fnOf "_law_pick" "_law_pick" (defArgs s_L_pick) (defBody s_L_pick) (defScope s_L_pick) .none kV46 dc46 pm46 an46 cd46 ct46), sl46⟩)
    (c46 : PySem.W.codeIn K cd46 "_law_pick" = true)
    (k46 : PySem.W.keepIn K (.ref f46) = true)
    (a47 : PySem.W.nsIn K mainGlobals "_law_sign" = some (some (.ref f47)))
    (l47 : K.lookup f47 = some ⟨oc47, od47, .func (PySem.W.fnOf "_law_sign" "_law_sign" (defArgs s_L_sign) (defBody s_L_sign) (defScope s_L_sign) .none kV47 dc47 pm47 an47 cd47 ct47), sl47⟩)
    (c47 : PySem.W.codeIn K cd47 "_law_sign" = true)
    (k47 : PySem.W.keepIn K (.ref f47) = true)
    (a48 : PySem.W.nsIn K mainGlobals "_law_round" = some (some (.ref f48)))
    (l48 : K.lookup f48 = some ⟨oc48, od48, .func (PySem.W.fnOf "_law_round" "_law_round" (defArgs s_L_round) (defBody s_L_round) (defScope s_L_round) .none kV48 dc48 pm48 an48 cd48 ct48), sl48⟩)
    (c48 : PySem.W.codeIn K cd48 "_law_round" = true)
    (k48 : PySem.W.keepIn K (.ref f48) = true)
    (a49 : PySem.W.nsIn K mainGlobals "_law_bent" = some (some (.ref f49)))
    (l49 : K.lookup f49 = some ⟨oc49, od49, .func (PySem.W.fnOf "_law_bent" "_law_bent" (defArgs s_L_bent) (defBody s_L_bent) (defScope s_L_bent) .none kV49 dc49 pm49 an49 cd49 ct49), sl49⟩)
    (c49 : PySem.W.codeIn K cd49 "_law_bent" = true)
    (k49 : PySem.W.keepIn K (.ref f49) = true)
    (a50 : PySem.W.nsIn K mainGlobals "_law_letter" = some (some (.ref f50)))
    (l50 : K.lookup f50 = some ⟨oc50, od50, .func (PySem.W.fnOf "_law_letter" "_law_letter" (defArgs s_L_letter) (defBody s_L_letter) (defScope s_L_letter) .none kV50 dc50 pm50 an50 cd50 ct50), sl50⟩)
    (c50 : PySem.W.codeIn K cd50 "_law_letter" = true)
    (k50 : PySem.W.keepIn K (.ref f50) = true)
    (a51 : PySem.W.nsIn K mainGlobals "_law_talk" = some (some (.ref f51)))
    (l51 : K.lookup f51 = some ⟨oc51, od51, .func (PySem.W.fnOf "_law_talk" "_law_talk" (defArgs s_L_talk) (defBody s_L_talk) (defScope s_L_talk) .none kV51 dc51 pm51 an51 cd51 ct51), sl51⟩)
    (c51 : PySem.W.codeIn K cd51 "_law_talk" = true)
    (k51 : PySem.W.keepIn K (.ref f51) = true)
    (a52 : PySem.W.nsIn K mainGlobals "_law_least" = some (some (.ref f52)))
    (l52 : K.lookup f52 = some ⟨oc52, od52, .func (PySem.W.fnOf "_law_least" "_law_least" (defArgs s_L_least) (defBody s_L_least) (defScope s_L_least) .none kV52 dc52 pm52 an52 cd52 ct52), sl52⟩)
    (c52 : PySem.W.codeIn K cd52 "_law_least" = true)
    (k52 : PySem.W.keepIn K (.ref f52) = true)
    (a53 : PySem.W.nsIn K mainGlobals "_law_items" = some (some (.ref f53)))
    (l53 : K.lookup f53 = some ⟨oc53, od53, .func (PySem.W.fnOf "_law_items" "_law_items" (defArgs s_L_items) (defBody s_L_items) (defScope s_L_items) .none kV53 dc53 pm53 an53 cd53 ct53), sl53⟩)
    (c53 : PySem.W.codeIn K cd53 "_law_items" = true)
    (k53 : PySem.W.keepIn K (.ref f53) = true)
    (a54 : PySem.W.nsIn K mainGlobals "_law_folded" = some (some (.ref f54)))
    (l54 : K.lookup f54 = some ⟨oc54, od54, .func (PySem.W.fnOf "_law_folded" "_law_folded" (defArgs s_L_folded) (defBody s_L_folded) (defScope s_L_folded) .none kV54 dc54 pm54 an54 cd54 ct54), sl54⟩)
    (c54 : PySem.W.codeIn K cd54 "_law_folded" = true)
    (k54 : PySem.W.keepIn K (.ref f54) = true)
    (a55 : PySem.W.nsIn K mainGlobals "_law_texts" = some (some (.ref f55)))
    (l55 : K.lookup f55 = some ⟨oc55, od55, .func (PySem.W.fnOf "_law_texts" "_law_texts" (defArgs s_L_texts) (defBody s_L_texts) (defScope s_L_texts) .none kV55 dc55 pm55 an55 cd55 ct55), sl55⟩)
    (c55 : PySem.W.codeIn K cd55 "_law_texts" = true)
    (k55 : PySem.W.keepIn K (.ref f55) = true)
    (a56 : PySem.W.nsIn K mainGlobals "_law_is_row" = some (some (.ref f56)))
    (l56 : K.lookup f56 = some ⟨oc56, od56, .func (PySem.W.fnOf "_law_is_row" "_law_is_row" (defArgs s_L_is_row) (defBody s_L_is_row) (defScope s_L_is_row) .none kV56 dc56 pm56 an56 cd56 ct56), sl56⟩)
    (c56 : PySem.W.codeIn K cd56 "_law_is_row" = true)
    (k56 : PySem.W.keepIn K (.ref f56) = true)
    (a57 : PySem.W.nsIn K mainGlobals "_law_round_of" = some (some (.ref f57)))
    (l57 : K.lookup f57 = some ⟨oc57, od57, .func (PySem.W.fnOf "_law_round_of" "_law_round_of" (defArgs s_L_round_of) (defBody s_L_round_of) (defScope s_L_round_of) .none kV57 dc57 pm57 an57 cd57 ct57), sl57⟩)
    (c57 : PySem.W.codeIn K cd57 "_law_round_of" = true)
    (k57 : PySem.W.keepIn K (.ref f57) = true)
    (a58 : PySem.W.nsIn K mainGlobals "_law_bad_word" = some (some (.ref f58)))
    (l58 : K.lookup f58 = some ⟨oc58, od58, .func (PySem.W.fnOf "_law_bad_word" "_law_bad_word" (defArgs s_L_bad_word) (defBody s_L_bad_word) (defScope s_L_bad_word) .none kV58 dc58 pm58 an58 cd58 ct58), sl58⟩)
    (c58 : PySem.W.codeIn K cd58 "_law_bad_word" = true)
    (k58 : PySem.W.keepIn K (.ref f58) = true)
    (a59 : PySem.W.nsIn K mainGlobals "_law_due" = some (some (.ref f59)))
    (l59 : K.lookup f59 = some ⟨oc59, od59, .func (PySem.W.fnOf "_law_due" "_law_due" (defArgs s_L_due) (defBody s_L_due) (defScope s_L_due) .none kV59 dc59 pm59 an59 cd59 ct59), sl59⟩)
    (c59 : PySem.W.codeIn K cd59 "_law_due" = true)
    (k59 : PySem.W.keepIn K (.ref f59) = true)
    (a60 : PySem.W.nsIn K mainGlobals "_law_told" = some (some (.ref f60)))
    (l60 : K.lookup f60 = some ⟨oc60, od60, .func (PySem.W.fnOf "_law_told" "_law_told" (defArgs s_L_told) (defBody s_L_told) (defScope s_L_told) .none kV60 dc60 pm60 an60 cd60 ct60), sl60⟩)
    (c60 : PySem.W.codeIn K cd60 "_law_told" = true)
    (k60 : PySem.W.keepIn K (.ref f60) = true)
    (a61 : PySem.W.nsIn K mainGlobals "_law_spoilt_line" = some (some (.ref f61)))
    (l61 : K.lookup f61 = some ⟨oc61, od61, .func (PySem.W.fnOf "_law_spoilt_line" "_law_spoilt_line" (defArgs s_L_spoilt_line) (defBody s_L_spoilt_line) (defScope s_L_spoilt_line) .none kV61 dc61 pm61 an61 cd61 ct61), sl61⟩)
    (c61 : PySem.W.codeIn K cd61 "_law_spoilt_line" = true)
    (k61 : PySem.W.keepIn K (.ref f61) = true)
    (a62 : PySem.W.nsIn K mainGlobals "_law_spoilt" = some (some (.ref f62)))
    (l62 : K.lookup f62 = some ⟨oc62, od62, .func (PySem.W.fnOf "_law_spoilt" "_law_spoilt" (defArgs s_L_spoilt) (defBody s_L_spoilt) (defScope s_L_spoilt) .none kV62 dc62 pm62 an62 cd62 ct62), sl62⟩)
    (c62 : PySem.W.codeIn K cd62 "_law_spoilt" = true)
    (k62 : PySem.W.keepIn K (.ref f62) = true)
    (a63 : PySem.W.nsIn K mainGlobals "_law_asked" = some (some (.ref f63)))
    (l63 : K.lookup f63 = some ⟨oc63, od63, .func (PySem.W.fnOf "_law_asked" "_law_asked" (defArgs s_L_asked) (defBody s_L_asked) (defScope s_L_asked) .none kV63 dc63 pm63 an63 cd63 ct63), sl63⟩)
    (c63 : PySem.W.codeIn K cd63 "_law_asked" = true)
    (k63 : PySem.W.keepIn K (.ref f63) = true)
    (a64 : PySem.W.nsIn K mainGlobals "law" = some (some (.ref f64)))
    (l64 : K.lookup f64 = some ⟨oc64, od64, .func (PySem.W.fnOf "law" "law" (defArgs s_law) (defBody s_law) (defScope s_law) .none kV64 dc64 pm64 an64 cd64 ct64), sl64⟩)
    (c64 : PySem.W.codeIn K cd64 "law" = true)
    (k64 : PySem.W.keepIn K (.ref f64) = true)
    (lt_dt_Signals___init__ : K.lookup C_dt_Signals___init__ = some ⟨.type "tuple", dt_dt_Signals___init__, .seq #[] nt_dt_Signals___init__, st_dt_Signals___init__⟩)
    (wpg_Lines : PySem.W.plainGet K C_Lines Str.empty = true)
    (whd_Lines : PySem.W.hasDictIn K C_Lines = true)
    (wpo_Lines : PySem.W.plainOver K C_Lines = true)
    (wsa_Lines : PySem.W.findIn K (.ref C_Lines) "__setattr__" = some (some (.builtin "object.__setattr__")))
    (wmk_Lines : PySem.W.makesIn K C_Lines = true)
    (wkc_Lines : PySem.W.keepIn K (.ref C_Lines) = true)
    (wca_Lines : PySem.W.findIn K (.ref C_Lines) "__class__" = some (some (.builtin "object.__class__")))
    (wmo_Lines : PySem.W.mroIn K C_Lines (.type "object") = some true)
    (wnt_Lines : PySem.W.notFirst K C_Lines (.type "tuple") = true)
    (wst_Lines : PySem.W.subIn K (.ref C_Lines) (.type "tuple") = some false)
    (wna_Lines_texts : PySem.W.findIn K (.ref C_Lines) "texts" = some none)
    (wna_Lines_now : PySem.W.findIn K (.ref C_Lines) "now" = some none)
    (wpg_Signals : PySem.W.plainGet K C_Signals Str.empty = true)
    (whd_Signals : PySem.W.hasDictIn K C_Signals = true)
    (wpo_Signals : PySem.W.plainOver K C_Signals = true)
    (wsa_Signals : PySem.W.findIn K (.ref C_Signals) "__setattr__" = some (some (.builtin "object.__setattr__")))
    (wmk_Signals : PySem.W.makesIn K C_Signals = true)
    (wkc_Signals : PySem.W.keepIn K (.ref C_Signals) = true)
    (wca_Signals : PySem.W.findIn K (.ref C_Signals) "__class__" = some (some (.builtin "object.__class__")))
    (wmo_Signals : PySem.W.mroIn K C_Signals (.type "object") = some true)
    (wnt_Signals : PySem.W.notFirst K C_Signals (.type "tuple") = true)
    (wst_Signals : PySem.W.subIn K (.ref C_Signals) (.type "tuple") = some false)
    (wna_Signals_plain : PySem.W.findIn K (.ref C_Signals) "plain" = some none)
    (wna_Signals_signals : PySem.W.findIn K (.ref C_Signals) "signals" = some none)
    (wna_Signals_spelled : PySem.W.findIn K (.ref C_Signals) "spelled" = some none)
    (z_abs : PySem.W.nsIn K mainGlobals "abs" = some none)
    (z_enumerate : PySem.W.nsIn K mainGlobals "enumerate" = some none)
    (z_int : PySem.W.nsIn K mainGlobals "int" = some none)
    (z_isinstance : PySem.W.nsIn K mainGlobals "isinstance" = some none)
    (z_iter : PySem.W.nsIn K mainGlobals "iter" = some none)
    (z_len : PySem.W.nsIn K mainGlobals "len" = some none)
    (z_list : PySem.W.nsIn K mainGlobals "list" = some none)
    (z_max : PySem.W.nsIn K mainGlobals "max" = some none)
    (z_min : PySem.W.nsIn K mainGlobals "min" = some none)
    (z_range : PySem.W.nsIn K mainGlobals "range" = some none)
    (z_repr : PySem.W.nsIn K mainGlobals "repr" = some none)
    (z_sorted : PySem.W.nsIn K mainGlobals "sorted" = some none)
    (z_str : PySem.W.nsIn K mainGlobals "str" = some none)
    (z_sum : PySem.W.nsIn K mainGlobals "sum" = some none)
    (z_tuple : PySem.W.nsIn K mainGlobals "tuple" = some none)
    (v_SIGNS : PySem.W.nsIn K mainGlobals "SIGNS" = some (some (.str ".grw" t_SIGNS)))
    (v_LETTERS : PySem.W.nsIn K mainGlobals "LETTERS" = some (some (.str "abcdefghijklmnopqrstuvwxyz" t_LETTERS)))
    (v_MOST_LEVELS : PySem.W.nsIn K mainGlobals "MOST_LEVELS" = some (some (.int (70) t_MOST_LEVELS)))
    (v_MOST_ROUND : PySem.W.nsIn K mainGlobals "MOST_ROUND" = some (some (.int (24) t_MOST_ROUND)))
    (v_DIGITS : PySem.W.nsIn K mainGlobals "DIGITS" = some (some (.str "0123456789" t_DIGITS)))
    (v_MOST_OPEN : PySem.W.nsIn K mainGlobals "MOST_OPEN" = some (some (.int (6) t_MOST_OPEN)))
    (v_PLAIN : PySem.W.nsIn K mainGlobals "PLAIN" = some (some (.str "0" t_PLAIN)))
    (v_MOST_SIGNALS : PySem.W.nsIn K mainGlobals "MOST_SIGNALS" = some (some (.int (4) t_MOST_SIGNALS)))
    (v_MOST_WORD : PySem.W.nsIn K mainGlobals "MOST_WORD" = some (some (.int (12) t_MOST_WORD)))
    (v_MOST_PIECES : PySem.W.nsIn K mainGlobals "MOST_PIECES" = some (some (.int (100) t_MOST_PIECES)))
    (g_GlimError : PySem.W.nsIn K mainGlobals "GlimError" = some (some (.ref C_GlimError)))
    (g_BadRound : PySem.W.nsIn K mainGlobals "BadRound" = some (some (.ref C_BadRound)))
    (g_BadText : PySem.W.nsIn K mainGlobals "BadText" = some (some (.ref C_BadText)))
    (g_BadLine : PySem.W.nsIn K mainGlobals "BadLine" = some (some (.ref C_BadLine)))
    (g_BadSignal : PySem.W.nsIn K mainGlobals "BadSignal" = some (some (.ref C_BadSignal)))
    (g_BadMessage : PySem.W.nsIn K mainGlobals "BadMessage" = some (some (.ref C_BadMessage)))
    (g_TooLong : PySem.W.nsIn K mainGlobals "TooLong" = some (some (.ref C_TooLong)))
    (g_Lines : PySem.W.nsIn K mainGlobals "Lines" = some (some (.ref C_Lines)))
    (g_Signals : PySem.W.nsIn K mainGlobals "Signals" = some (some (.ref C_Signals)))
    (xl_BadRound : K.lookup C_BadRound = some (excClassObj nm_BadRound q_BadRound C_BadRound N_BadRound bs_BadRound bm_BadRound true sn_BadRound sub_BadRound ab_BadRound col_BadRound dd_BadRound m0_BadRound m1_BadRound m2_BadRound m3_BadRound m5_BadRound "ValueError.__new__"))
    (xr_BadRound : PySem.HandSPX.refsVE bm_BadRound = true)
    (xsa_BadRound : PySem.W.findIn K (.ref C_BadRound) "__setattr__" = some (some (.builtin "object.__setattr__")))
    (xga_BadRound : PySem.W.findIn K (.ref C_BadRound) "__getattribute__" = some (some (.builtin "BaseException.__getattribute__")))
    (xgg_BadRound : PySem.W.findIn K (.ref C_BadRound) "__getattr__" = some none)
    (xnf_BadRound_number : PySem.W.findIn K (.ref C_BadRound) "number" = some none)
    (xi_BadRound : PySem.W.findIn K (.ref C_BadRound) "__init__" = some (some (.ref f65)))
    (xt_BadRound : PySem.W.typeIn K (.ref f65) = some (.type "function"))
    (xf_BadRound : K.lookup f65 = some ⟨oc65, od65, .func (PySem.W.fnOf "__init__" "BadRound.__init__" (defArgs s_BadRound) (defBody s_BadRound) (defScope s_BadRound) .none kV65 dc65 pm65 an65 cd65 ct65), sl65⟩)
    (xc_BadRound : PySem.W.codeIn K cd65 "BadRound.__init__" = true)
    (xkf_BadRound : PySem.W.keepIn K (.ref f65) = true)
    (xk_BadRound : PySem.W.keepIn K (.ref C_BadRound) = true)
    (xe_BadRound : PySem.W.subIn K (.ref C_BadRound) (.type "BaseException") = some true)
    (xty_BadRound : PySem.W.typeIn K (.ref C_BadRound) = some (.type "type"))
    (xhd_BadRound : PySem.W.hasDictIn K C_BadRound = true)
    (xis_BadRound : PySem.W.isClsIn K C_BadRound = true)
    (xca_BadRound : PySem.W.findIn K (.ref C_BadRound) "__class__" = some (some (.builtin "object.__class__")))
    (xm_BadRound : PySem.W.mroIn K C_BadRound (.type "object") = some true)
    (xl_BadText : K.lookup C_BadText = some (excClassObj nm_BadText q_BadText C_BadText N_BadText bs_BadText bm_BadText true sn_BadText sub_BadText ab_BadText col_BadText dd_BadText m0_BadText m1_BadText m2_BadText m3_BadText m5_BadText "ValueError.__new__"))
    (xr_BadText : PySem.HandSPX.refsVE bm_BadText = true)
    (xsa_BadText : PySem.W.findIn K (.ref C_BadText) "__setattr__" = some (some (.builtin "object.__setattr__")))
    (xga_BadText : PySem.W.findIn K (.ref C_BadText) "__getattribute__" = some (some (.builtin "BaseException.__getattribute__")))
    (xgg_BadText : PySem.W.findIn K (.ref C_BadText) "__getattr__" = some none)
    (xnf_BadText_at : PySem.W.findIn K (.ref C_BadText) "at" = some none)
    (xi_BadText : PySem.W.findIn K (.ref C_BadText) "__init__" = some (some (.ref f66)))
    (xt_BadText : PySem.W.typeIn K (.ref f66) = some (.type "function"))
    (xf_BadText : K.lookup f66 = some ⟨oc66, od66, .func (PySem.W.fnOf "__init__" "BadText.__init__" (defArgs s_BadText) (defBody s_BadText) (defScope s_BadText) .none kV66 dc66 pm66 an66 cd66 ct66), sl66⟩)
    (xc_BadText : PySem.W.codeIn K cd66 "BadText.__init__" = true)
    (xkf_BadText : PySem.W.keepIn K (.ref f66) = true)
    (xk_BadText : PySem.W.keepIn K (.ref C_BadText) = true)
    (xe_BadText : PySem.W.subIn K (.ref C_BadText) (.type "BaseException") = some true)
    (xty_BadText : PySem.W.typeIn K (.ref C_BadText) = some (.type "type"))
    (xhd_BadText : PySem.W.hasDictIn K C_BadText = true)
    (xis_BadText : PySem.W.isClsIn K C_BadText = true)
    (xca_BadText : PySem.W.findIn K (.ref C_BadText) "__class__" = some (some (.builtin "object.__class__")))
    (xm_BadText : PySem.W.mroIn K C_BadText (.type "object") = some true)
    (xl_BadLine : K.lookup C_BadLine = some (excClassObj nm_BadLine q_BadLine C_BadLine N_BadLine bs_BadLine bm_BadLine true sn_BadLine sub_BadLine ab_BadLine col_BadLine dd_BadLine m0_BadLine m1_BadLine m2_BadLine m3_BadLine m5_BadLine "ValueError.__new__"))
    (xr_BadLine : PySem.HandSPX.refsVE bm_BadLine = true)
    (xsa_BadLine : PySem.W.findIn K (.ref C_BadLine) "__setattr__" = some (some (.builtin "object.__setattr__")))
    (xga_BadLine : PySem.W.findIn K (.ref C_BadLine) "__getattribute__" = some (some (.builtin "BaseException.__getattribute__")))
    (xgg_BadLine : PySem.W.findIn K (.ref C_BadLine) "__getattr__" = some none)
    (xnf_BadLine_line : PySem.W.findIn K (.ref C_BadLine) "line" = some none)
    (xnf_BadLine_word : PySem.W.findIn K (.ref C_BadLine) "word" = some none)
    (xi_BadLine : PySem.W.findIn K (.ref C_BadLine) "__init__" = some (some (.ref f67)))
    (xt_BadLine : PySem.W.typeIn K (.ref f67) = some (.type "function"))
    (xf_BadLine : K.lookup f67 = some ⟨oc67, od67, .func (PySem.W.fnOf "__init__" "BadLine.__init__" (defArgs s_BadLine) (defBody s_BadLine) (defScope s_BadLine) .none kV67 dc67 pm67 an67 cd67 ct67), sl67⟩)
    (xc_BadLine : PySem.W.codeIn K cd67 "BadLine.__init__" = true)
    (xkf_BadLine : PySem.W.keepIn K (.ref f67) = true)
    (xk_BadLine : PySem.W.keepIn K (.ref C_BadLine) = true)
    (xe_BadLine : PySem.W.subIn K (.ref C_BadLine) (.type "BaseException") = some true)
    (xty_BadLine : PySem.W.typeIn K (.ref C_BadLine) = some (.type "type"))
    (xhd_BadLine : PySem.W.hasDictIn K C_BadLine = true)
    (xis_BadLine : PySem.W.isClsIn K C_BadLine = true)
    (xca_BadLine : PySem.W.findIn K (.ref C_BadLine) "__class__" = some (some (.builtin "object.__class__")))
    (xm_BadLine : PySem.W.mroIn K C_BadLine (.type "object") = some true)
    (xl_BadSignal : K.lookup C_BadSignal = some (excClassObj nm_BadSignal q_BadSignal C_BadSignal N_BadSignal bs_BadSignal bm_BadSignal true sn_BadSignal sub_BadSignal ab_BadSignal col_BadSignal dd_BadSignal m0_BadSignal m1_BadSignal m2_BadSignal m3_BadSignal m5_BadSignal "ValueError.__new__"))
    (xr_BadSignal : PySem.HandSPX.refsVE bm_BadSignal = true)
    (xsa_BadSignal : PySem.W.findIn K (.ref C_BadSignal) "__setattr__" = some (some (.builtin "object.__setattr__")))
    (xga_BadSignal : PySem.W.findIn K (.ref C_BadSignal) "__getattribute__" = some (some (.builtin "BaseException.__getattribute__")))
    (xgg_BadSignal : PySem.W.findIn K (.ref C_BadSignal) "__getattr__" = some none)
    (xnf_BadSignal_number : PySem.W.findIn K (.ref C_BadSignal) "number" = some none)
    (xi_BadSignal : PySem.W.findIn K (.ref C_BadSignal) "__init__" = some (some (.ref f68)))
    (xt_BadSignal : PySem.W.typeIn K (.ref f68) = some (.type "function"))
    (xf_BadSignal : K.lookup f68 = some ⟨oc68, od68, .func (PySem.W.fnOf "__init__" "BadSignal.__init__" (defArgs s_BadSignal) (defBody s_BadSignal) (defScope s_BadSignal) .none kV68 dc68 pm68 an68 cd68 ct68), sl68⟩)
    (xc_BadSignal : PySem.W.codeIn K cd68 "BadSignal.__init__" = true)
    (xkf_BadSignal : PySem.W.keepIn K (.ref f68) = true)
    (xk_BadSignal : PySem.W.keepIn K (.ref C_BadSignal) = true)
    (xe_BadSignal : PySem.W.subIn K (.ref C_BadSignal) (.type "BaseException") = some true)
    (xty_BadSignal : PySem.W.typeIn K (.ref C_BadSignal) = some (.type "type"))
    (xhd_BadSignal : PySem.W.hasDictIn K C_BadSignal = true)
    (xis_BadSignal : PySem.W.isClsIn K C_BadSignal = true)
    (xca_BadSignal : PySem.W.findIn K (.ref C_BadSignal) "__class__" = some (some (.builtin "object.__class__")))
    (xm_BadSignal : PySem.W.mroIn K C_BadSignal (.type "object") = some true)
    (xl_BadMessage : K.lookup C_BadMessage = some (excClassObj nm_BadMessage q_BadMessage C_BadMessage N_BadMessage bs_BadMessage bm_BadMessage true sn_BadMessage sub_BadMessage ab_BadMessage col_BadMessage dd_BadMessage m0_BadMessage m1_BadMessage m2_BadMessage m3_BadMessage m5_BadMessage "ValueError.__new__"))
    (xr_BadMessage : PySem.HandSPX.refsVE bm_BadMessage = true)
    (xsa_BadMessage : PySem.W.findIn K (.ref C_BadMessage) "__setattr__" = some (some (.builtin "object.__setattr__")))
    (xga_BadMessage : PySem.W.findIn K (.ref C_BadMessage) "__getattribute__" = some (some (.builtin "BaseException.__getattribute__")))
    (xgg_BadMessage : PySem.W.findIn K (.ref C_BadMessage) "__getattr__" = some none)
    (xnf_BadMessage_number : PySem.W.findIn K (.ref C_BadMessage) "number" = some none)
    (xi_BadMessage : PySem.W.findIn K (.ref C_BadMessage) "__init__" = some (some (.ref f69)))
    (xt_BadMessage : PySem.W.typeIn K (.ref f69) = some (.type "function"))
    (xf_BadMessage : K.lookup f69 = some ⟨oc69, od69, .func (PySem.W.fnOf "__init__" "BadMessage.__init__" (defArgs s_BadMessage) (defBody s_BadMessage) (defScope s_BadMessage) .none kV69 dc69 pm69 an69 cd69 ct69), sl69⟩)
    (xc_BadMessage : PySem.W.codeIn K cd69 "BadMessage.__init__" = true)
    (xkf_BadMessage : PySem.W.keepIn K (.ref f69) = true)
    (xk_BadMessage : PySem.W.keepIn K (.ref C_BadMessage) = true)
    (xe_BadMessage : PySem.W.subIn K (.ref C_BadMessage) (.type "BaseException") = some true)
    (xty_BadMessage : PySem.W.typeIn K (.ref C_BadMessage) = some (.type "type"))
    (xhd_BadMessage : PySem.W.hasDictIn K C_BadMessage = true)
    (xis_BadMessage : PySem.W.isClsIn K C_BadMessage = true)
    (xca_BadMessage : PySem.W.findIn K (.ref C_BadMessage) "__class__" = some (some (.builtin "object.__class__")))
    (xm_BadMessage : PySem.W.mroIn K C_BadMessage (.type "object") = some true)
    (xl_TooLong : K.lookup C_TooLong = some (excClassObj nm_TooLong q_TooLong C_TooLong N_TooLong bs_TooLong bm_TooLong true sn_TooLong sub_TooLong ab_TooLong col_TooLong dd_TooLong m0_TooLong m1_TooLong m2_TooLong m3_TooLong m5_TooLong "ValueError.__new__"))
    (xr_TooLong : PySem.HandSPX.refsVE bm_TooLong = true)
    (xsa_TooLong : PySem.W.findIn K (.ref C_TooLong) "__setattr__" = some (some (.builtin "object.__setattr__")))
    (xga_TooLong : PySem.W.findIn K (.ref C_TooLong) "__getattribute__" = some (some (.builtin "BaseException.__getattribute__")))
    (xgg_TooLong : PySem.W.findIn K (.ref C_TooLong) "__getattr__" = some none)
    (xnf_TooLong_number : PySem.W.findIn K (.ref C_TooLong) "number" = some none)
    (xi_TooLong : PySem.W.findIn K (.ref C_TooLong) "__init__" = some (some (.ref f70)))
    (xt_TooLong : PySem.W.typeIn K (.ref f70) = some (.type "function"))
    (xf_TooLong : K.lookup f70 = some ⟨oc70, od70, .func (PySem.W.fnOf "__init__" "TooLong.__init__" (defArgs s_TooLong) (defBody s_TooLong) (defScope s_TooLong) .none kV70 dc70 pm70 an70 cd70 ct70), sl70⟩)
    (xc_TooLong : PySem.W.codeIn K cd70 "TooLong.__init__" = true)
    (xkf_TooLong : PySem.W.keepIn K (.ref f70) = true)
    (xk_TooLong : PySem.W.keepIn K (.ref C_TooLong) = true)
    (xe_TooLong : PySem.W.subIn K (.ref C_TooLong) (.type "BaseException") = some true)
    (xty_TooLong : PySem.W.typeIn K (.ref C_TooLong) = some (.type "type"))
    (xhd_TooLong : PySem.W.hasDictIn K C_TooLong = true)
    (xis_TooLong : PySem.W.isClsIn K C_TooLong = true)
    (xca_TooLong : PySem.W.findIn K (.ref C_TooLong) "__class__" = some (some (.builtin "object.__class__")))
    (xm_TooLong : PySem.W.mroIn K C_TooLong (.type "object") = some true)
    (xsp : PySem.W.specialIn K (.builtin "object.__class__") "__get__" = some (some (.builtin "getset_descriptor.__get__")))
    (xtk : PySem.W.takesIn K (.builtin "object.__class__") = some true)
    (qi_BadLine : PySem.W.isClsIn K C_BadLine = true)
    (qt_BadLine : PySem.W.typeIn K (.ref C_BadLine) = some (.type "type"))
    (qs_BadLine : PySem.W.subIn K (.ref C_BadLine) (.ref C_BadLine) = some true)
    (qb_BadLine : PySem.W.subIn K (.ref C_BadLine) (.type "BaseException") = some true)
    (qi_BadRound : PySem.W.isClsIn K C_BadRound = true)
    (qt_BadRound : PySem.W.typeIn K (.ref C_BadRound) = some (.type "type"))
    (qs_BadRound : PySem.W.subIn K (.ref C_BadRound) (.ref C_BadRound) = some true)
    (qb_BadRound : PySem.W.subIn K (.ref C_BadRound) (.type "BaseException") = some true)
    (qi_BadSignal : PySem.W.isClsIn K C_BadSignal = true)
    (qt_BadSignal : PySem.W.typeIn K (.ref C_BadSignal) = some (.type "type"))
    (qs_BadSignal : PySem.W.subIn K (.ref C_BadSignal) (.ref C_BadSignal) = some true)
    (qb_BadSignal : PySem.W.subIn K (.ref C_BadSignal) (.type "BaseException") = some true)
    (qi_BadText : PySem.W.isClsIn K C_BadText = true)
    (qt_BadText : PySem.W.typeIn K (.ref C_BadText) = some (.type "type"))
    (qs_BadText : PySem.W.subIn K (.ref C_BadText) (.ref C_BadText) = some true)
    (qb_BadText : PySem.W.subIn K (.ref C_BadText) (.type "BaseException") = some true)
    (qi_GlimError : PySem.W.isClsIn K C_GlimError = true)
    (qt_GlimError : PySem.W.typeIn K (.ref C_GlimError) = some (.type "type"))
    (qs_GlimError : PySem.W.subIn K (.ref C_GlimError) (.ref C_GlimError) = some true)
    (qb_GlimError : PySem.W.subIn K (.ref C_GlimError) (.type "BaseException") = some true)
    (qi_Signals : PySem.W.isClsIn K C_Signals = true)
    (qt_Signals : PySem.W.typeIn K (.ref C_Signals) = some (.type "type"))
    (qs_Signals : PySem.W.subIn K (.ref C_Signals) (.ref C_Signals) = some true)
    (qi_TooLong : PySem.W.isClsIn K C_TooLong = true)
    (qt_TooLong : PySem.W.typeIn K (.ref C_TooLong) = some (.type "type"))
    (qs_TooLong : PySem.W.subIn K (.ref C_TooLong) (.ref C_TooLong) = some true)
    (qb_TooLong : PySem.W.subIn K (.ref C_TooLong) (.type "BaseException") = some true)
    (y_Signals_Signals : PySem.W.subIn K (.ref C_Signals) (.ref C_Signals) = some true)
    (y_tuple_Signals : PySem.W.subIn K (.type "tuple") (.ref C_Signals) = some false)
    (y_str_Signals : PySem.W.subIn K (.type "str") (.ref C_Signals) = some false)
    (y_int_Signals : PySem.W.subIn K (.type "int") (.ref C_Signals) = some false)
    (y_list_Signals : PySem.W.subIn K (.type "list") (.ref C_Signals) = some false)
    (y_BadLine_BadText : PySem.W.subIn K (.ref C_BadLine) (.ref C_BadText) = some false)
    (y_BadLine_TooLong : PySem.W.subIn K (.ref C_BadLine) (.ref C_TooLong) = some false)
    (y_BadLine_BadRound : PySem.W.subIn K (.ref C_BadLine) (.ref C_BadRound) = some false)
    (y_BadLine_BadLine : PySem.W.subIn K (.ref C_BadLine) (.ref C_BadLine) = some true)
    (y_BadLine_BadSignal : PySem.W.subIn K (.ref C_BadLine) (.ref C_BadSignal) = some false)
    (y_BadSignal_BadText : PySem.W.subIn K (.ref C_BadSignal) (.ref C_BadText) = some false)
    (y_BadSignal_TooLong : PySem.W.subIn K (.ref C_BadSignal) (.ref C_TooLong) = some false)
    (y_BadSignal_BadRound : PySem.W.subIn K (.ref C_BadSignal) (.ref C_BadRound) = some false)
    (y_BadSignal_BadLine : PySem.W.subIn K (.ref C_BadSignal) (.ref C_BadLine) = some false)
    (y_BadSignal_BadSignal : PySem.W.subIn K (.ref C_BadSignal) (.ref C_BadSignal) = some true)
    (x_BadLine_GlimError : PySem.W.subIn K (.ref C_BadLine) (.ref C_GlimError) = some true)
    (x_BadSignal_GlimError : PySem.W.subIn K (.ref C_BadSignal) (.ref C_GlimError) = some true)
    (x_BadText_BadText : PySem.W.subIn K (.ref C_BadText) (.ref C_BadText) = some true)
    (x_BadText_TooLong : PySem.W.subIn K (.ref C_BadText) (.ref C_TooLong) = some false)
    (x_TooLong_BadText : PySem.W.subIn K (.ref C_TooLong) (.ref C_BadText) = some false)
    (x_TooLong_TooLong : PySem.W.subIn K (.ref C_TooLong) (.ref C_TooLong) = some true)
    : ∃ fd : FuncData, (∀ (s : Shared) (v : Value), BindsTo s fd ⟨[v], []⟩ [("_law_script", v)]) ∧ ∀ base : Heap, K.In base → base.Ns mainGlobals mg → GOk l.prog w K mg base CX0 30 fa fd ["_law_script"] (sp1 (p_law K)) := by
  have e := hfa.symm.trans (PySem.W.mg_of X G a64)
  cases e
  have F1 : FunD K "deep" "deep" (defArgs s_deep) (defBody s_deep) (defScope s_deep) [.int (0)] [] f1 _ := ⟨⟨_, _, _, _, _, _, _, _, _, _, rfl, l1, c1, (.inr ⟨by simp, D1, _, _, _, rfl, e1, rfl, (.cons ⟨_, rfl⟩ .nil)⟩), .inl rfl⟩, k1⟩
  have E1 := FunD.binds1 (ps := ["thing", "level"]) F1 1 0 (by simp) rfl fun _ _ _ _ _ _ _ us its h1 h2 => match us, its, h1, h2 with | [_], [_], _, _ => ⟨_, rfl, rfl⟩
  have B1 := FunD.binds1 (ps := ["thing", "level"]) F1 2 1 (by simp) rfl fun _ _ _ _ _ _ _ us its h1 h2 => match us, its, h1, h2 with | [_, _], [_], _, _ => ⟨_, rfl, rfl⟩
  have B1 : Binds K _ ["thing", "level"] [] := (by obtain ⟨ds, h1, h2⟩ := B1; cases h1; exact h2)
  have F2 := fun_mk (st := s_wrong_sign) l2 c2 k2
  have F3 := fun_mk (st := s_is_row) l3 c3 k3
  have F4 := fun_mk (st := s_is_letter) l4 c4 k4
  have F5 := fun_mk (st := s_check_round) l5 c5 k5
  have F6 := fun_mk (st := s_shortlex) l6 c6 k6
  have F7 := fun_mk (st := s_least_text) l7 c7 k7
  have F8 := fun_mk (st := s_closed_text) l8 c8 k8
  have F9 := fun_mk (st := s_item_text) l9 c9 k9
  have F10 := fun_mk (st := s_items_text) l10 c10 k10
  have F11 := fun_mk (st := s_fold_round) l11 c11 k11
  have F12 := fun_mk (st := s_common_beats) l12 c12 k12
  have F13 := fun_mk (st := s_repeated) l13 c13 k13
  have F14 := fun_mk (st := s_put_behind) l14 c14 k14
  have F15 := fun_mk (st := s_first_lit) l15 c15 k15
  have F16 := fun_mk (st := s_shown_together) l16 c16 k16
  have F17 := fun_mk (st := s_behind_digits) l17 c17 k17
  have F18 := fun_mk (st := s_is_within) l18 c18 k18
  have F19 := fun_mk (st := s_read_item) l19 c19 k19
  have F20 := fun_mk (st := s_read_filled) l20 c20 k20
  have F21 := fun_mk (st := s_read_part) l21 c21 k21
  have F22 := fun_mk (st := s_read_parts) l22 c22 k22
  have F23 := fun_mk (st := s_read_round) l23 c23 k23
  have F24 : FunD K "__init__" "Lines.__init__" (defArgs s_Lines___init__) (defBody s_Lines___init__) (defScope s_Lines___init__) [.int (0)] [] f24 _ := ⟨⟨_, _, _, _, _, _, _, _, _, _, rfl, l24, c24, (.inr ⟨by simp, D24, _, _, _, rfl, e24, rfl, (.cons ⟨_, rfl⟩ .nil)⟩), .inl rfl⟩, k24⟩
  have E24 := FunD.binds1 (ps := ["self", "texts", "at"]) F24 2 0 (by simp) rfl fun _ _ _ _ _ _ _ us its h1 h2 => match us, its, h1, h2 with | [_, _], [_], _, _ => ⟨_, rfl, rfl⟩
  have B24 := FunD.binds1 (ps := ["self", "texts", "at"]) F24 3 1 (by simp) rfl fun _ _ _ _ _ _ _ us its h1 h2 => match us, its, h1, h2 with | [_, _, _], [_], _, _ => ⟨_, rfl, rfl⟩
  have B24 : Binds K _ ["self", "texts", "at"] [] := (by obtain ⟨ds, h1, h2⟩ := B24; cases h1; exact h2)
  have F25 : FunD K "is_over" "Lines.is_over" (defArgs s_Lines_is_over) (defBody s_Lines_is_over) (defScope s_Lines_is_over) [] [] f25 _ := ⟨⟨_, _, _, _, _, _, _, _, _, _, rfl, l25, c25, (.inl ⟨rfl, rfl⟩), .inl rfl⟩, k25⟩
  have B25 : Binds K _ ["self"] [] := FunD.bindsN (ps := ["self"]) F25 fun _ _ _ _ _ _ us hl => match us, hl with | [_], _ => rfl
  have E25 : ∃ ds, Vals [] ds ∧ Binds K _ ["self"] ds := ⟨[], .nil, B25⟩
  have F26 : FunD K "words" "Lines.words" (defArgs s_Lines_words) (defBody s_Lines_words) (defScope s_Lines_words) [] [] f26 _ := ⟨⟨_, _, _, _, _, _, _, _, _, _, rfl, l26, c26, (.inl ⟨rfl, rfl⟩), .inl rfl⟩, k26⟩
  have B26 : Binds K _ ["self"] [] := FunD.bindsN (ps := ["self"]) F26 fun _ _ _ _ _ _ us hl => match us, hl with | [_], _ => rfl
  have E26 : ∃ ds, Vals [] ds ∧ Binds K _ ["self"] ds := ⟨[], .nil, B26⟩
  have F27 : FunD K "word_at" "Lines.word_at" (defArgs s_Lines_word_at) (defBody s_Lines_word_at) (defScope s_Lines_word_at) [] [] f27 _ := ⟨⟨_, _, _, _, _, _, _, _, _, _, rfl, l27, c27, (.inl ⟨rfl, rfl⟩), .inl rfl⟩, k27⟩
  have B27 : Binds K _ ["self", "number"] [] := FunD.bindsN (ps := ["self", "number"]) F27 fun _ _ _ _ _ _ us hl => match us, hl with | [_, _], _ => rfl
  have E27 : ∃ ds, Vals [] ds ∧ Binds K _ ["self", "number"] ds := ⟨[], .nil, B27⟩
  have F28 : FunD K "letter_at" "Lines.letter_at" (defArgs s_Lines_letter_at) (defBody s_Lines_letter_at) (defScope s_Lines_letter_at) [] [] f28 _ := ⟨⟨_, _, _, _, _, _, _, _, _, _, rfl, l28, c28, (.inl ⟨rfl, rfl⟩), .inl rfl⟩, k28⟩
  have B28 : Binds K _ ["self", "number"] [] := FunD.bindsN (ps := ["self", "number"]) F28 fun _ _ _ _ _ _ us hl => match us, hl with | [_, _], _ => rfl
  have E28 : ∃ ds, Vals [] ds ∧ Binds K _ ["self", "number"] ds := ⟨[], .nil, B28⟩
  have F29 : FunD K "row_at" "Lines.row_at" (defArgs s_Lines_row_at) (defBody s_Lines_row_at) (defScope s_Lines_row_at) [] [] f29 _ := ⟨⟨_, _, _, _, _, _, _, _, _, _, rfl, l29, c29, (.inl ⟨rfl, rfl⟩), .inl rfl⟩, k29⟩
  have B29 : Binds K _ ["self", "number", "low", "high"] [] := FunD.bindsN (ps := ["self", "number", "low", "high"]) F29 fun _ _ _ _ _ _ us hl => match us, hl with | [_, _, _, _], _ => rfl
  have E29 : ∃ ds, Vals [] ds ∧ Binds K _ ["self", "number", "low", "high"] ds := ⟨[], .nil, B29⟩
  have F30 : FunD K "round_at" "Lines.round_at" (defArgs s_Lines_round_at) (defBody s_Lines_round_at) (defScope s_Lines_round_at) [] [] f30 _ := ⟨⟨_, _, _, _, _, _, _, _, _, _, rfl, l30, c30, (.inl ⟨rfl, rfl⟩), .inl rfl⟩, k30⟩
  have B30 : Binds K _ ["self", "number"] [] := FunD.bindsN (ps := ["self", "number"]) F30 fun _ _ _ _ _ _ us hl => match us, hl with | [_, _], _ => rfl
  have E30 : ∃ ds, Vals [] ds ∧ Binds K _ ["self", "number"] ds := ⟨[], .nil, B30⟩
  have F31 : FunD K "close_at" "Lines.close_at" (defArgs s_Lines_close_at) (defBody s_Lines_close_at) (defScope s_Lines_close_at) [] [] f31 _ := ⟨⟨_, _, _, _, _, _, _, _, _, _, rfl, l31, c31, (.inl ⟨rfl, rfl⟩), .inl rfl⟩, k31⟩
  have B31 : Binds K _ ["self", "number"] [] := FunD.bindsN (ps := ["self", "number"]) F31 fun _ _ _ _ _ _ us hl => match us, hl with | [_, _], _ => rfl
  have E31 : ∃ ds, Vals [] ds ∧ Binds K _ ["self", "number"] ds := ⟨[], .nil, B31⟩
  have F32 : FunD K "want" "Lines.want" (defArgs s_Lines_want) (defBody s_Lines_want) (defScope s_Lines_want) [] [] f32 _ := ⟨⟨_, _, _, _, _, _, _, _, _, _, rfl, l32, c32, (.inl ⟨rfl, rfl⟩), .inl rfl⟩, k32⟩
  have B32 : Binds K _ ["self", "word"] [] := FunD.bindsN (ps := ["self", "word"]) F32 fun _ _ _ _ _ _ us hl => match us, hl with | [_, _], _ => rfl
  have E32 : ∃ ds, Vals [] ds ∧ Binds K _ ["self", "word"] ds := ⟨[], .nil, B32⟩
  have F33 := fun_mk (st := s_is_signal) l33 c33 k33
  have F34 := fun_mk (st := s_check_signals) l34 c34 k34
  have F35 := fun_mk (st := s_wrong_piece) l35 c35 k35
  have F36 := fun_mk (st := s_message_row) l36 c36 k36
  have F37 : FunD K "__init__" "Signals.__init__" (defArgs s_Signals___init__) (defBody s_Signals___init__) (defScope s_Signals___init__) [.ref C_dt_Signals___init__] [] f37 _ := ⟨⟨_, _, _, _, _, _, _, _, _, _, rfl, l37, c37, (.inr ⟨by simp, D37, _, _, _, rfl, e37, rfl, (.cons rfl .nil)⟩), .inl rfl⟩, k37⟩
  have E37 := FunD.binds1 (ps := ["self", "plain", "signals"]) F37 2 0 (by simp) rfl fun _ _ _ _ _ _ _ us its h1 h2 => match us, its, h1, h2 with | [_, _], [_], _, _ => ⟨_, rfl, rfl⟩
  have B37 := FunD.binds1 (ps := ["self", "plain", "signals"]) F37 3 1 (by simp) rfl fun _ _ _ _ _ _ _ us its h1 h2 => match us, its, h1, h2 with | [_, _, _], [_], _, _ => ⟨_, rfl, rfl⟩
  have B37 : Binds K _ ["self", "plain", "signals"] [] := (by obtain ⟨ds, h1, h2⟩ := B37; cases h1; exact h2)
  have F38 : FunD K "__len__" "Signals.__len__" (defArgs s_Signals___len__) (defBody s_Signals___len__) (defScope s_Signals___len__) [] [] f38 _ := ⟨⟨_, _, _, _, _, _, _, _, _, _, rfl, l38, c38, (.inl ⟨rfl, rfl⟩), .inl rfl⟩, k38⟩
  have B38 : Binds K _ ["self"] [] := FunD.bindsN (ps := ["self"]) F38 fun _ _ _ _ _ _ us hl => match us, hl with | [_], _ => rfl
  have E38 : ∃ ds, Vals [] ds ∧ Binds K _ ["self"] ds := ⟨[], .nil, B38⟩
  have F39 : FunD K "__iter__" "Signals.__iter__" (defArgs s_Signals___iter__) (defBody s_Signals___iter__) (defScope s_Signals___iter__) [] [] f39 _ := ⟨⟨_, _, _, _, _, _, _, _, _, _, rfl, l39, c39, (.inl ⟨rfl, rfl⟩), .inl rfl⟩, k39⟩
  have B39 : Binds K _ ["self"] [] := FunD.bindsN (ps := ["self"]) F39 fun _ _ _ _ _ _ us hl => match us, hl with | [_], _ => rfl
  have E39 : ∃ ds, Vals [] ds ∧ Binds K _ ["self"] ds := ⟨[], .nil, B39⟩
  have F40 : FunD K "__eq__" "Signals.__eq__" (defArgs s_Signals___eq__) (defBody s_Signals___eq__) (defScope s_Signals___eq__) [] [] f40 _ := ⟨⟨_, _, _, _, _, _, _, _, _, _, rfl, l40, c40, (.inl ⟨rfl, rfl⟩), .inl rfl⟩, k40⟩
  have B40 : Binds K _ ["self", "other"] [] := FunD.bindsN (ps := ["self", "other"]) F40 fun _ _ _ _ _ _ us hl => match us, hl with | [_, _], _ => rfl
  have E40 : ∃ ds, Vals [] ds ∧ Binds K _ ["self", "other"] ds := ⟨[], .nil, B40⟩
  have F41 : FunD K "__call__" "Signals.__call__" (defArgs s_Signals___call__) (defBody s_Signals___call__) (defScope s_Signals___call__) [] [] f41 _ := ⟨⟨_, _, _, _, _, _, _, _, _, _, rfl, l41, c41, (.inl ⟨rfl, rfl⟩), .inl rfl⟩, k41⟩
  have B41 : Binds K _ ["self", "message"] [] := FunD.bindsN (ps := ["self", "message"]) F41 fun _ _ _ _ _ _ us hl => match us, hl with | [_, _], _ => rfl
  have E41 : ∃ ds, Vals [] ds ∧ Binds K _ ["self", "message"] ds := ⟨[], .nil, B41⟩
  have F42 := fun_mk (st := s_write_signals) l42 c42 k42
  have F43 := fun_mk (st := s_read_signals) l43 c43 k43
  have F44 := fun_mk (st := s_L_draw) l44 c44 k44
  have F45 := fun_mk (st := s_L_mix) l45 c45 k45
  have F46 := fun_mk (st := s_L_pick) l46 c46 k46
  have F47 := fun_mk (st := s_L_sign) l47 c47 k47
  have F48 := fun_mk (st := s_L_round) l48 c48 k48
  have F49 := fun_mk (st := s_L_bent) l49 c49 k49
  have F50 := fun_mk (st := s_L_letter) l50 c50 k50
  have F51 := fun_mk (st := s_L_talk) l51 c51 k51
  have F52 := fun_mk (st := s_L_least) l52 c52 k52
  have F53 := fun_mk (st := s_L_items) l53 c53 k53
  have F54 := fun_mk (st := s_L_folded) l54 c54 k54
  have F55 := fun_mk (st := s_L_texts) l55 c55 k55
  have F56 := fun_mk (st := s_L_is_row) l56 c56 k56
  have F57 := fun_mk (st := s_L_round_of) l57 c57 k57
  have F58 := fun_mk (st := s_L_bad_word) l58 c58 k58
  have F59 := fun_mk (st := s_L_due) l59 c59 k59
  have F60 := fun_mk (st := s_L_told) l60 c60 k60
  have F61 := fun_mk (st := s_L_spoilt_line) l61 c61 k61
  have F62 := fun_mk (st := s_L_spoilt) l62 c62 k62
  have F63 := fun_mk (st := s_L_asked) l63 c63 k63
  have F64 := fun_mk (st := s_law) l64 c64 k64
  have F65 := fun_mk (st := s_BadRound) xf_BadRound xc_BadRound xkf_BadRound
  have F66 := fun_mk (st := s_BadText) xf_BadText xc_BadText xkf_BadText
  have F67 := fun_mk (st := s_BadLine) xf_BadLine xc_BadLine xkf_BadLine
  have F68 := fun_mk (st := s_BadSignal) xf_BadSignal xc_BadSignal xkf_BadSignal
  have F69 := fun_mk (st := s_BadMessage) xf_BadMessage xc_BadMessage xkf_BadMessage
  have F70 := fun_mk (st := s_TooLong) xf_TooLong xc_TooLong xkf_TooLong
  have T : Txt K mg C_GlimError C_BadRound C_BadText C_BadLine C_BadSignal C_BadMessage C_TooLong C_Lines C_Signals C_dt_Signals___init__ := {
    d_deep := ⟨_, _, F1, PySem.W.mg_of X G a1, B1, E1⟩
    d_wrong_sign := ⟨_, _, F2, PySem.W.mg_of X G a2, (F2.binds (ps := ["row"]) fun _ _ _ _ _ _ us hl => match us, hl with | [_], _ => rfl)⟩
    d_is_row := ⟨_, _, F3, PySem.W.mg_of X G a3, (F3.binds (ps := ["thing", "most"]) fun _ _ _ _ _ _ us hl => match us, hl with | [_, _], _ => rfl)⟩
    d_is_letter := ⟨_, _, F4, PySem.W.mg_of X G a4, (F4.binds (ps := ["thing"]) fun _ _ _ _ _ _ us hl => match us, hl with | [_], _ => rfl)⟩
    d_check_round := ⟨_, _, F5, PySem.W.mg_of X G a5, (F5.binds (ps := ["thing"]) fun _ _ _ _ _ _ us hl => match us, hl with | [_], _ => rfl)⟩
    d_shortlex := ⟨_, _, F6, PySem.W.mg_of X G a6, (F6.binds (ps := ["row"]) fun _ _ _ _ _ _ us hl => match us, hl with | [_], _ => rfl)⟩
    d_least_text := ⟨_, _, F7, PySem.W.mg_of X G a7, (F7.binds (ps := ["texts"]) fun _ _ _ _ _ _ us hl => match us, hl with | [_], _ => rfl)⟩
    d_closed_text := ⟨_, _, F8, PySem.W.mg_of X G a8, (F8.binds (ps := ["part", "texts"]) fun _ _ _ _ _ _ us hl => match us, hl with | [_, _], _ => rfl)⟩
    d_item_text := ⟨_, _, F9, PySem.W.mg_of X G a9, (F9.binds (ps := ["part", "texts"]) fun _ _ _ _ _ _ us hl => match us, hl with | [_, _], _ => rfl)⟩
    d_items_text := ⟨_, _, F10, PySem.W.mg_of X G a10, (F10.binds (ps := ["part", "items", "texts"]) fun _ _ _ _ _ _ us hl => match us, hl with | [_, _, _], _ => rfl)⟩
    d_fold_round := ⟨_, _, F11, PySem.W.mg_of X G a11, (F11.binds (ps := ["row"]) fun _ _ _ _ _ _ us hl => match us, hl with | [_], _ => rfl)⟩
    d_common_beats := ⟨_, _, F12, PySem.W.mg_of X G a12, (F12.binds (ps := ["first", "second"]) fun _ _ _ _ _ _ us hl => match us, hl with | [_, _], _ => rfl)⟩
    d_repeated := ⟨_, _, F13, PySem.W.mg_of X G a13, (F13.binds (ps := ["stretch", "times"]) fun _ _ _ _ _ _ us hl => match us, hl with | [_, _], _ => rfl)⟩
    d_put_behind := ⟨_, _, F14, PySem.W.mg_of X G a14, (F14.binds (ps := ["stretch", "other"]) fun _ _ _ _ _ _ us hl => match us, hl with | [_, _], _ => rfl)⟩
    d_first_lit := ⟨_, _, F15, PySem.W.mg_of X G a15, (F15.binds (ps := ["signs"]) fun _ _ _ _ _ _ us hl => match us, hl with | [_], _ => rfl)⟩
    d_shown_together := ⟨_, _, F16, PySem.W.mg_of X G a16, (F16.binds (ps := ["parts"]) fun _ _ _ _ _ _ us hl => match us, hl with | [_], _ => rfl)⟩
    d_behind_digits := ⟨_, _, F17, PySem.W.mg_of X G a17, (F17.binds (ps := ["text", "at"]) fun _ _ _ _ _ _ us hl => match us, hl with | [_, _], _ => rfl)⟩
    d_is_within := ⟨_, _, F18, PySem.W.mg_of X G a18, (F18.binds (ps := ["run", "low", "high"]) fun _ _ _ _ _ _ us hl => match us, hl with | [_, _, _], _ => rfl)⟩
    d_read_item := ⟨_, _, F19, PySem.W.mg_of X G a19, (F19.binds (ps := ["text", "at", "opened"]) fun _ _ _ _ _ _ us hl => match us, hl with | [_, _, _], _ => rfl)⟩
    d_read_filled := ⟨_, _, F20, PySem.W.mg_of X G a20, (F20.binds (ps := ["text", "at", "part"]) fun _ _ _ _ _ _ us hl => match us, hl with | [_, _, _], _ => rfl)⟩
    d_read_part := ⟨_, _, F21, PySem.W.mg_of X G a21, (F21.binds (ps := ["text", "at", "opened"]) fun _ _ _ _ _ _ us hl => match us, hl with | [_, _, _], _ => rfl)⟩
    d_read_parts := ⟨_, _, F22, PySem.W.mg_of X G a22, (F22.binds (ps := ["text", "at", "opened"]) fun _ _ _ _ _ _ us hl => match us, hl with | [_, _, _], _ => rfl)⟩
    d_read_round := ⟨_, _, F23, PySem.W.mg_of X G a23, (F23.binds (ps := ["text"]) fun _ _ _ _ _ _ us hl => match us, hl with | [_], _ => rfl)⟩
    m_Lines___init__ := ⟨f24, _, ⟨wmk_Lines, a24, i24, wkc_Lines⟩, PySem.W.mg_of X G g_Lines, F24, B24, E24⟩
    m_Lines_is_over := ⟨f25, _, ⟨a25, i25, k25⟩, F25, B25, E25⟩
    m_Lines_words := ⟨f26, _, ⟨a26, i26, k26⟩, F26, B26, E26⟩
    m_Lines_word_at := ⟨f27, _, ⟨a27, i27, k27⟩, F27, B27, E27⟩
    m_Lines_letter_at := ⟨f28, _, ⟨a28, i28, k28⟩, F28, B28, E28⟩
    m_Lines_row_at := ⟨f29, _, ⟨a29, i29, k29⟩, F29, B29, E29⟩
    m_Lines_round_at := ⟨f30, _, ⟨a30, i30, k30⟩, F30, B30, E30⟩
    m_Lines_close_at := ⟨f31, _, ⟨a31, i31, k31⟩, F31, B31, E31⟩
    m_Lines_want := ⟨f32, _, ⟨a32, i32, k32⟩, F32, B32, E32⟩
    d_is_signal := ⟨_, _, F33, PySem.W.mg_of X G a33, (F33.binds (ps := ["thing"]) fun _ _ _ _ _ _ us hl => match us, hl with | [_], _ => rfl)⟩
    d_check_signals := ⟨_, _, F34, PySem.W.mg_of X G a34, (F34.binds (ps := ["signals"]) fun _ _ _ _ _ _ us hl => match us, hl with | [_], _ => rfl)⟩
    d_wrong_piece := ⟨_, _, F35, PySem.W.mg_of X G a35, (F35.binds (ps := ["signals", "message"]) fun _ _ _ _ _ _ us hl => match us, hl with | [_, _], _ => rfl)⟩
    d_message_row := ⟨_, _, F36, PySem.W.mg_of X G a36, (F36.binds (ps := ["signals", "message"]) fun _ _ _ _ _ _ us hl => match us, hl with | [_, _], _ => rfl)⟩
    m_Signals___init__ := ⟨f37, _, ⟨wmk_Signals, a37, i37, wkc_Signals⟩, PySem.W.mg_of X G g_Signals, F37, B37, E37⟩
    m_Signals___len__ := ⟨f38, _, ⟨a38, i38, k38⟩, F38, B38, E38⟩
    m_Signals___iter__ := ⟨f39, _, ⟨a39, i39, k39⟩, F39, B39, E39⟩
    m_Signals___eq__ := ⟨f40, _, ⟨a40, i40, k40⟩, F40, B40, E40⟩
    m_Signals___call__ := ⟨f41, _, ⟨a41, i41, k41⟩, F41, B41, E41⟩
    d_write_signals := ⟨_, _, F42, PySem.W.mg_of X G a42, (F42.binds (ps := ["signals"]) fun _ _ _ _ _ _ us hl => match us, hl with | [_], _ => rfl)⟩
    d_read_signals := ⟨_, _, F43, PySem.W.mg_of X G a43, (F43.binds (ps := ["lines"]) fun _ _ _ _ _ _ us hl => match us, hl with | [_], _ => rfl)⟩
    d_L_draw := ⟨_, _, F44, PySem.W.mg_of X G a44, (F44.binds (ps := ["_law_script"]) fun _ _ _ _ _ _ us hl => match us, hl with | [_], _ => rfl)⟩
    d_L_mix := ⟨_, _, F45, PySem.W.mg_of X G a45, (F45.binds (ps := ["_law_cell", "_law_turn"]) fun _ _ _ _ _ _ us hl => match us, hl with | [_, _], _ => rfl)⟩
    d_L_pick := ⟨_, _, F46, PySem.W.mg_of X G a46, (F46.binds (ps := ["_law_draw_here", "_law_many"]) fun _ _ _ _ _ _ us hl => match us, hl with | [_, _], _ => rfl)⟩
    d_L_sign := ⟨_, _, F47, PySem.W.mg_of X G a47, (F47.binds (ps := ["_law_draw_here"]) fun _ _ _ _ _ _ us hl => match us, hl with | [_], _ => rfl)⟩
    d_L_round := ⟨_, _, F48, PySem.W.mg_of X G a48, (F48.binds (ps := ["_law_draw_here", "_law_most"]) fun _ _ _ _ _ _ us hl => match us, hl with | [_, _], _ => rfl)⟩
    d_L_bent := ⟨_, _, F49, PySem.W.mg_of X G a49, (F49.binds (ps := ["_law_draw_here", "_law_row"]) fun _ _ _ _ _ _ us hl => match us, hl with | [_, _], _ => rfl)⟩
    d_L_letter := ⟨_, _, F50, PySem.W.mg_of X G a50, (F50.binds (ps := ["_law_draw_here", "_law_used"]) fun _ _ _ _ _ _ us hl => match us, hl with | [_, _], _ => rfl)⟩
    d_L_talk := ⟨_, _, F51, PySem.W.mg_of X G a51, (F51.binds (ps := ["_law_draw_here", "_law_many", "_law_most"]) fun _ _ _ _ _ _ us hl => match us, hl with | [_, _, _], _ => rfl)⟩
    d_L_least := ⟨_, _, F52, PySem.W.mg_of X G a52, (F52.binds (ps := ["_law_texts_here"]) fun _ _ _ _ _ _ us hl => match us, hl with | [_], _ => rfl)⟩
    d_L_items := ⟨_, _, F53, PySem.W.mg_of X G a53, (F53.binds (ps := ["_law_row", "_law_parts"]) fun _ _ _ _ _ _ us hl => match us, hl with | [_, _], _ => rfl)⟩
    d_L_folded := ⟨_, _, F54, PySem.W.mg_of X G a54, (F54.binds (ps := ["_law_row"]) fun _ _ _ _ _ _ us hl => match us, hl with | [_], _ => rfl)⟩
    d_L_texts := ⟨_, _, F55, PySem.W.mg_of X G a55, (F55.binds (ps := []) fun _ _ _ _ _ _ us hl => match us, hl with | [], _ => rfl)⟩
    d_L_is_row := ⟨_, _, F56, PySem.W.mg_of X G a56, (F56.binds (ps := ["_law_word", "_law_most"]) fun _ _ _ _ _ _ us hl => match us, hl with | [_, _], _ => rfl)⟩
    d_L_round_of := ⟨_, _, F57, PySem.W.mg_of X G a57, (F57.binds (ps := ["_law_word", "_law_texts_here"]) fun _ _ _ _ _ _ us hl => match us, hl with | [_, _], _ => rfl)⟩
    d_L_bad_word := ⟨_, _, F58, PySem.W.mg_of X G a58, (F58.binds (ps := ["_law_line", "_law_number", "_law_texts_here"]) fun _ _ _ _ _ _ us hl => match us, hl with | [_, _, _], _ => rfl)⟩
    d_L_due := ⟨_, _, F59, PySem.W.mg_of X G a59, (F59.binds (ps := ["_law_lines", "_law_texts_here"]) fun _ _ _ _ _ _ us hl => match us, hl with | [_, _], _ => rfl)⟩
    d_L_told := ⟨_, _, F60, PySem.W.mg_of X G a60, (F60.binds (ps := ["_law_lines"]) fun _ _ _ _ _ _ us hl => match us, hl with | [_], _ => rfl)⟩
    d_L_spoilt_line := ⟨_, _, F61, PySem.W.mg_of X G a61, (F61.binds (ps := ["_law_draw_here", "_law_line", "_law_texts_here"]) fun _ _ _ _ _ _ us hl => match us, hl with | [_, _, _], _ => rfl)⟩
    d_L_spoilt := ⟨_, _, F62, PySem.W.mg_of X G a62, (F62.binds (ps := ["_law_draw_here", "_law_lines", "_law_texts_here"]) fun _ _ _ _ _ _ us hl => match us, hl with | [_, _, _], _ => rfl)⟩
    d_L_asked := ⟨_, _, F63, PySem.W.mg_of X G a63, (F63.binds (ps := ["_law_draw_here"]) fun _ _ _ _ _ _ us hl => match us, hl with | [_], _ => rfl)⟩
    d_law := ⟨_, _, F64, PySem.W.mg_of X G a64, (F64.binds (ps := ["_law_script"]) fun _ _ _ _ _ _ us hl => match us, hl with | [_], _ => rfl)⟩
    b_abs := PySem.W.mg_none_of X G z_abs
    b_enumerate := PySem.W.mg_none_of X G z_enumerate
    b_int := PySem.W.mg_none_of X G z_int
    b_isinstance := PySem.W.mg_none_of X G z_isinstance
    b_iter := PySem.W.mg_none_of X G z_iter
    b_len := PySem.W.mg_none_of X G z_len
    b_list := PySem.W.mg_none_of X G z_list
    b_max := PySem.W.mg_none_of X G z_max
    b_min := PySem.W.mg_none_of X G z_min
    b_range := PySem.W.mg_none_of X G z_range
    b_repr := PySem.W.mg_none_of X G z_repr
    b_sorted := PySem.W.mg_none_of X G z_sorted
    b_str := PySem.W.mg_none_of X G z_str
    b_sum := PySem.W.mg_none_of X G z_sum
    b_tuple := PySem.W.mg_none_of X G z_tuple
    g_SIGNS := ⟨t_SIGNS, (PySem.W.mg_of X G v_SIGNS).trans (congrArg some (congrArg (fun z => Value.str z t_SIGNS) (by decide +kernel : (".grw" : Str) = ⟨([46, 103, 114, 119] : List Nat).toArray⟩)))⟩
    g_LETTERS := ⟨t_LETTERS, (PySem.W.mg_of X G v_LETTERS).trans (congrArg some (congrArg (fun z => Value.str z t_LETTERS) (by decide +kernel : ("abcdefghijklmnopqrstuvwxyz" : Str) = ⟨([97, 98, 99, 100, 101, 102, 103, 104, 105, 106, 107, 108, 109, 110, 111, 112, 113, 114, 115, 116, 117, 118, 119, 120, 121, 122] : List Nat).toArray⟩)))⟩
    g_MOST_LEVELS := ⟨t_MOST_LEVELS, PySem.W.mg_of X G v_MOST_LEVELS⟩
    g_MOST_ROUND := ⟨t_MOST_ROUND, PySem.W.mg_of X G v_MOST_ROUND⟩
    g_DIGITS := ⟨t_DIGITS, (PySem.W.mg_of X G v_DIGITS).trans (congrArg some (congrArg (fun z => Value.str z t_DIGITS) (by decide +kernel : ("0123456789" : Str) = ⟨([48, 49, 50, 51, 52, 53, 54, 55, 56, 57] : List Nat).toArray⟩)))⟩
    g_MOST_OPEN := ⟨t_MOST_OPEN, PySem.W.mg_of X G v_MOST_OPEN⟩
    g_PLAIN := ⟨t_PLAIN, (PySem.W.mg_of X G v_PLAIN).trans (congrArg some (congrArg (fun z => Value.str z t_PLAIN) (by decide +kernel : ("0" : Str) = ⟨([48] : List Nat).toArray⟩)))⟩
    g_MOST_SIGNALS := ⟨t_MOST_SIGNALS, PySem.W.mg_of X G v_MOST_SIGNALS⟩
    g_MOST_WORD := ⟨t_MOST_WORD, PySem.W.mg_of X G v_MOST_WORD⟩
    g_MOST_PIECES := ⟨t_MOST_PIECES, PySem.W.mg_of X G v_MOST_PIECES⟩
    c_GlimError := PySem.W.mg_of X G g_GlimError
    c_BadRound := PySem.W.mg_of X G g_BadRound
    c_BadText := PySem.W.mg_of X G g_BadText
    c_BadLine := PySem.W.mg_of X G g_BadLine
    c_BadSignal := PySem.W.mg_of X G g_BadSignal
    c_BadMessage := PySem.W.mg_of X G g_BadMessage
    c_TooLong := PySem.W.mg_of X G g_TooLong
    c_Lines := PySem.W.mg_of X G g_Lines
    c_Signals := PySem.W.mg_of X G g_Signals
    q_dt_Signals___init__ := ⟨_, lt_dt_Signals___init__, rfl, fun H => .inr ⟨_, _, _, lt_dt_Signals___init__, rfl, rfl, by show 0 ≤ sizeLine; exact Nat.zero_le _, .nil⟩⟩
    cl_Lines := ⟨wpg_Lines, whd_Lines, wpo_Lines, wsa_Lines⟩
    ic_Lines := ⟨⟨wpg_Lines, whd_Lines, wpo_Lines, wsa_Lines⟩, wca_Lines, xsp, xtk, wmo_Lines⟩
    nt_Lines := wnt_Lines
    st_Lines := wst_Lines
    na_Lines_texts := wna_Lines_texts
    na_Lines_now := wna_Lines_now
    cl_Signals := ⟨wpg_Signals, whd_Signals, wpo_Signals, wsa_Signals⟩
    ic_Signals := ⟨⟨wpg_Signals, whd_Signals, wpo_Signals, wsa_Signals⟩, wca_Signals, xsp, xtk, wmo_Signals⟩
    nt_Signals := wnt_Signals
    st_Signals := wst_Signals
    na_Signals_plain := wna_Signals_plain
    na_Signals_signals := wna_Signals_signals
    na_Signals_spelled := wna_Signals_spelled
    o_BadRound := ⟨⟨nm_BadRound, q_BadRound, N_BadRound, bs_BadRound, bm_BadRound, sn_BadRound, sub_BadRound, ab_BadRound, col_BadRound, dd_BadRound, m0_BadRound, m1_BadRound, m2_BadRound, m3_BadRound, m5_BadRound, xl_BadRound, xr_BadRound⟩, xsa_BadRound, xe_BadRound, xty_BadRound, xk_BadRound⟩
    nf_BadRound_number := xnf_BadRound_number
    i_BadRound := ⟨f65, _, xi_BadRound, xt_BadRound, F65, (F65.binds (ps := ["self", "number"]) fun _ _ _ _ _ _ us hl => match us, hl with | [_, _], _ => rfl)⟩
    e_BadRound := ⟨xis_BadRound, xga_BadRound, xgg_BadRound, xe_BadRound, xhd_BadRound, xca_BadRound, xsp, xtk, xm_BadRound⟩
    o_BadText := ⟨⟨nm_BadText, q_BadText, N_BadText, bs_BadText, bm_BadText, sn_BadText, sub_BadText, ab_BadText, col_BadText, dd_BadText, m0_BadText, m1_BadText, m2_BadText, m3_BadText, m5_BadText, xl_BadText, xr_BadText⟩, xsa_BadText, xe_BadText, xty_BadText, xk_BadText⟩
    nf_BadText_at := xnf_BadText_at
    i_BadText := ⟨f66, _, xi_BadText, xt_BadText, F66, (F66.binds (ps := ["self", "at"]) fun _ _ _ _ _ _ us hl => match us, hl with | [_, _], _ => rfl)⟩
    e_BadText := ⟨xis_BadText, xga_BadText, xgg_BadText, xe_BadText, xhd_BadText, xca_BadText, xsp, xtk, xm_BadText⟩
    o_BadLine := ⟨⟨nm_BadLine, q_BadLine, N_BadLine, bs_BadLine, bm_BadLine, sn_BadLine, sub_BadLine, ab_BadLine, col_BadLine, dd_BadLine, m0_BadLine, m1_BadLine, m2_BadLine, m3_BadLine, m5_BadLine, xl_BadLine, xr_BadLine⟩, xsa_BadLine, xe_BadLine, xty_BadLine, xk_BadLine⟩
    nf_BadLine_line := xnf_BadLine_line
    nf_BadLine_word := xnf_BadLine_word
    i_BadLine := ⟨f67, _, xi_BadLine, xt_BadLine, F67, (F67.binds (ps := ["self", "line", "word"]) fun _ _ _ _ _ _ us hl => match us, hl with | [_, _, _], _ => rfl)⟩
    e_BadLine := ⟨xis_BadLine, xga_BadLine, xgg_BadLine, xe_BadLine, xhd_BadLine, xca_BadLine, xsp, xtk, xm_BadLine⟩
    o_BadSignal := ⟨⟨nm_BadSignal, q_BadSignal, N_BadSignal, bs_BadSignal, bm_BadSignal, sn_BadSignal, sub_BadSignal, ab_BadSignal, col_BadSignal, dd_BadSignal, m0_BadSignal, m1_BadSignal, m2_BadSignal, m3_BadSignal, m5_BadSignal, xl_BadSignal, xr_BadSignal⟩, xsa_BadSignal, xe_BadSignal, xty_BadSignal, xk_BadSignal⟩
    nf_BadSignal_number := xnf_BadSignal_number
    i_BadSignal := ⟨f68, _, xi_BadSignal, xt_BadSignal, F68, (F68.binds (ps := ["self", "number"]) fun _ _ _ _ _ _ us hl => match us, hl with | [_, _], _ => rfl)⟩
    e_BadSignal := ⟨xis_BadSignal, xga_BadSignal, xgg_BadSignal, xe_BadSignal, xhd_BadSignal, xca_BadSignal, xsp, xtk, xm_BadSignal⟩
    o_BadMessage := ⟨⟨nm_BadMessage, q_BadMessage, N_BadMessage, bs_BadMessage, bm_BadMessage, sn_BadMessage, sub_BadMessage, ab_BadMessage, col_BadMessage, dd_BadMessage, m0_BadMessage, m1_BadMessage, m2_BadMessage, m3_BadMessage, m5_BadMessage, xl_BadMessage, xr_BadMessage⟩, xsa_BadMessage, xe_BadMessage, xty_BadMessage, xk_BadMessage⟩
    nf_BadMessage_number := xnf_BadMessage_number
    i_BadMessage := ⟨f69, _, xi_BadMessage, xt_BadMessage, F69, (F69.binds (ps := ["self", "number"]) fun _ _ _ _ _ _ us hl => match us, hl with | [_, _], _ => rfl)⟩
    e_BadMessage := ⟨xis_BadMessage, xga_BadMessage, xgg_BadMessage, xe_BadMessage, xhd_BadMessage, xca_BadMessage, xsp, xtk, xm_BadMessage⟩
    o_TooLong := ⟨⟨nm_TooLong, q_TooLong, N_TooLong, bs_TooLong, bm_TooLong, sn_TooLong, sub_TooLong, ab_TooLong, col_TooLong, dd_TooLong, m0_TooLong, m1_TooLong, m2_TooLong, m3_TooLong, m5_TooLong, xl_TooLong, xr_TooLong⟩, xsa_TooLong, xe_TooLong, xty_TooLong, xk_TooLong⟩
    nf_TooLong_number := xnf_TooLong_number
    i_TooLong := ⟨f70, _, xi_TooLong, xt_TooLong, F70, (F70.binds (ps := ["self", "number"]) fun _ _ _ _ _ _ us hl => match us, hl with | [_, _], _ => rfl)⟩
    e_TooLong := ⟨xis_TooLong, xga_TooLong, xgg_TooLong, xe_TooLong, xhd_TooLong, xca_TooLong, xsp, xtk, xm_TooLong⟩
    k_Signals_Signals := Fg.kit_ref qi_Signals qt_Signals qs_Signals y_Signals_Signals
    k_tuple_Signals := Fg.kit_bltn qi_Signals qt_Signals y_tuple_Signals
    k_str_Signals := Fg.kit_bltn qi_Signals qt_Signals y_str_Signals
    k_int_Signals := Fg.kit_bltn qi_Signals qt_Signals y_int_Signals
    k_list_Signals := Fg.kit_bltn qi_Signals qt_Signals y_list_Signals
    k_BadLine_BadText := Fg.kit_ref qi_BadText qt_BadText qs_BadText y_BadLine_BadText
    k_BadLine_TooLong := Fg.kit_ref qi_TooLong qt_TooLong qs_TooLong y_BadLine_TooLong
    k_BadLine_BadRound := Fg.kit_ref qi_BadRound qt_BadRound qs_BadRound y_BadLine_BadRound
    k_BadLine_BadLine := Fg.kit_ref qi_BadLine qt_BadLine qs_BadLine y_BadLine_BadLine
    k_BadLine_BadSignal := Fg.kit_ref qi_BadSignal qt_BadSignal qs_BadSignal y_BadLine_BadSignal
    k_BadSignal_BadText := Fg.kit_ref qi_BadText qt_BadText qs_BadText y_BadSignal_BadText
    k_BadSignal_TooLong := Fg.kit_ref qi_TooLong qt_TooLong qs_TooLong y_BadSignal_TooLong
    k_BadSignal_BadRound := Fg.kit_ref qi_BadRound qt_BadRound qs_BadRound y_BadSignal_BadRound
    k_BadSignal_BadLine := Fg.kit_ref qi_BadLine qt_BadLine qs_BadLine y_BadSignal_BadLine
    k_BadSignal_BadSignal := Fg.kit_ref qi_BadSignal qt_BadSignal qs_BadSignal y_BadSignal_BadSignal
    m_BadLine_GlimError := Fg.exm_ref qi_GlimError qt_GlimError qb_GlimError x_BadLine_GlimError
    m_BadSignal_GlimError := Fg.exm_ref qi_GlimError qt_GlimError qb_GlimError x_BadSignal_GlimError
    m_BadText_BadText := Fg.exm_ref qi_BadText qt_BadText qb_BadText x_BadText_BadText
    m_BadText_TooLong := Fg.exm_ref qi_TooLong qt_TooLong qb_TooLong x_BadText_TooLong
    m_TooLong_BadText := Fg.exm_ref qi_BadText qt_BadText qb_BadText x_TooLong_BadText
    m_TooLong_TooLong := Fg.exm_ref qi_TooLong qt_TooLong qb_TooLong x_TooLong_TooLong }
  refine ⟨PySem.W.fnOf "law" "law" (defArgs s_law) (defBody s_law) (defScope s_law) .none kV64 dc64 pm64 an64 cd64 ct64, fun s v => .of_eq rfl, fun base _ _ => ?_⟩
  exact ok_law_at F64 T
end K76
open PySem PySem.W PyProof.Rows
set_option maxRecDepth 100000 in
set_option maxHeartbeats 0 in
theorem PySem.Challenge.cw_falseglim_k76_signal_lines_holds : PySem.Challenge.rw_falseglim_k76_signal_lines.Holds := by
  w_on; o_law; k_head; (case hw => w_witness2)
  k_fill
  refine Fg.walk_g (l := PySem.Challenge.rw_falseglim_k76_signal_lines) (n := 63) (k := 30) (x := "_law_script") (CX := fun _ => L2.CX0) (sp := fun w => Fg.sp1 (K76.p_law _)) rfl (by decide) rfl ⟨rfl, by decide, by decide⟩ (fun w h Y => PySem.W.kIn_of Y) ?F (fun _ _ a ns hl _ hS => ⟨.ref a, rfl, a, ns, rfl, hS, hl, fun _ => rfl⟩) (fun _ _ _ _ _ h => h)
  case F =>
    intro w mg fa h KX G hmg
    refine' K76.all_mk KX G hmg ?a1 ?l1 ?c1 ?k1 ?e1 ?a2 ?l2 ?c2 ?k2 ?a3 ?l3 ?c3 ?k3 ?a4 ?l4 ?c4 ?k4 ?a5 ?l5 ?c5 ?k5 ?a6 ?l6 ?c6 ?k6 ?a7 ?l7 ?c7 ?k7 ?a8 ?l8 ?c8 ?k8 ?a9 ?l9 ?c9 ?k9 ?a10 ?l10 ?c10 ?k10 ?a11 ?l11 ?c11 ?k11 ?a12 ?l12 ?c12 ?k12 ?a13 ?l13 ?c13 ?k13 ?a14 ?l14 ?c14 ?k14 ?a15 ?l15 ?c15 ?k15 ?a16 ?l16 ?c16 ?k16 ?a17 ?l17 ?c17 ?k17 ?a18 ?l18 ?c18 ?k18 ?a19 ?l19 ?c19 ?k19 ?a20 ?l20 ?c20 ?k20 ?a21 ?l21 ?c21 ?k21 ?a22 ?l22 ?c22 ?k22 ?a23 ?l23 ?c23 ?k23 ?a24 ?i24 ?l24 ?c24 ?k24 ?e24 ?a25 ?i25 ?l25 ?c25 ?k25 ?a26 ?i26 ?l26 ?c26 ?k26 ?a27 ?i27 ?l27 ?c27 ?k27 ?a28 ?i28 ?l28 ?c28 ?k28 ?a29 ?i29 ?l29 ?c29 ?k29 ?a30 ?i30 ?l30 ?c30 ?k30 ?a31 ?i31 ?l31 ?c31 ?k31 ?a32 ?i32 ?l32 ?c32 ?k32 ?a33 ?l33 ?c33 ?k33 ?a34 ?l34 ?c34 ?k34 ?a35 ?l35 ?c35 ?k35 ?a36 ?l36 ?c36 ?k36 ?a37 ?i37 ?l37 ?c37 ?k37 ?e37 ?a38 ?i38 ?l38 ?c38 ?k38 ?a39 ?i39 ?l39 ?c39 ?k39 ?a40 ?i40 ?l40 ?c40 ?k40 ?a41 ?i41 ?l41 ?c41 ?k41 ?a42 ?l42 ?c42 ?k42 ?a43 ?l43 ?c43 ?k43 ?a44 ?l44 ?c44 ?k44 ?a45 ?l45 ?c45 ?k45 ?a46 ?l46 ?c46 ?k46 ?a47 ?l47 ?c47 ?k47 ?a48 ?l48 ?c48 ?k48 ?a49 ?l49 ?c49 ?k49 ?a50 ?l50 ?c50 ?k50 ?a51 ?l51 ?c51 ?k51 ?a52 ?l52 ?c52 ?k52 ?a53 ?l53 ?c53 ?k53 ?a54 ?l54 ?c54 ?k54 ?a55 ?l55 ?c55 ?k55 ?a56 ?l56 ?c56 ?k56 ?a57 ?l57 ?c57 ?k57 ?a58 ?l58 ?c58 ?k58 ?a59 ?l59 ?c59 ?k59 ?a60 ?l60 ?c60 ?k60 ?a61 ?l61 ?c61 ?k61 ?a62 ?l62 ?c62 ?k62 ?a63 ?l63 ?c63 ?k63 ?a64 ?l64 ?c64 ?k64 ?lt_dt_Signals___init__ ?wpg_Lines ?whd_Lines ?wpo_Lines ?wsa_Lines ?wmk_Lines ?wkc_Lines ?wca_Lines ?wmo_Lines ?wnt_Lines ?wst_Lines ?wna_Lines_texts ?wna_Lines_now ?wpg_Signals ?whd_Signals ?wpo_Signals ?wsa_Signals ?wmk_Signals ?wkc_Signals ?wca_Signals ?wmo_Signals ?wnt_Signals ?wst_Signals ?wna_Signals_plain ?wna_Signals_signals ?wna_Signals_spelled ?z_abs ?z_enumerate ?z_int ?z_isinstance ?z_iter ?z_len ?z_list ?z_max ?z_min ?z_range ?z_repr ?z_sorted ?z_str ?z_sum ?z_tuple ?v_SIGNS ?v_LETTERS ?v_MOST_LEVELS ?v_MOST_ROUND ?v_DIGITS ?v_MOST_OPEN ?v_PLAIN ?v_MOST_SIGNALS ?v_MOST_WORD ?v_MOST_PIECES ?g_GlimError ?g_BadRound ?g_BadText ?g_BadLine ?g_BadSignal ?g_BadMessage ?g_TooLong ?g_Lines ?g_Signals ?xl_BadRound ?xr_BadRound ?xsa_BadRound ?xga_BadRound ?xgg_BadRound ?xnf_BadRound_number ?xi_BadRound ?xt_BadRound ?xf_BadRound ?xc_BadRound ?xkf_BadRound ?xk_BadRound ?xe_BadRound ?xty_BadRound ?xhd_BadRound ?xis_BadRound ?xca_BadRound ?xm_BadRound ?xl_BadText ?xr_BadText ?xsa_BadText ?xga_BadText ?xgg_BadText ?xnf_BadText_at ?xi_BadText ?xt_BadText ?xf_BadText ?xc_BadText ?xkf_BadText ?xk_BadText ?xe_BadText ?xty_BadText ?xhd_BadText ?xis_BadText ?xca_BadText ?xm_BadText ?xl_BadLine ?xr_BadLine ?xsa_BadLine ?xga_BadLine ?xgg_BadLine ?xnf_BadLine_line ?xnf_BadLine_word ?xi_BadLine ?xt_BadLine ?xf_BadLine ?xc_BadLine ?xkf_BadLine ?xk_BadLine ?xe_BadLine ?xty_BadLine ?xhd_BadLine ?xis_BadLine ?xca_BadLine ?xm_BadLine ?xl_BadSignal ?xr_BadSignal ?xsa_BadSignal ?xga_BadSignal ?xgg_BadSignal ?xnf_BadSignal_number ?xi_BadSignal ?xt_BadSignal ?xf_BadSignal ?xc_BadSignal ?xkf_BadSignal ?xk_BadSignal ?xe_BadSignal ?xty_BadSignal ?xhd_BadSignal ?xis_BadSignal ?xca_BadSignal ?xm_BadSignal ?xl_BadMessage ?xr_BadMessage ?xsa_BadMessage ?xga_BadMessage ?xgg_BadMessage ?xnf_BadMessage_number ?xi_BadMessage ?xt_BadMessage ?xf_BadMessage ?xc_BadMessage ?xkf_BadMessage ?xk_BadMessage ?xe_BadMessage ?xty_BadMessage ?xhd_BadMessage ?xis_BadMessage ?xca_BadMessage ?xm_BadMessage ?xl_TooLong ?xr_TooLong ?xsa_TooLong ?xga_TooLong ?xgg_TooLong ?xnf_TooLong_number ?xi_TooLong ?xt_TooLong ?xf_TooLong ?xc_TooLong ?xkf_TooLong ?xk_TooLong ?xe_TooLong ?xty_TooLong ?xhd_TooLong ?xis_TooLong ?xca_TooLong ?xm_TooLong ?xsp ?xtk ?qi_BadLine ?qt_BadLine ?qs_BadLine ?qb_BadLine ?qi_BadRound ?qt_BadRound ?qs_BadRound ?qb_BadRound ?qi_BadSignal ?qt_BadSignal ?qs_BadSignal ?qb_BadSignal ?qi_BadText ?qt_BadText ?qs_BadText ?qb_BadText ?qi_GlimError ?qt_GlimError ?qs_GlimError ?qb_GlimError ?qi_Signals ?qt_Signals ?qs_Signals ?qi_TooLong ?qt_TooLong ?qs_TooLong ?qb_TooLong ?y_Signals_Signals ?y_tuple_Signals ?y_str_Signals ?y_int_Signals ?y_list_Signals ?y_BadLine_BadText ?y_BadLine_TooLong ?y_BadLine_BadRound ?y_BadLine_BadLine ?y_BadLine_BadSignal ?y_BadSignal_BadText ?y_BadSignal_TooLong ?y_BadSignal_BadRound ?y_BadSignal_BadLine ?y_BadSignal_BadSignal ?x_BadLine_GlimError ?x_BadSignal_GlimError ?x_BadText_BadText ?x_BadText_TooLong ?x_TooLong_BadText ?x_TooLong_TooLong
    (case g_GlimError => k_is)
    (case g_BadRound => k_is)
    (case g_BadText => k_is)
    (case g_BadLine => k_is)
    (case g_BadSignal => k_is)
    (case g_BadMessage => k_is)
    (case g_TooLong => k_is)
    (case g_Lines => k_is)
    (case g_Signals => k_is)
    (case a1 => k_is)
    (case l1 => k_is)
    (case c1 => k_is)
    (case k1 => k_is)
    (case e1 => k_is)
    (case a2 => k_is)
    (case l2 => k_is)
    (case c2 => k_is)
    (case k2 => k_is)
    (case a3 => k_is)
    (case l3 => k_is)
    (case c3 => k_is)
    (case k3 => k_is)
    (case a4 => k_is)
    (case l4 => k_is)
    (case c4 => k_is)
    (case k4 => k_is)
    (case a5 => k_is)
    (case l5 => k_is)
    (case c5 => k_is)
    (case k5 => k_is)
    (case a6 => k_is)
    (case l6 => k_is)
    (case c6 => k_is)
    (case k6 => k_is)
    (case a7 => k_is)
    (case l7 => k_is)
    (case c7 => k_is)
    (case k7 => k_is)
    (case a8 => k_is)
    (case l8 => k_is)
    (case c8 => k_is)
    (case k8 => k_is)
    (case a9 => k_is)
    (case l9 => k_is)
    (case c9 => k_is)
    (case k9 => k_is)
    (case a10 => k_is)
    (case l10 => k_is)
    (case c10 => k_is)
    (case k10 => k_is)
    (case a11 => k_is)
    (case l11 => k_is)
    (case c11 => k_is)
    (case k11 => k_is)
    (case a12 => k_is)
    (case l12 => k_is)
    (case c12 => k_is)
    (case k12 => k_is)
    (case a13 => k_is)
    (case l13 => k_is)
    (case c13 => k_is)
    (case k13 => k_is)
    (case a14 => k_is)
    (case l14 => k_is)
    (case c14 => k_is)
    (case k14 => k_is)
    (case a15 => k_is)
    (case l15 => k_is)
    (case c15 => k_is)
    (case k15 => k_is)
    (case a16 => k_is)
    (case l16 => k_is)
    (case c16 => k_is)
    (case k16 => k_is)
    (case a17 => k_is)
    (case l17 => k_is)
    (case c17 => k_is)
    (case k17 => k_is)
    (case a18 => k_is)
    (case l18 => k_is)
    (case c18 => k_is)
    (case k18 => k_is)
    (case a19 => k_is)
    (case l19 => k_is)
    (case c19 => k_is)
    (case k19 => k_is)
    (case a20 => k_is)
    (case l20 => k_is)
    (case c20 => k_is)
    (case k20 => k_is)
    (case a21 => k_is)
    (case l21 => k_is)
    (case c21 => k_is)
    (case k21 => k_is)
    (case a22 => k_is)
    (case l22 => k_is)
    (case c22 => k_is)
    (case k22 => k_is)
    (case a23 => k_is)
    (case l23 => k_is)
    (case c23 => k_is)
    (case k23 => k_is)
    (case a24 => k_is)
    (case i24 => k_is)
    (case l24 => k_is)
    (case c24 => k_is)
    (case k24 => k_is)
    (case e24 => k_is)
    (case a25 => k_is)
    (case i25 => k_is)
    (case l25 => k_is)
    (case c25 => k_is)
    (case k25 => k_is)
    (case a26 => k_is)
    (case i26 => k_is)
    (case l26 => k_is)
    (case c26 => k_is)
    (case k26 => k_is)
    (case a27 => k_is)
    (case i27 => k_is)
    (case l27 => k_is)
    (case c27 => k_is)
    (case k27 => k_is)
    (case a28 => k_is)
    (case i28 => k_is)
    (case l28 => k_is)
    (case c28 => k_is)
    (case k28 => k_is)
    (case a29 => k_is)
    (case i29 => k_is)
    (case l29 => k_is)
    (case c29 => k_is)
    (case k29 => k_is)
    (case a30 => k_is)
    (case i30 => k_is)
    (case l30 => k_is)
    (case c30 => k_is)
    (case k30 => k_is)
    (case a31 => k_is)
    (case i31 => k_is)
    (case l31 => k_is)
    (case c31 => k_is)
    (case k31 => k_is)
    (case a32 => k_is)
    (case i32 => k_is)
    (case l32 => k_is)
    (case c32 => k_is)
    (case k32 => k_is)
    (case a33 => k_is)
    (case l33 => k_is)
    (case c33 => k_is)
    (case k33 => k_is)
    (case a34 => k_is)
    (case l34 => k_is)
    (case c34 => k_is)
    (case k34 => k_is)
    (case a35 => k_is)
    (case l35 => k_is)
    (case c35 => k_is)
    (case k35 => k_is)
    (case a36 => k_is)
    (case l36 => k_is)
    (case c36 => k_is)
    (case k36 => k_is)
    (case a37 => k_is)
    (case i37 => k_is)
    (case l37 => k_is)
    (case c37 => k_is)
    (case k37 => k_is)
    (case e37 => k_is)
    (case a38 => k_is)
    (case i38 => k_is)
    (case l38 => k_is)
    (case c38 => k_is)
    (case k38 => k_is)
    (case a39 => k_is)
    (case i39 => k_is)
    (case l39 => k_is)
    (case c39 => k_is)
    (case k39 => k_is)
    (case a40 => k_is)
    (case i40 => k_is)
    (case l40 => k_is)
    (case c40 => k_is)
    (case k40 => k_is)
    (case a41 => k_is)
    (case i41 => k_is)
    (case l41 => k_is)
    (case c41 => k_is)
    (case k41 => k_is)
    (case a42 => k_is)
    (case l42 => k_is)
    (case c42 => k_is)
    (case k42 => k_is)
    (case a43 => k_is)
    (case l43 => k_is)
    (case c43 => k_is)
    (case k43 => k_is)
    (case a44 => k_is)
    (case l44 => k_is)
    (case c44 => k_is)
    (case k44 => k_is)
    (case a45 => k_is)
    (case l45 => k_is)
    (case c45 => k_is)
    (case k45 => k_is)
    (case a46 => k_is)
    (case l46 => k_is)
    (case c46 => k_is)
    (case k46 => k_is)
    (case a47 => k_is)
    (case l47 => k_is)
    (case c47 => k_is)
    (case k47 => k_is)
    (case a48 => k_is)
    (case l48 => k_is)
    (case c48 => k_is)
    (case k48 => k_is)
    (case a49 => k_is)
    (case l49 => k_is)
    (case c49 => k_is)
    (case k49 => k_is)
    (case a50 => k_is)
    (case l50 => k_is)
    (case c50 => k_is)
    (case k50 => k_is)
    (case a51 => k_is)
    (case l51 => k_is)
    (case c51 => k_is)
    (case k51 => k_is)
    (case a52 => k_is)
    (case l52 => k_is)
    (case c52 => k_is)
    (case k52 => k_is)
    (case a53 => k_is)
    (case l53 => k_is)
    (case c53 => k_is)
    (case k53 => k_is)
    (case a54 => k_is)
    (case l54 => k_is)
    (case c54 => k_is)
    (case k54 => k_is)
    (case a55 => k_is)
    (case l55 => k_is)
    (case c55 => k_is)
    (case k55 => k_is)
    (case a56 => k_is)
    (case l56 => k_is)
    (case c56 => k_is)
    (case k56 => k_is)
    (case a57 => k_is)
    (case l57 => k_is)
    (case c57 => k_is)
    (case k57 => k_is)
    (case a58 => k_is)
    (case l58 => k_is)
    (case c58 => k_is)
    (case k58 => k_is)
    (case a59 => k_is)
    (case l59 => k_is)
    (case c59 => k_is)
    (case k59 => k_is)
    (case a60 => k_is)
    (case l60 => k_is)
    (case c60 => k_is)
    (case k60 => k_is)
    (case a61 => k_is)
    (case l61 => k_is)
    (case c61 => k_is)
    (case k61 => k_is)
    (case a62 => k_is)
    (case l62 => k_is)
    (case c62 => k_is)
    (case k62 => k_is)
    (case a63 => k_is)
    (case l63 => k_is)
    (case c63 => k_is)
    (case k63 => k_is)
    (case a64 => k_is)
    (case l64 => k_is)
    (case c64 => k_is)
    (case k64 => k_is)
    (case lt_dt_Signals___init__ => k_is)
    (case wpg_Lines => k_is)
    (case whd_Lines => k_is)
    (case wpo_Lines => k_is)
    (case wsa_Lines => k_is)
    (case wmk_Lines => k_is)
    (case wkc_Lines => k_is)
    (case wca_Lines => k_is)
    (case wmo_Lines => k_is)
    (case wnt_Lines => k_is)
    (case wst_Lines => k_is)
    (case wna_Lines_texts => k_is)
    (case wna_Lines_now => k_is)
    (case wpg_Signals => k_is)
    (case whd_Signals => k_is)
    (case wpo_Signals => k_is)
    (case wsa_Signals => k_is)
    (case wmk_Signals => k_is)
    (case wkc_Signals => k_is)
    (case wca_Signals => k_is)
    (case wmo_Signals => k_is)
    (case wnt_Signals => k_is)
    (case wst_Signals => k_is)
    (case wna_Signals_plain => k_is)
    (case wna_Signals_signals => k_is)
    (case wna_Signals_spelled => k_is)
    (case z_abs => k_is)
    (case z_enumerate => k_is)
    (case z_int => k_is)
    (case z_isinstance => k_is)
    (case z_iter => k_is)
    (case z_len => k_is)
    (case z_list => k_is)
    (case z_max => k_is)
    (case z_min => k_is)
    (case z_range => k_is)
    (case z_repr => k_is)
    (case z_sorted => k_is)
    (case z_str => k_is)
    (case z_sum => k_is)
    (case z_tuple => k_is)
    (case v_SIGNS => k_is)
    (case v_LETTERS => k_is)
    (case v_MOST_LEVELS => k_is)
    (case v_MOST_ROUND => k_is)
    (case v_DIGITS => k_is)
    (case v_MOST_OPEN => k_is)
    (case v_PLAIN => k_is)
    (case v_MOST_SIGNALS => k_is)
    (case v_MOST_WORD => k_is)
    (case v_MOST_PIECES => k_is)
    (case xl_BadRound => k_is)
    (case xr_BadRound => first | rfl | k_is | decide +kernel)
    (case xsa_BadRound => k_is)
    (case xga_BadRound => k_is)
    (case xgg_BadRound => k_is)
    (case xnf_BadRound_number => k_is)
    (case xi_BadRound => k_is)
    (case xt_BadRound => k_is)
    (case xf_BadRound => k_is)
    (case xc_BadRound => k_is)
    (case xkf_BadRound => k_is)
    (case xk_BadRound => k_is)
    (case xe_BadRound => k_is)
    (case xty_BadRound => k_is)
    (case xhd_BadRound => k_is)
    (case xis_BadRound => k_is)
    (case xca_BadRound => k_is)
    (case xm_BadRound => k_is)
    (case xl_BadText => k_is)
    (case xr_BadText => first | rfl | k_is | decide +kernel)
    (case xsa_BadText => k_is)
    (case xga_BadText => k_is)
    (case xgg_BadText => k_is)
    (case xnf_BadText_at => k_is)
    (case xi_BadText => k_is)
    (case xt_BadText => k_is)
    (case xf_BadText => k_is)
    (case xc_BadText => k_is)
    (case xkf_BadText => k_is)
    (case xk_BadText => k_is)
    (case xe_BadText => k_is)
    (case xty_BadText => k_is)
    (case xhd_BadText => k_is)
    (case xis_BadText => k_is)
    (case xca_BadText => k_is)
    (case xm_BadText => k_is)
    (case xl_BadLine => k_is)
    (case xr_BadLine => first | rfl | k_is | decide +kernel)
    (case xsa_BadLine => k_is)
    (case xga_BadLine => k_is)
    (case xgg_BadLine => k_is)
    (case xnf_BadLine_line => k_is)
    (case xnf_BadLine_word => k_is)
    (case xi_BadLine => k_is)
    (case xt_BadLine => k_is)
    (case xf_BadLine => k_is)
    (case xc_BadLine => k_is)
    (case xkf_BadLine => k_is)
    (case xk_BadLine => k_is)
    (case xe_BadLine => k_is)
    (case xty_BadLine => k_is)
    (case xhd_BadLine => k_is)
    (case xis_BadLine => k_is)
    (case xca_BadLine => k_is)
    (case xm_BadLine => k_is)
    (case xl_BadSignal => k_is)
    (case xr_BadSignal => first | rfl | k_is | decide +kernel)
    (case xsa_BadSignal => k_is)
    (case xga_BadSignal => k_is)
    (case xgg_BadSignal => k_is)
    (case xnf_BadSignal_number => k_is)
    (case xi_BadSignal => k_is)
    (case xt_BadSignal => k_is)
    (case xf_BadSignal => k_is)
    (case xc_BadSignal => k_is)
    (case xkf_BadSignal => k_is)
    (case xk_BadSignal => k_is)
    (case xe_BadSignal => k_is)
    (case xty_BadSignal => k_is)
    (case xhd_BadSignal => k_is)
    (case xis_BadSignal => k_is)
    (case xca_BadSignal => k_is)
    (case xm_BadSignal => k_is)
    (case xl_BadMessage => k_is)
    (case xr_BadMessage => first | rfl | k_is | decide +kernel)
    (case xsa_BadMessage => k_is)
    (case xga_BadMessage => k_is)
    (case xgg_BadMessage => k_is)
    (case xnf_BadMessage_number => k_is)
    (case xi_BadMessage => k_is)
    (case xt_BadMessage => k_is)
    (case xf_BadMessage => k_is)
    (case xc_BadMessage => k_is)
    (case xkf_BadMessage => k_is)
    (case xk_BadMessage => k_is)
    (case xe_BadMessage => k_is)
    (case xty_BadMessage => k_is)
    (case xhd_BadMessage => k_is)
    (case xis_BadMessage => k_is)
    (case xca_BadMessage => k_is)
    (case xm_BadMessage => k_is)
    (case xl_TooLong => k_is)
    (case xr_TooLong => first | rfl | k_is | decide +kernel)
    (case xsa_TooLong => k_is)
    (case xga_TooLong => k_is)
    (case xgg_TooLong => k_is)
    (case xnf_TooLong_number => k_is)
    (case xi_TooLong => k_is)
    (case xt_TooLong => k_is)
    (case xf_TooLong => k_is)
    (case xc_TooLong => k_is)
    (case xkf_TooLong => k_is)
    (case xk_TooLong => k_is)
    (case xe_TooLong => k_is)
    (case xty_TooLong => k_is)
    (case xhd_TooLong => k_is)
    (case xis_TooLong => k_is)
    (case xca_TooLong => k_is)
    (case xm_TooLong => k_is)
    (case xsp => k_is)
    (case xtk => k_is)
    (case qi_BadLine => k_is)
    (case qt_BadLine => k_is)
    (case qs_BadLine => k_is)
    (case qb_BadLine => k_is)
    (case qi_BadRound => k_is)
    (case qt_BadRound => k_is)
    (case qs_BadRound => k_is)
    (case qb_BadRound => k_is)
    (case qi_BadSignal => k_is)
    (case qt_BadSignal => k_is)
    (case qs_BadSignal => k_is)
    (case qb_BadSignal => k_is)
    (case qi_BadText => k_is)
    (case qt_BadText => k_is)
    (case qs_BadText => k_is)
    (case qb_BadText => k_is)
    (case qi_GlimError => k_is)
    (case qt_GlimError => k_is)
    (case qs_GlimError => k_is)
    (case qb_GlimError => k_is)
    (case qi_Signals => k_is)
    (case qt_Signals => k_is)
    (case qs_Signals => k_is)
    (case qi_TooLong => k_is)
    (case qt_TooLong => k_is)
    (case qs_TooLong => k_is)
    (case qb_TooLong => k_is)
    (case y_Signals_Signals => k_is)
    (case y_tuple_Signals => k_is)
    (case y_str_Signals => k_is)
    (case y_int_Signals => k_is)
    (case y_list_Signals => k_is)
    (case y_BadLine_BadText => k_is)
    (case y_BadLine_TooLong => k_is)
    (case y_BadLine_BadRound => k_is)
    (case y_BadLine_BadLine => k_is)
    (case y_BadLine_BadSignal => k_is)
    (case y_BadSignal_BadText => k_is)
    (case y_BadSignal_TooLong => k_is)
    (case y_BadSignal_BadRound => k_is)
    (case y_BadSignal_BadLine => k_is)
    (case y_BadSignal_BadSignal => k_is)
    (case x_BadLine_GlimError => k_is)
    (case x_BadSignal_GlimError => k_is)
    (case x_BadText_BadText => k_is)
    (case x_BadText_TooLong => k_is)
    (case x_TooLong_BadText => k_is)
    (case x_TooLong_TooLong => k_is)
