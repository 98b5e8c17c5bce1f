import PyProof.Rows.All
import Wide.All
import OpenK.AllK
import Wide.FinOn
import KE.KStateDown
import Lean
import HandS.ForMost
import HandS.Flow
import HandS.Style
import HandS.Exc
import HandS.ExcOwn
import HandS.TryOnly
import HandS.WordsExc
import HandS.Codes
import HandS.Steps
import HandS.TupAny
import HandS.TupMul
import HandS.IsInst
import HandS.Defaults
import HandS.More
import HandS.Wide
import HandS.Conv
import HandS.Head0
import HandS.Head1
import HandS.Head2
import HandS.HeadEnd
import HandS.HeadHook1
import HandS.HeadHook2
import HandS.HeadHook3
import HandS.HeadHook4
import KE.KExcSuper
import HandS.ExcInit
import HandS.ExcField
import HandS.ExcIs
import HandS.RaiseMore
import HandS.WrittenGet
import HandS.CallLocal
import HandS.Strs
import HandS.HotCalls
import HandS.ExcInitHot
import KE.KExcIs
import HandS.OwnEq
import HandS.SortInts
import KE.KIndexOf
import PyProof.NeKinds
import HandS.Deep
import PySem.Challenge.RW_merestone_k30_configurations
set_option Elab.async false
set_option linter.all false
set_option maxRecDepth 100000
set_option maxHeartbeats 4000000
namespace M
open PySem PySem.Spec PyProof.Rows L2
abbrev St := L2.St
/-! ### named rules -/
def rInt1 : List V → Hp → VK → Prop := fun xs H Q => (∃ i, xs = [.int i] ∧ Q (.int i) H) ∨ ∃ k, xs = [.bl k] ∧ Q (.int (if k then 1 else 0)) H
def rStrI : List V → Hp → VK → Prop := fun xs H Q => ∃ i, xs = [.int i] ∧ i.natAbs.log2 < 1920 ∧ Q (.str (toString i)) H
def rMax2 : List V → Hp → VK → Prop := fun xs H Q => ∃ i j, xs = [.int i, .int j] ∧ Q (.int (if j > i then j else i)) H
def rMin2 : List V → Hp → VK → Prop := fun xs H Q => ∃ i j, xs = [.int i, .int j] ∧ Q (.int (if j < i then j else i)) H
def rLenQ (K : PySem.W.Frag) : List V → Hp → VK → Prop := fun xs H Q => ∃ p ys, xs = [.ref p] ∧ (SqL K H p ys ∨ SqT K H p ys) ∧ Q (.int ys.length) H
def rLenZ : List V → Hp → VK → Prop := fun xs H Q => ∃ z : Str, xs = [.str z] ∧ z.length ≤ sizeLine ∧ Q (.int z.length) H
def rListQ (K : PySem.W.Frag) : List V → Hp → VK → Prop := fun xs H Q => ∃ p ys, xs = [.ref p] ∧ (SqL K H p ys ∨ SqT K H p ys) ∧ ∀ l, H l = none → Q (.ref l) (upd H l (.lst ys))
def rTupQ (K : PySem.W.Frag) : List V → Hp → VK → Prop := fun xs H Q => ∃ p ys, xs = [.ref p] ∧ ((SqL K H p ys ∧ ∀ l, H l = none → Q (.ref l) (upd H l (.tup ys))) ∨ (SqT K H p ys ∧ Q (.ref p) H))
def rAddZ : R2 := fun x y H Q => ∃ i j, x = .str i ∧ y = .str j ∧ i.length + j.length ≤ sizeLine ∧ Q (.str (i ++ j)) H
section
variable {X : Cx}
theorem call_int : CallR X (.type "int") rInt1 := call_int1
theorem call_strI : CallR X (.type "str") rStrI := call_str_int
theorem call_max2 (hc : X.calm = true) : CallR X (.builtin "max") rMax2 := L2.call_max2 hc
theorem call_min2 (hc : X.calm = true) : CallR X (.builtin "min") rMin2 := L2.call_min2 hc
theorem call_len : CallR X (.builtin "len") (rLenQ X.K) := call_len_seq
theorem call_lenS : CallR X (.builtin "len") rLenZ := call_len_str
theorem call_list : CallR X (.type "list") (rListQ X.K) := call_list_of
theorem call_tuple : CallR X (.type "tuple") (rTupQ X.K) := call_tuple_of
theorem op_addS : OpR X (binaryOp .Add) rAddZ := op_add_str
theorem call_isi : CallR X (.builtin "isinstance") (rIsi X.K) := L2.call_isi
def tTruV (K : PySem.W.Frag) (ta : TE) : TT := fun σ H Q => ta σ H fun x H' => ∃ k, TruV K x H' k ∧ Q k H'
theorem pt_tru {a : Expr} {ta : TE} (ha : PE X a ta) (he : ∀ whole, isTrue a X.env whole = (do let v ← whole; standAt a.pos; holding [v] (truthy v)) := by intro _; rfl) : PT X a (tTruV X.K ta) := pt_truth ha he
end
/-! ### steps of a reading -/
section
variable {σ : St} {H : Hp} {Q : VK} {i : Nat} {v x y : V} {ta tb tc te : TE} {t u : TT} {r r' : R2} {tr tl : TA} {K : PySem.W.Frag}
theorem x_var (h : σ[i]? = some (some v)) (k : Q v H) : tVar i σ H Q := ⟨v, h, k⟩
theorem x_c (k : Q v H) : tC v σ H Q := k
theorem x_op (k : ta σ H fun x H1 => tb σ H1 fun y H2 => r x y H2 Q) : tOp r ta tb σ H Q := k
theorem x_un {r : V → Hp → VK → Prop} (k : ta σ H fun x H1 => r x H1 Q) : tUn r ta σ H Q := k
theorem x_rI0 {g : Int → Int → V} {a b : Int} (k : Q (g a b) H) : rI0 g (.int a) (.int b) H Q := ⟨a, b, rfl, rfl, k⟩
theorem x_rI {C : Int → Int → Prop} {g : Int → Int → V} {a b : Int} (c : C a b) (k : Q (g a b) H) : rI C g (.int a) (.int b) H Q := ⟨a, b, rfl, rfl, c, k⟩
theorem x_rU {g : Int → V} {a : Int} (k : Q (g a) H) : rU g (.int a) H Q := ⟨a, rfl, k⟩
theorem x_eqI {a b : Int} (k : Q (.bl (decide (a = b))) H) : rEq (.int a) (.int b) H Q := ⟨rfl, by
  have e : decide (V.int a = V.int b) = decide (a = b) := by
    by_cases h : a = b
    · subst h; simp
    · rw [decide_eq_false h, decide_eq_false (fun q => h (V.int.inj q))]
  rw [e]; exact k⟩
theorem x_neI {a b : Int} (k : Q (.bl (decide (a ≠ b))) H) : rNe (.int a) (.int b) H Q := ⟨rfl, by
  have e : (!decide (V.int a = V.int b)) = decide (a ≠ b) := by
    by_cases h : a = b
    · subst h; simp
    · rw [decide_eq_false (fun q => h (V.int.inj q)), decide_eq_true h]; rfl
  rw [e]; exact k⟩
theorem x_eqS {a b : Str} (k : Q (.bl (decide (a = b))) H) : rEq (.str a) (.str b) H Q := ⟨rfl, by
  have e : decide (V.str a = V.str b) = decide (a = b) := by
    by_cases h : a = b
    · subst h; simp
    · rw [decide_eq_false h, decide_eq_false (fun q => h (V.str.inj q))]
  rw [e]; exact k⟩
theorem x_neS {a b : Str} (k : Q (.bl (decide (a ≠ b))) H) : rNe (.str a) (.str b) H Q := ⟨rfl, by
  have e : (!decide (V.str a = V.str b)) = decide (a ≠ b) := by
    by_cases h : a = b
    · subst h; simp
    · rw [decide_eq_false (fun q => h (V.str.inj q)), decide_eq_true h]; rfl
  rw [e]; exact k⟩
theorem x_eqB {a b : Bool} (k : Q (.bl (decide (a = b))) H) : rEq (.bl a) (.bl b) H Q := ⟨rfl, by
  have e : decide (V.bl a = V.bl b) = decide (a = b) := by cases a <;> cases b <;> rfl
  rw [e]; exact k⟩
theorem x_neB {a b : Bool} (k : Q (.bl (decide (a ≠ b))) H) : rNe (.bl a) (.bl b) H Q := ⟨rfl, by
  have e : (!decide (V.bl a = V.bl b)) = decide (a ≠ b) := by cases a <;> cases b <;> rfl
  rw [e]; exact k⟩
/-- a value that is to be a bool -/
def isB (x : V) (H : Hp) (Q : Bool → Hp → Prop) : Prop := ∃ k, x = .bl k ∧ Q k H
theorem x_isB {b : Bool} {Q : Bool → Hp → Prop} (k : Q b H) : isB (.bl b) H Q := ⟨b, rfl, k⟩
theorem x_test {Q : Bool → Hp → Prop} (k : te σ H fun x H1 => isB x H1 Q) : tTest te σ H Q := k
theorem x_tB {Q : Bool → Hp → Prop} (k : te σ H fun x H1 => isB x H1 Q) : tB te σ H Q := k
theorem x_not {Q : Bool → Hp → Prop} (k : t σ H fun c H1 => Q (!c) H1) : tNot t σ H Q := k
/-- two ways -/
def ifB (b : Bool) (A B : Prop) : Prop := if b = true then A else B
theorem x_ifT {A B : Prop} (k : A) : ifB true A B := by unfold ifB; rw [if_pos rfl]; exact k
theorem x_ifF {A B : Prop} (k : B) : ifB false A B := by unfold ifB; rw [if_neg Bool.false_ne_true]; exact k
theorem x_if {b : Bool} {A B : Prop} (h1 : b = true → A) (h2 : b = false → B) : ifB b A B := by
  cases b with
  | true => exact x_ifT (h1 rfl)
  | false => exact x_ifF (h2 rfl)
theorem x_ifD {p : Prop} [Decidable p] {A B : Prop} (h1 : p → A) (h2 : ¬ p → B) : ifB (decide p) A B := x_if (fun h => h1 (of_decide_eq_true h)) fun h => h2 (of_decide_eq_false h)
theorem x_ifN {p : Prop} [Decidable p] {A B : Prop} (h1 : ¬ p → A) (h2 : p → B) : ifB (!decide p) A B := x_if (fun h => h1 (of_decide_eq_false (by simpa using h))) fun h => h2 (of_decide_eq_true (by simpa using h))
theorem x_ifNB {b : Bool} {A B : Prop} (k : ifB b B A) : ifB (!b) A B := by
  cases b with
  | true => exact k
  | false => exact k
theorem x_ifTD {p : Prop} [Decidable p] {A B : Prop} (h : p) (k : A) : ifB (decide p) A B := by rw [decide_eq_true h]; exact x_ifT k
theorem x_ifFD {p : Prop} [Decidable p] {A B : Prop} (h : ¬ p) (k : B) : ifB (decide p) A B := by rw [decide_eq_false h]; exact x_ifF k
theorem x_and {Q : Bool → Hp → Prop} (k : t σ H fun c H1 => ifB c (u σ H1 Q) (Q false H1)) : tAnd t u σ H Q := k
theorem x_or {Q : Bool → Hp → Prop} (k : t σ H fun c H1 => ifB c (Q true H1) (u σ H1 Q)) : tOr t u σ H Q := k
theorem x_andV (k : ta σ H fun x H1 => isB x H1 fun c H1 => ifB c (tb σ H1 Q) (Q (.bl false) H1)) : tAndV ta tb σ H Q := k
theorem x_orV (k : ta σ H fun x H1 => isB x H1 fun c H1 => ifB c (Q (.bl true) H1) (tb σ H1 Q)) : tOrV ta tb σ H Q := k
theorem x_notV (k : ta σ H fun x H1 => isB x H1 fun c H1 => Q (.bl (!c)) H1) : tNotV ta σ H Q := k
theorem x_ifE (k : t σ H fun c H1 => ifB c (ta σ H1 Q) (tb σ H1 Q)) : tIf t ta tb σ H Q := k
theorem x_chain (k : ta σ H fun x H1 => tb σ H1 fun y H2 => r x y H2 fun z H3 => isB z H3 fun c H3 => ifB c (tc σ H3 fun w H4 => r' y w H4 Q) (Q (.bl false) H3)) : tChain r r' ta tb tc σ H Q := by
  unfold tChain
  exact k
theorem x_isN (k : Q (.bl (decide (x = .non))) H) : rIsN x .non H Q := ⟨rfl, k⟩
theorem x_notN (k : Q (.bl (!decide (x = .non))) H) : rNotN x .non H Q := ⟨rfl, k⟩
theorem x_nil {Q : List V → Hp → Prop} (k : Q [] H) : tNil σ H Q := k
theorem x_cons {Q : List V → Hp → Prop} (k : te σ H fun x H1 => tr σ H1 fun xs H2 => Q (x :: xs) H2) : tCons te tr σ H Q := k
theorem x_call {sp : Sp} {E : XK} (k : tr σ H fun vs H1 => sp vs H1 Q E) : tCall sp [] E tr σ H Q := by
  show tr σ H fun vs H1 => sp (vs ++ []) H1 Q E
  have e : (fun (vs : List V) (H1 : Hp) => sp (vs ++ []) H1 Q E) = fun vs H1 => sp vs H1 Q E := by
    funext vs H1
    rw [List.append_nil]
  rw [e]
  exact k
theorem x_callB {r : List V → Hp → VK → Prop} (k : tr σ H fun vs H1 => r vs H1 Q) : tCB r tr σ H Q := k
theorem x_int {a : Int} (k : Q (.int a) H) : rInt1 [.int a] H Q := Or.inl ⟨a, rfl, k⟩
theorem x_intB {b : Bool} (k : Q (.int (if b then 1 else 0)) H) : rInt1 [.bl b] H Q := Or.inr ⟨b, rfl, k⟩
theorem x_max2 {a b : Int} (k : Q (.int (if b > a then b else a)) H) : rMax2 [.int a, .int b] H Q := ⟨a, b, rfl, k⟩
theorem x_min2 {a b : Int} (k : Q (.int (if b < a then b else a)) H) : rMin2 [.int a, .int b] H Q := ⟨a, b, rfl, k⟩
theorem x_lenL {p : Addr} {ys : List V} (h : SqL K H p ys) (k : Q (.int ys.length) H) : rLenQ K [.ref p] H Q := ⟨p, ys, rfl, .inl h, k⟩
theorem x_lenT {p : Addr} {ys : List V} (h : SqT K H p ys) (k : Q (.int ys.length) H) : rLenQ K [.ref p] H Q := ⟨p, ys, rfl, .inr h, k⟩
theorem x_lenZ {z : Str} (h : z.length ≤ sizeLine) (k : Q (.int z.length) H) : rLenZ [.str z] H Q := ⟨z, rfl, h, k⟩
theorem x_ixL {p : Addr} {xs : List V} {j : Int} (h : SqL K H p xs) (ha : atI xs j = some v) (k : Q v H) : rIxL K (.ref p) (.int j) H Q := ⟨p, xs, j, v, rfl, rfl, h, ha, k⟩
theorem x_ixT {p : Addr} {xs : List V} {j : Int} (h : SqT K H p xs) (ha : atI xs j = some v) (k : Q v H) : rIxT K (.ref p) (.int j) H Q := ⟨p, xs, j, v, rfl, rfl, h, ha, k⟩
/-! new objects: the heap behind is a letter -/
theorem x_lst (k : tr σ H fun xs H1 => xs.length ≤ sizeLine ∧ ∀ p H2, H1 p = none → Same H1 H2 → H2 p = some (.lst xs) → Q (.ref p) H2) (mono : ∀ (Q Q' : List V → Hp → Prop), (∀ xs H1, Q xs H1 → Q' xs H1) → tr σ H Q → tr σ H Q') : tLst tr σ H Q :=
  mono _ _ (fun xs H1 ⟨h1, h2⟩ => ⟨h1, fun p hp => h2 p _ hp (fun b o e => by rw [upd_ne (ne_of_none e hp)]; exact e) upd_same⟩) k
end
theorem same_new {H : Hp} {p : Addr} {o : HO} (hp : H p = none) : Same H (upd H p o) := fun b u e => by rw [upd_ne (ne_of_none e hp)]; exact e
/-- a new list from values at hand -/
def NewL (xs : List V) (H : Hp) (Q : VK) : Prop := xs.length ≤ sizeLine ∧ ∀ p, H p = none → Q (.ref p) (upd H p (.lst xs))
def NewT (xs : List V) (H : Hp) (Q : VK) : Prop := xs.length ≤ sizeLine ∧ ∀ p, H p = none → Q (.ref p) (upd H p (.tup xs))
section
variable {σ : St} {H : Hp} {Q : VK} {i : Nat} {v x y : V} {ta tb tc te : TE} {t u : TT} {tr tl : TA} {K : PySem.W.Frag} {nx bk ct : St → Hp → Prop} {rt : VK} {ts tu : TS} {g : TG}
theorem x_lst' (k : tr σ H fun xs H1 => NewL xs H1 Q) : tLst tr σ H Q := k
theorem x_tup' (k : tr σ H fun xs H1 => NewT xs H1 Q) : tTup tr σ H Q := k
theorem x_newL {xs : List V} (h : xs.length ≤ sizeLine) (k : ∀ p H2, H p = none → Same H H2 → H2 p = some (.lst xs) → Q (.ref p) H2) : NewL xs H Q := ⟨h, fun p hp => k p _ hp (same_new hp) upd_same⟩
theorem x_newT {xs : List V} (h : xs.length ≤ sizeLine) (k : ∀ p H2, H p = none → Same H H2 → H2 p = some (.tup xs) → Q (.ref p) H2) : NewT xs H Q := ⟨h, fun p hp => k p _ hp (same_new hp) upd_same⟩
theorem x_listL {p : Addr} {ys : List V} (h : SqL K H p ys) (k : ∀ q H2, H q = none → Same H H2 → H2 q = some (.lst ys) → Q (.ref q) H2) : rListQ K [.ref p] H Q := ⟨p, ys, rfl, .inl h, fun q hq => k q _ hq (same_new hq) upd_same⟩
theorem x_listT {p : Addr} {ys : List V} (h : SqT K H p ys) (k : ∀ q H2, H q = none → Same H H2 → H2 q = some (.lst ys) → Q (.ref q) H2) : rListQ K [.ref p] H Q := ⟨p, ys, rfl, .inr h, fun q hq => k q _ hq (same_new hq) upd_same⟩
theorem x_cat {p q : Addr} {xs ys : List V} (h1 : H p = some (.lst xs)) (h2 : H q = some (.lst ys)) (hl : xs.length + ys.length ≤ sizeLine) (k : ∀ l H2, H l = none → Same H H2 → H2 l = some (.lst (xs ++ ys)) → Q (.ref l) H2) : rCat (.ref p) (.ref q) H Q :=
  ⟨p, q, xs, ys, rfl, rfl, h1, h2, hl, fun l hl => k l _ hl (same_new hl) upd_same⟩
/-! statements -/
theorem x_seq (k : ts ⟨tu ⟨nx, rt, bk, ct⟩, rt, bk, ct⟩ σ H) : tSeq ts tu ⟨nx, rt, bk, ct⟩ σ H := k
theorem x_next (k : nx σ H) : tNext ⟨nx, rt, bk, ct⟩ σ H := k
theorem x_brk (k : bk σ H) : tBreak ⟨nx, rt, bk, ct⟩ σ H := k
theorem x_cont (k : ct σ H) : tCont ⟨nx, rt, bk, ct⟩ σ H := k
theorem x_drop (k : te σ H fun _ H1 => nx σ H1) : tDrop te ⟨nx, rt, bk, ct⟩ σ H := k
theorem x_ret (k : te σ H rt) : tRet te ⟨nx, rt, bk, ct⟩ σ H := k
theorem x_retN (k : rt .non H) : tRetN ⟨nx, rt, bk, ct⟩ σ H := k
theorem x_ifS (k : t σ H fun c H1 => ifB c (ts ⟨nx, rt, bk, ct⟩ σ H1) (tu ⟨nx, rt, bk, ct⟩ σ H1)) : tIfS t ts tu ⟨nx, rt, bk, ct⟩ σ H := k
theorem x_asg (k : te σ H fun x H1 => g x σ H1 nx) : tAsg te g ⟨nx, rt, bk, ct⟩ σ H := k
theorem x_gname {Q : St → Hp → Prop} (k : Q (σ.set i (some x)) H) : gName i x σ H Q := k
end
theorem same_l {K : PySem.W.Frag} {H H' : Hp} {a : Addr} {xs : List V} (e : Same H H') (h : SqL K H a xs) : SqL K H' a xs := e.seq h
end M
namespace M
open PySem PySem.Spec PyProof.Rows L2
section
variable {P : Program} {w : World} {K : PySem.W.Frag} {mg : Str → Option Value} {base : Heap}
/-- a def of the module that lets nothing out -/
theorem cal_mk {x : Str} {st : Stmt} {f : Addr} {N ps : List Str} {k : Nat} {sp : Sp} (F : ∃ fd, FunD K x x (defArgs st) (defBody st) (defScope st) [] [] f fd) (hm : mg x = some (.ref f)) (S : FnScope N ps (defScope st))
    (hb : ∀ (kV doc pm : Value) (an : Option Addr) (cdv ct : Value) (us : List Value), us.length = ps.length → bindArgs (PySem.W.fnOf x x (defArgs st) (defBody st) (defScope st) .none kV doc pm an cdv ct) ⟨us, []⟩ = pure (ps.zip us))
    (len : ∀ vs H Q E, sp vs H Q E → vs.length = ps.length)
    (hbody : ∀ (cdv : Value) (A : Around) (outer : List Env) (s : Shared) (H : Hp) (vs : List V) (Q : VK) (E : XK), Room k (A.deeper (envOfC x (defScope st) s.heap.objs.size f cdv)) → sp vs H Q E →
      ∃ t, PSs (cxOf CX0 P w K mg base N x (defScope st) f cdv A outer s H E).nox (defBody st) t ∧ t ⟨fun _ H' => Q .non H', Q, fun _ _ => False, fun _ _ => False⟩ (start N vs) H) : C8.Cal P w K mg base (k + 1) x sp [] := by
  obtain ⟨fd, F⟩ := F
  refine ⟨f, fd, ps, [], F.ok S len fun cdv A outer s H vs Q E hr h => ?_, hm, F.kp, F.bindsN hb, .nil⟩
  obtain ⟨t, h1, h2⟩ := hbody cdv A outer s H vs Q E hr h
  exact ⟨t, h1.nox, h2⟩
end
end M
namespace M
open PySem PySem.Spec PyProof.Rows L2
section
variable {K : PySem.W.Frag} {h : Heap} {mg : Str → Option Value}
theorem gc_int (X : K.In h) (G : h.Ns mainGlobals mg) {x : Str} {i : Int} (c : (He.Fa.int x i).ok K = true) : ∃ u, mg x = some u ∧ RelV (.int i) u := by
  obtain ⟨t, e⟩ := He.int_ok X G c
  exact ⟨_, e, t, rfl⟩
theorem gc_str (X : K.In h) (G : h.Ns mainGlobals mg) {x z : Str} (c : (He.Fa.str x z).ok K = true) : ∃ u, mg x = some u ∧ RelV (.str z) u := by
  obtain ⟨t, e⟩ := He.str_ok X G c
  exact ⟨_, e, t, rfl⟩
theorem ex_at {l : List (PySem.W.Frag → Bool)} (c : (l.all fun f => f K) = true) (i : Nat) {f : PySem.W.Frag → Bool} (e : l[i]? = some f) : f K = true := List.all_eq_true.mp c f (List.mem_of_getElem? e)
end
/-- the end of a law over a head by facts; the script's bits told -/
theorem walk_end {l : PySem.W.OpenLaw} {n k : Nat} {q : Program} {loose : List Str} {XP : (Str → Option Value) → Heap → Prop} {YP : World → Heap → Prop} {d : DefRec} {CX : World → CXT} {x : Str}
    (hn : l.most = some n) (hn2 : n ≤ sizeLine) (hdf : d.params.defaults = []) (hr : Room k callerA)
    (F : ∀ (w : World) (mg : Str → Option Value) (fa : Addr) (h : Heap), YP w h → h.Ns mainGlobals mg → mg d.name = some (.ref fa) →
      ∃ (K : PySem.W.Frag) (fd : FuncData) (sp : Sp), K.In h ∧ (∀ (s : Shared) (u : Value), BindsTo s fd ⟨[u], []⟩ [(x, u)]) ∧
        (∀ (H : Hp) (a : Addr) (ns : List Int), ns.length ≤ n → Only H → SqL K H a (ns.map V.int) → sp [.ref a] H (fun v _ => v = .bl true) fun _ _ _ => False) ∧
        ∀ base : Heap, K.In base → base.Ns mainGlobals mg → FnOk l.prog w K mg base (CX w) k fa fd [x] sp)
    (hCX : ∀ (w : World) (H : Hp) (s : Shared) (e : Value) (s' : Shared), CX w [] H s (fun _ _ _ => False) e s' → False) :
    PySem.W.WalkO q loose XP YP l.row.toRowW d [] (fun f vs => PySem.call f vs) := by
  refine Att.attach_call hn hdf fun w s₀ s₁ mg mb fa o pm cd doc a vs ns G Y ho hd hcd hmg hobj hints hlen hg => ?_
  obtain ⟨K, fd, sp, KX, hb, hsp, hF⟩ := F w mg fa _ Y G.T.g hmg
  exact law_call KX G.T.g G.T.b G.T.builtins G.T.nolimit hg hobj hints (Nat.le_trans hlen hn2) hr hF hb (fun H hO hS => hsp H a ns hlen hO hS) fun H e s' => hCX w H s₁ e s'
end M
namespace M
open PySem PySem.Spec PyProof.Rows L2
section
variable {K : PySem.W.Frag} {H : Hp} {Q : VK} {x : V} {b : Bool}
theorem x_isi {S T : String} (ty : TyX K H x (.type S)) (h : kitB S T = some b) (k : Q (.bl b) H) : rIsi K [x, .ty T] H Q := ⟨x, .ty T, _, _, b, rfl, .ty T, ty, kit_ty h, k⟩
theorem x_isiII {i : Int} (k : Q (.bl true) H) : rIsi K [.int i, .ty "int"] H Q := x_isi (.base (.int i)) (by decide +kernel) k
theorem x_isiIB {i : Int} (k : Q (.bl false) H) : rIsi K [.int i, .ty "bool"] H Q := x_isi (.base (.int i)) (by decide +kernel) k
theorem x_isiBB {i : Bool} (k : Q (.bl true) H) : rIsi K [.bl i, .ty "bool"] H Q := x_isi (.base (.bl i)) (by decide +kernel) k
theorem x_isiBI {i : Bool} (k : Q (.bl true) H) : rIsi K [.bl i, .ty "int"] H Q := x_isi (.base (.bl i)) (by decide +kernel) k
theorem x_isiSS {z : Str} (k : Q (.bl true) H) : rIsi K [.str z, .ty "str"] H Q := x_isi (.base (.str z)) (by decide +kernel) k
end
theorem atI_of {α : Type} {xs : List α} {i : Int} {v : α} (h0 : 0 ≤ i) (h : xs[i.toNat]? = some v) : atI xs i = some v := by
  have e := atI_nat h
  rw [Int.toNat_of_nonneg h0] at e
  exact e
theorem atI_ints {l : List Int} {i : Int} (h0 : 0 ≤ i) (h1 : i < l.length) : atI (l.map V.int) i = some (.int (l.getD i.toNat 0)) := by
  refine atI_of h0 ?_
  have hl : i.toNat < l.length := by omega
  rw [List.getElem?_map, List.getElem?_eq_getElem hl]
  simp [List.getD, hl]
theorem atI_get {α β : Type} {f : α → β} {l : List α} {i : Int} {v : α} (h0 : 0 ≤ i) (h : l[i.toNat]? = some v) : atI (l.map f) i = some (f v) := by
  refine atI_of h0 ?_
  rw [List.getElem?_map, h]
  rfl
theorem sl4 {n : Nat} (h : n ≤ 100000) : n ≤ sizeLine := by rw [sizeLine_eq]; omega
/-! a for over range(n), range(a, b) -/
section
variable {σ : St} {H : Hp} {nx bk ct : St → Hp → Prop} {rt : VK} {tb : TS} {g : TG} {ta : TA} {K : PySem.W.Frag} {tl : TE}
def rRng1 (R : It → Hp → Prop) (vs : List V) (H1 : Hp) : Prop := ∃ j : Int, vs = [.int j] ∧ -(2 ^ 62) ≤ j ∧ j < 2 ^ 62 ∧ R (Itr 0 j.toNat) H1
/-- Pv: by the turns done -/
theorem x_for1 {n : Int} (hi : ∀ Q : List V → Hp → Prop, Q [.int n] H → ta σ H Q) (h : 0 ≤ n ∧ n < 2 ^ 62) (Pv : Nat → St → Hp → Prop) (h0 : Pv 0 σ H)
    (hs : ∀ (i : Nat) σ' H', (i : Int) < n → Pv i σ' H' → g (.int (i : Int)) σ' H' fun σ2 H2 => tb ⟨Pv (i + 1), rt, nx, Pv (i + 1)⟩ σ2 H2) (hd : ∀ σ' H', Pv n.toNat σ' H' → nx σ' H') : tFor (iRng1 ta) g tb ⟨nx, rt, bk, ct⟩ σ H := by
  refine hi _ ⟨n, rfl, by omega, h.2, ?_⟩
  refine for_range (lo := 0) (n := n.toNat) (D := ⟨nx, rt, bk, ct⟩) Pv h0 (fun i σ' H' hlt hp => ?_) hd
  have e : (0 : Int) + (i : Int) = (i : Int) := Int.zero_add _
  rw [e]
  exact hs i σ' H' (by omega) hp
theorem x_for2 {lo n : Int} (hi : ∀ Q : List V → Hp → Prop, Q [.int lo, .int n] H → ta σ H Q) (h : -(2 ^ 62) ≤ lo ∧ lo < 2 ^ 62 ∧ -(2 ^ 62) ≤ n ∧ n < 2 ^ 62) (Pv : Nat → St → Hp → Prop) (h0 : Pv 0 σ H)
    (hs : ∀ (i : Nat) σ' H', lo + (i : Int) < n → Pv i σ' H' → g (.int (lo + (i : Int))) σ' H' fun σ2 H2 => tb ⟨Pv (i + 1), rt, nx, Pv (i + 1)⟩ σ2 H2) (hd : ∀ σ' H', Pv (n - lo).toNat σ' H' → nx σ' H') : tFor (iRng2 ta) g tb ⟨nx, rt, bk, ct⟩ σ H := by
  refine hi _ ⟨lo, n, rfl, h, ?_⟩
  exact for_range (lo := lo) (n := (n - lo).toNat) (D := ⟨nx, rt, bk, ct⟩) Pv h0 (fun i σ' H' hlt hp => hs i σ' H' (by omega) hp) hd
theorem x_forL {a : Addr} {xs : List V} (hi : ∀ Q : VK, Q (.ref a) H → tl σ H Q) (hx : SqL K H a xs) (Pv : Nat → St → Hp → Prop) (h0 : Pv 0 σ H) (hl : ∀ i σ' H', i ≤ xs.length → Pv i σ' H' → SqL K H' a xs)
    (hs : ∀ i x σ' H', xs[i]? = some x → Pv i σ' H' → g x σ' H' fun σ2 H2 => tb ⟨Pv (i + 1), rt, nx, Pv (i + 1)⟩ σ2 H2) (hd : ∀ σ' H', Pv xs.length σ' H' → nx σ' H') : tFor (iList K tl) g tb ⟨nx, rt, bk, ct⟩ σ H := by
  refine hi _ ⟨a, rfl, ⟨xs, hx⟩, ?_⟩
  exact for_list (K := K) (a := a) (xs := xs) (D := ⟨nx, rt, bk, ct⟩) Pv h0 hl hs hd
end
/-! [elt for x in list] -/
section
variable {σ : St} {H : Hp} {Q : VK} {K : PySem.W.Frag} {tl te : TE} {tt : TT} {g : TG} {vs : List Nat}
theorem x_lcL {a : Addr} {xs ys : List V} (hi : ∀ Q : VK, Q (.ref a) H → tl σ H Q) (hx : SqL K H a xs) (hz : xs.length ≤ 100000) (hy : ys.length = xs.length)
    (hs : ∀ (i : Nat) (x y : V) (H' : Hp), xs[i]? = some x → ys[i]? = some y → Same H H' → g x (wipe σ vs) H' fun σ2 H2 => wipe σ2 vs = wipe σ vs ∧ H2 = H' ∧ ∀ R : VK, R y H' → te σ2 H' R)
    (k : ∀ p H2, H p = none → Same H H2 → H2 p = some (.lst ys) → Q (.ref p) H2) (hg : ∀ x σ H (P P' : St → Hp → Prop), (∀ σ H, P σ H → P' σ H) → g x σ H P → g x σ H P') : tLc (iList K tl) g tYes te vs σ H Q := by
  refine hi _ ⟨a, rfl, ⟨xs, hx⟩, fun D hD => ?_⟩
  refine lc_list (K := K) (a := a) (xs := xs) (fun i H' => Same H H' ∧ H' D = some (.lst (ys.take i))) ⟨same_new hD, upd_same⟩ (fun i H' _ p => p.1.seq hx) (fun i x H' hi p => ?_) (fun H' p => ?_)
  · have hlt : i < ys.length := by rw [hy]; exact (List.getElem?_eq_some_iff.mp hi).1
    have hyi : ys[i]? = some ys[i] := List.getElem?_eq_getElem hlt
    refine hg _ _ _ _ _ (fun σ2 H2 q => ?_) (hs i x ys[i] H' hi hyi p.1)
    obtain ⟨q1, rfl, q2⟩ := q
    refine ⟨q1, ?_⟩
    refine q2 _ ⟨ys.take i, p.2, ?_, ?_, ?_⟩
    · rw [List.length_take, sizeLine_eq]; omega
    · intro b o e
      have hb : b ≠ D := ne_of_none e hD
      rw [upd_ne hb]
      exact p.1 b o e
    · rw [upd_same, ← List.take_append_getElem hlt]
  · have e : ys.take xs.length = ys := by rw [← hy]; exact List.take_length
    rw [e] at p
    exact k D H' hD p.1 p.2
end
end M
namespace M
open PySem PySem.Spec PyProof.Rows L2
section
variable {σ : St} {H : Hp} {Q : VK} {K : PySem.W.Frag} {ta : TE} {nx bk ct : St → Hp → Prop} {rt : VK} {ts tu : TS}
/-- truth of a value -/
def isTru (K : PySem.W.Frag) (x : V) (H : Hp) (Q : Bool → Hp → Prop) : Prop := ∃ k, TruV K x H k ∧ Q k H
theorem x_truV {Q : Bool → Hp → Prop} (k : ta σ H fun x H1 => isTru K x H1 Q) : tTruV K ta σ H Q := k
theorem x_truL {Q : Bool → Hp → Prop} {p : Addr} {xs : List V} (h : SqL K H p xs) (k : Q (!xs.isEmpty) H) : isTru K (.ref p) H Q := ⟨_, .inl ⟨xs, h, rfl⟩, k⟩
theorem x_truT {Q : Bool → Hp → Prop} {p : Addr} {xs : List V} (h : SqT K H p xs) (k : Q (!xs.isEmpty) H) : isTru K (.ref p) H Q := ⟨_, .inr (.inl ⟨xs, h, rfl⟩), k⟩
theorem x_truI {Q : Bool → Hp → Prop} {i : Int} (k : Q (decide (i ≠ 0)) H) : isTru K (.int i) H Q := ⟨_, rfl, by
  have e : (i != 0) = decide (i ≠ 0) := by
    by_cases h : i = 0
    · subst h; rfl
    · rw [decide_eq_true h]; simpa using h
  rw [e]; exact k⟩
theorem x_cut (Md : St → Hp → Prop) (h : ts ⟨Md, rt, bk, ct⟩ σ H) (k : ∀ σ' H', Md σ' H' → tu ⟨nx, rt, bk, ct⟩ σ' H') : C8.tCut ts tu ⟨nx, rt, bk, ct⟩ σ H := ⟨Md, h, k⟩
theorem x_isBl {a b : Bool} (k : Q (.bl (decide (a = b))) H) : rIsB (.bl a) (.bl b) H Q := ⟨a, b, rfl, rfl, k⟩
theorem x_notBl {a b : Bool} (k : Q (.bl (!decide (a = b))) H) : rNotB (.bl a) (.bl b) H Q := ⟨a, b, rfl, rfl, k⟩
end
theorem gName_mono {i : Nat} (x : V) (σ : St) (H : Hp) (P P' : St → Hp → Prop) (h : ∀ σ H, P σ H → P' σ H) (q : gName i x σ H P) : gName i x σ H P' := h _ _ q
theorem Same.st {K : PySem.W.Frag} {H H' : Hp} {a : Addr} {xs : List V} (e : Same H H') (h : SqT K H a xs) : SqT K H' a xs := by
  rcases h with (h | ⟨o, h⟩) | h
  · exact .inl (.inl (e _ _ h))
  · exact .inl (.inr ⟨o, e _ _ h⟩)
  · exact .inr h
end M
namespace M
open PySem PySem.Spec PyProof.Rows L2
theorem map_int_get {ns : List Int} {i : Nat} {x : V} (h : (ns.map V.int)[i]? = some x) : ∃ z, ns[i]? = some z ∧ x = .int z := by
  rw [List.getElem?_map] at h
  cases e : ns[i]? with
  | none => rw [e] at h; cases h
  | some z => rw [e] at h; exact ⟨z, rfl, (Option.some.inj h).symm⟩
/-- cells = [int(cell) for cell in script] -/
def cellsOf (d : List Int) (ns : List Int) : List Int := if ns = [] then d else ns
theorem same_hp {H H' : Hp} {a : Addr} {o : HO} (e : Same H H') (h : H a = some o) : H' a = some o := e a o h
theorem x_cut0 {σ : St} {H : Hp} {nx bk ct : St → Hp → Prop} {rt : VK} {ts tu : TS} (h : ts ⟨fun σ' H' => σ' = σ ∧ H' = H, rt, bk, ct⟩ σ H) (k : tu ⟨nx, rt, bk, ct⟩ σ H) : C8.tCut ts tu ⟨nx, rt, bk, ct⟩ σ H :=
  ⟨fun σ' H' => σ' = σ ∧ H' = H, h, fun σ' H' ⟨e1, e2⟩ => by rw [e1, e2]; exact k⟩
/-- the law's def -/
theorem fn_mk {P : Program} {w : World} {K : PySem.W.Frag} {mg : Str → Option Value} {base : Heap} {x : Str} {st : Stmt} {f : Addr} {fd : FuncData} {N ps : List Str} {k : Nat} {sp : Sp} (F : FunD K x x (defArgs st) (defBody st) (defScope st) [] [] f fd) (S : FnScope N ps (defScope st))
    (len : ∀ vs H Q E, sp vs H Q E → vs.length = ps.length)
    (hbody : ∀ (cdv : Value) (A : Around) (outer : List Env) (s : Shared) (H : Hp) (vs : List V) (Q : VK) (E : XK), Room k (A.deeper (envOfC x (defScope st) s.heap.objs.size f cdv)) → sp vs H Q E →
      ∃ t, PSs (cxOf CX0 P w K mg base N x (defScope st) f cdv A outer s H E).nox (defBody st) t ∧ t ⟨fun _ H' => Q .non H', Q, fun _ _ => False, fun _ _ => False⟩ (start N vs) H) : FnOk P w K mg base CX0 (k + 1) f fd ps sp :=
  F.ok S len fun cdv A outer s H vs Q E hr h => by
    obtain ⟨t, h1, h2⟩ := hbody cdv A outer s H vs Q E hr h
    exact ⟨t, h1.nox, h2⟩
end M
namespace XM
open PySem PySem.W PySem.Calls PyProof.Rows PySem.HandSPX
/-! ## exceptions of the program's own: class C(M), M(ValueError), __init__(self, f, ..): super().__init__(text); self.f = f .. -/
/-- a value that str() takes -/
def Txtable (v : Value) : Prop := (∃ i t, v = .int i t ∧ i.natAbs < 1000000000) ∨ (∃ z t, v = .str z t ∧ z.length ≤ 1000)
section
variable {prog : Program} {w : World} {A : Around} {E : Value → Shared → Prop} {s : Shared}
theorem toStr_len {i : Int} (h : i.natAbs < 1000000000) : (PySem.Str.ofString (toString i)).length ≤ 1000 := by
  by_cases h0 : 0 ≤ i
  · exact Nat.le_trans (toString_length_le (k := 10) h0 (by decide) (by omega)) (by decide)
  · obtain ⟨n, rfl⟩ : ∃ n : Nat, i = -((n + 1 : Nat) : Int) := ⟨i.natAbs - 1, by omega⟩
    have e : toString (-((n + 1 : Nat) : Int)) = "-" ++ toString ((n + 1 : Nat) : Int) := rfl
    rw [e]
    have z := toString_length_le (k := 10) (v := ((n + 1 : Nat) : Int)) (by omega) (by decide) (by omega)
    rw [PySem.ofString_length] at z ⊢
    rw [String.length_append]
    have e1 : ("-" : String).length = 1 := by decide
    omega
theorem log2_lt {i : Int} (h : i.natAbs < 1000000000) : i.natAbs.log2 < 1920 := by
  have h2 : i.natAbs < 2 ^ 30 := by omega
  exact Nat.lt_of_lt_of_le (PySem.Flt.log2_lt_of (by decide) h2) (by decide)
/-- what an expression of texts gives -/
def EvT (prog : Program) (w : World) (A : Around) (env : Env) (n : Nat) (e : PySem.Expr) (h : Heap) : Prop :=
  ∀ (g : Array GenState) (d : Drawn) (t : Nat) (os : OsState) (h' : Heap) (E : Value → Shared → Prop) (Q : Value → Shared → Prop), (∀ b o, h.get? b = some o → h'.get? b = some o) →
    (∀ z tk t', z.length ≤ n → Q (.str z tk) ⟨h', g, d, t', os⟩) → wpAny (model prog w) A (eval e env) Q E ⟨h', g, d, t, os⟩
variable {env : Env} {h : Heap} {m : Str → Option Value}
theorem evT_c {z : Str} {j : Nat} {pos : Pos} {n : Nat} (hn : z.length ≤ n) : EvT prog w A env n (.Constant (.str z) j pos) h := fun g d t os h' E Q _ q => Calls.Constant_str (q z _ _ hn)
theorem evT_add {a b : PySem.Expr} {pos : Pos} {n k l : Nat} (ha : EvT prog w A env n a h) (hb : EvT prog w A env k b h) (hl : n + k ≤ l) (hs : l ≤ sizeLine) : EvT prog w A env l (.BinOp a .Add b pos) h := fun g d t os h' E Q kp q => by
  refine wpAny_BinOp (ha g d t os h' _ _ kp fun z tk t1 hz => hb g d t1 os h' _ _ kp fun y tk2 t2 hy => ?_)
  have e : (z ++ y).length = z.length + y.length := PySem.Str.length_append z y
  exact PyProof.Rows.add_str (fun t' tk => q _ _ _ (by omega)) (by omega)
/-- what the modules' names are -/
structure Glb (h : Heap) : Prop where
  ex : ∃ mg mb, h.Ns mainGlobals mg ∧ h.Ns builtinsNs mb ∧ mg "str" = none ∧ mg "super" = none ∧ mb "str" = some (.type "str") ∧ mb "super" = some (.type "super")
theorem Glb.keeps {h h' : Heap} (G : Glb h) (k : ∀ b o, h.get? b = some o → h'.get? b = some o) : Glb h' := by
  obtain ⟨mg, mb, a, b, r⟩ := G.ex
  exact ⟨mg, mb, a.keeps k, b.keeps k, r⟩
theorem evT_str {x : Str} {p1 p2 pos : Pos} {v : Value} {n : Nat} (G : Glb h) (hn : h.Ns env.locals m) (hv : m x = some v) (tv : Txtable v) (hg : env.globals = mainGlobals) (hb : env.builtins = builtinsNs) (hk : env.scope.kind = .function) (hx : env.kindOf "str" = some .globalImplicit) (hl : env.kindOf x = some .local)
    (hd : (x == ("__debug__" : Str)) = false) (h1000 : 1000 ≤ n) (hs : starEach [.Name x p2] env = (false, eval (.Name x p2) env) :: starEach [] env := by rfl) (hpl : (backTo pos (starEach [] env)).any (·.1) = false := by rfl) : EvT prog w A env n (.Call (.Name "str" p1) [.Name x p2] [] pos) h := fun g d t os h' E Q kp q => by
  obtain ⟨mg, mb, a, b, e1, e2, e3, e4⟩ := (G.keeps kp).ex
  refine wpAny_Call_Name_kw (Calls.Name_function_global hk hx (Calls.loadGlobal_builtin (by rw [hg]; exact a) e1 (by rw [hb]; exact b) e3 ?_))
  refine PyProof.Rows.callWith_type1 ?_ hs hpl
  rw [hs]
  show wpAny _ _ (spliced ((false, eval (.Name x p2) env) :: backTo pos (starEach [] env))) _ _ _
  refine Calls.spliced_cons (wpAny_Name (wpAny_loadName_local hk hl (hn.keeps kp) hv ?_) hd)
  refine Calls.spliced_nil ?_
  rcases tv with ⟨i, tk, rfl, hi⟩ | ⟨z, tk, rfl, hz⟩
  · exact PySem.P.str_of_int (log2_lt hi) (q _ _ _ (Nat.le_trans (toStr_len hi) h1000))
  · exact PySem.P.str_of_str (q _ _ _ (Nat.le_trans hz h1000))
end
/-- what the written part says of such a class: C itself, its __init__ at fI, the code at cda, the cell at cc -/
structure ExcT (prog : Program) (K : Frag) (C fI : Addr) (qual : Str) (params : Arguments) (body : List Stmt) (scope : Scope) (fs : List Str) : Prop where
  cls : ∃ nm q N bs bm sn sub ab col dd k0 k1 k2 k3 k5, K.lookup C = some (excClassObj nm q C N bs bm true sn sub ab col dd k0 k1 k2 k3 k5 "ValueError.__new__") ∧ refsVE bm = true
  sup : ks_superIn K C C "__init__" = some (some (.builtin "ValueError.__init__"))
  sVE : subIn K (.ref C) (.type "ValueError") = some true
  sCC : mroIn K C (.ref C) = some true
  sa : findIn K (.ref C) "__setattr__" = some (some (.builtin "object.__setattr__"))
  noN : ∀ f ∈ fs, findIn K (.ref C) f = some none
  iC : findIn K (.ref C) "__init__" = some (some (.ref fI))
  tI : typeIn K (.ref fI) = some (.type "function")
  kC : keepIn K (.ref C) = true
  exC : subIn K (.ref C) (.type "BaseException") = some true
  tyC : typeIn K (.ref C) = some (.type "type")
  tp : nsIn K cStatics "thirdparty.any" = some none
  fn : ∃ (oc : Value) (od : Option Addr) (doc pm : Value) (an : Option Addr) (cda cc : Addr) (ct : Value) (osl : Array (Option Value)) (oa : Obj) (vs : Array Value) (file : Str) (tf : Tok) (ob : Obj),
    K.lookup fI = some ⟨oc, od, .func (ksFn "__init__" qual params body scope .none .none doc pm an (.ref cda) ct cc), osl⟩ ∧ codeIn K (.ref cda) qual = true ∧
    K.lookup cda = some oa ∧ oa.data = .fields vs ∧ vs[2]? = some (.str file tf) ∧ (prog.main.file == file) = true ∧ K.lookup cc = some ob ∧ ob.data = .cell (some (.ref C))
section
variable {prog : Program} {w : World} {A : Around} {E : Value → Shared → Prop} {K : Frag} {C fI : Addr} {qual : Str} {params : Arguments} {body : List Stmt} {scope : Scope} {fs : List Str}
/-- what excClassObj says, as class data -/
theorem ExcT.cd (T : ExcT prog K C fI qual params body scope fs) : ∃ cd, clsIn K C = some cd ∧ refsVE cd.mro = true ∧ cd.hasDict = true ∧ ∃ oC, K.lookup C = some oC ∧ oC.data = .cls cd := by
  obtain ⟨nm, q, N, bs, bm, sn, sub, ab, col, dd, k0, k1, k2, k3, k5, hC, hbm⟩ := T.cls
  refine ⟨{ name := nm, bases := bs, mro := .ref C :: bm, ns := N, qualname := q, hasDict := true, slotNames := sn, subclasses := sub, abstract := ab, collection := col, hasDel := false }, ?_, hbm, rfl, _, hC, rfl⟩
  unfold clsIn
  rw [hC] <;> rfl
theorem super_init {bd : List Stmt} {L x t0 cda cc : Addr} {h : Heap} {g : Array GenState} {d : Drawn} {t : Nat} {os : OsState} {p0 p1 p2 p3 p4 : Pos} {e : PySem.Expr} {n : Nat} {m : Str → Option Value} {Q : Flow → Shared → Prop} {ar : Arg} {of oa ob : Obj} {fd : FuncData} {vs : Array Value} {file : Str} {tf : Tok}
    (T : ExcT prog K C fI qual params body scope fs) (X : K.In h) (G : Glb h) (hf : h.get? fI = some of) (hfd : of.data = .func fd) (hp : (fd.params.posonlyargs ++ fd.params.args).head? = some ar) (har : m ar.arg = some (.ref x))
    (hn : h.Ns L m) (hx : h.get? x = some (excO C t0)) (hnx : K.lookup x = none)
    (hcc : h.get? cda = some oa) (hoc : oa.data = .fields vs) (hvs : vs[2]? = some (.str file tf)) (hfile : (prog.main.file == file) = true) (hcell : h.get? cc = some ob) (hcv : ob.data = .cell (some (.ref C)))
    (htop : (prog.main.scope.names.lookup ("super" : Str)).isSome = false)
    (hks : scope.names.lookup ("super" : Str) = some .globalImplicit) (hkc : scope.names.lookup ("__class__" : Str) = some .free) (hka : scope.names.lookup ar.arg = some .local) (hk : scope.kind = .function)
    (he : EvT prog w A (ksEnv qual scope L fI (.ref cda) cc) n e h)
    (hev : ∃ pl : Sem Bool, eval (.Call (.Attribute (.Call (.Name "super" p0) [] [] p1) "__init__" p2) [e] [] p3) (ksEnv qual scope L fI (.ref cda) cc) = (do
      let ov ← attributeBase (.Call (.Name "super" p0) [] [] p1) "__init__" (ksEnv qual scope L fI (.ref cda) cc) (eval (.Call (.Name "super" p0) [] [] p1) (ksEnv qual scope L fI (.ref cda) cc))
      standAt p2.atName
      let (f, first) ← holding [ov] (getMethod ov "__init__" pl)
      callWith p3 f first (backTo p3 (starEach [e] (ksEnv qual scope L fI (.ref cda) cc))) []))
    (hsw : swapsWith (.Call (.Attribute (.Call (.Name "super" p0) [] [] p1) "__init__" p2) [e] [] p3) none p4.line (ksEnv qual scope L fI (.ref cda) cc) = pure false)
    (hse : starEach [e] (ksEnv qual scope L fI (.ref cda) cc) = (false, eval e (ksEnv qual scope L fI (.ref cda) cc)) :: starEach [] (ksEnv qual scope L fI (.ref cda) cc))
    (hpl : (backTo p3 (starEach [] (ksEnv qual scope L fI (.ref cda) cc))).any (·.1) = false)
    (q : ∀ h' t' t1, (∀ b o, b ≠ x → h.get? b = some o → h'.get? b = some o) → h'.get? x = some (excO C t1) → Q .next ⟨h', g, d, t', os⟩) :
    PySem.wpAt (model prog w) A (.func bd (ksEnv qual scope L fI (.ref cda) cc)) (exec (.Expr (.Call (.Attribute (.Call (.Name "super" p0) [] [] p1) "__init__" p2) [e] [] p3) p4) (ksEnv qual scope L fI (.ref cda) cc)) Q E ⟨h, g, d, t, os⟩ := by
  obtain ⟨pl, hev⟩ := hev
  obtain ⟨cd, hcd, hre, hhd, oC, hC, hCd⟩ := T.cd
  refine ks_wpAt_Expr_any (ks_wpAt_MethodCall (pl := pl) ?_ hev) (by simp [interactive, hk]) hsw
  obtain ⟨mg, mb, a, b, e1, e2, e3, e4⟩ := G.ex
  refine ks_wpAt_super_base (env := ksEnv qual scope L fI (.ref cda) cc) hks hkc (by decide) rfl hf hfd hp rfl hcc hoc hvs hfile htop ?_
  refine ks_loadName_global hk hks (Calls.loadGlobal_builtin (env := ksEnv qual scope L fI (.ref cda) cc) a e2 b e4 ⟨rfl, ?_⟩)
  refine wpAny_loadName_free hk hkc rfl ⟨_, hcell, hcv⟩ ?_
  refine wpAny_loadName_local hk hka hn har ?_
  refine ks_wpAny_isType_cls (X _ _ hC) hCd ⟨rfl, ?_⟩
  refine ks_wpAny_call_super (X _ _ hC) hCd hx rfl (fun c z => by cases z) (looks_mroIn X T.sCC) (fun h2 e5 k2 => ?_)
  have X2 : K.In h2 := X.keeps k2
  have hI : Looks (model prog w) h2 (isInstance (.ref x) (.type "ValueError")) true := (InstAt.type (od := none) ⟨k2 _ _ hx, rfl, rfl, trivial⟩).andThen (looks_subIn X2 T.sVE)
  have hxC : x ≠ C := fun z => by rw [z, hC] at hnx; cases hnx
  have hsup := T.sup
  unfold ks_superIn at hsup
  rw [hcd, Option.bind_some] at hsup
  refine kxs_getMethod kxs_ValueError (C := C) (D := C) e5 (looks_opaque X2 T.tp) (l₀ := cd.mro) (fun A Q E s k q => wpAny_bind ((looks_clsIn X2 hcd) A _ E s k (wpAny_pure q))) rfl X2 hsup hI hxC (by decide) ?_
  have k3 : ∀ b o, h.get? b = some o → (h2.push (kxs_mw "ValueError.__init__" x)).get? b = some o := fun b o z => Heap.get?_push_of_some _ (k2 b o z)
  have hu : (h2.push (kxs_mw "ValueError.__init__" x)).get? h2.objs.size = some (kxs_mw "ValueError.__init__" x) := Heap.get?_push_at rfl rfl
  refine kxs_callWith (i := "ValueError.__init__") (x := x) (by rw [hse]; show (false || (backTo p3 (starEach [] _)).any (·.1)) = false; rw [hpl]; rfl) ?_
  rw [hse]
  show wpAny _ _ (evalArgs _ true ((false, eval e (ksEnv qual scope L fI (.ref cda) cc)) :: backTo p3 (starEach [] (ksEnv qual scope L fI (.ref cda) cc))) []) _ _ _
  have hbk : backTo p3 (starEach [] (ksEnv qual scope L fI (.ref cda) cc)) = [] := rfl
  refine evalArgs_plain ?_
  rw [hbk]
  refine Calls.spliced_cons (he _ _ _ _ _ _ _ k3 fun z tk t' hz => ?_)
  refine Calls.spliced_nil ?_
  refine ⟨hu, ?_⟩
  -- the built-in __init__, bound
  obtain ⟨nm, q', N, bs, bm, sn, sub, ab, col, dd, c0, c1, c2, c3, c5, hCC, hbm⟩ := T.cls
  have hx3 : (h2.push (kxs_mw "ValueError.__init__" x)).get? x = some (excO C t0) := k3 _ _ hx
  refine wpAny_call (codeAny_of_tree ?_)
  show wpAny _ A.in1 (callAny (.ref h2.objs.size) ⟨[.str z tk], []⟩) _ _ _
  simp only [callAny]
  refine wpAny_bind (wpAny_load hu ?_)
  simp only [kxs_mw, show (Value.type "method-wrapper" == Value.type "method" || Value.type "method-wrapper" == Value.type "builtin_function_or_method" || Value.type "method-wrapper" == Value.type "method-wrapper") = true by decide, if_true]
  refine KFB.if_so (by decide) ?_
  refine wpAny_bind (check_bound_init (PySem.F.excBase_ValueError).toExcCallFacts (k3 _ _ (X _ _ hCC)) hx3 rfl ?_)
  refine wpAny_bind (wpAny_pure (wpAny_pure ?_))
  refine ⟨plainId_quiet (PySem.F.excBase_ValueError).init.plain _, codeAny_builtin (PySem.F.excBase_ValueError).initEntry ?_⟩
  exact exc_init_tree (cls := .ref C) (t0 := t0) (dv := none) (c2 := .none) (c3 := .none) (b4 := .bool false) hx3 (by rw [sizeLine_eq]; simp) fun h' k4 e6 e7 => q h' _ _ (fun b o hb ho => k4 b o hb (k3 b o ho)) e6
end
end XM
namespace XM
open PySem PySem.W PySem.Calls PyProof.Rows PySem.HandSPX L2
/-! ### the stores behind super().__init__ -/
/-- self.f = f, for each f -/
inductive IsSt : List Str → List Stmt → Prop
  | nil : IsSt [] []
  | cons {f : Str} {fs : List Str} {sts : List Stmt} {p1 p2 p3 p4 : Pos} : IsSt fs sts → IsSt (f :: fs) (.Assign [.Attribute (.Name "self" p1) f p2] (.Name f p3) p4 :: sts)
/-- what the text's scope must say -/
structure ScT (scope : Scope) (fs : List Str) : Prop where
  kind : scope.kind = .function
  self : scope.names.lookup ("self" : Str) = some .local
  loc : ∀ f ∈ fs, scope.names.lookup f = some .local
  dbg : ∀ f ∈ fs, (f == ("__debug__" : Str)) = false
theorem zip_look : ∀ {ps : List Str} {us : List Value} (nd : ps.Nodup) {i : Nat} {f : Str} {u : Value}, ps[i]? = some f → us[i]? = some u → (ps.zip us).reverse.lookup f = some u
  | [], _, _, i, f, u, h, _ => by simp at h
  | a :: ps, [], _, i, f, u, _, h => by simp at h
  | a :: ps, b :: us, nd, i, f, u, h, h2 => by
    rw [List.zip_cons_cons, List.reverse_cons, List.lookup_append]
    have nd' := List.nodup_cons.mp nd
    cases i with
    | zero =>
      have e1 : a = f := Option.some.inj h
      have e2 : b = u := Option.some.inj h2
      subst e1; subst e2
      have z : (ps.zip us).reverse.lookup a = none := by
        rw [List.lookup_eq_none_iff]
        intro p hp
        have hp' := List.mem_reverse.mp hp
        have := (List.of_mem_zip hp').1
        have ne : a ≠ p.1 := fun z => nd'.1 (by rw [z]; exact this)
        simpa using ne
      rw [z]
      simp [List.lookup]
    | succ i =>
      rw [zip_look nd'.2 (i := i) (f := f) (u := u) h h2]
      rfl
section
variable {prog : Program} {w : World} {A : Around} {E : Value → Shared → Prop} {K : Frag} {C fI : Addr} {qual : Str} {params : Arguments} {body : List Stmt} {scope : Scope} {fs : List Str} {g : Array GenState} {d : Drawn} {os : OsState} {Q : Flow → Shared → Prop}
theorem kept_but {K : Frag} {h h' : Heap} {x : Addr} (X : K.In h) (hx : K.lookup x = none) (k : ∀ b o, b ≠ x → h.get? b = some o → h'.get? b = some o) : K.In h' := fun a o e =>
  k a o (fun z => by rw [z, hx] at e; cases e) (X a o e)
theorem ns_but {h h' : Heap} {L x : Addr} {m : Str → Option Value} (n : h.Ns L m) (hx : L ≠ x) (k : ∀ b o, b ≠ x → h.get? b = some o → h'.get? b = some o) : h'.Ns L m := by
  obtain ⟨o, es, ep, ho, r⟩ := n
  exact ⟨o, es, ep, k _ _ hx ho, r⟩
theorem stores {env : Env} {x dx : Addr} {cd : ClassData} {fv : Array Value} {m : Str → Option Value} (hcd : clsIn K C = some cd) (hre : refsVE cd.mro = true) (hhd : cd.hasDict = true) (sa : findIn K (.ref C) "__setattr__" = some (some (.builtin "object.__setattr__")))
    (hk : env.scope.kind = .function) (hself : env.kindOf "self" = some .local) (hm : m "self" = some (.ref x)) (hnd : K.lookup dx = none) (hxd : x ≠ dx) (hLd : env.locals ≠ dx) :
    ∀ {l : List (Str × V)} {sts : List Stmt} {h : Heap} {t : Nat} {fz : List (Str × V)} {m0 : Str → Option Value}, IsSt (l.map (·.1)) sts → (∀ p ∈ l, findIn K (.ref C) p.1 = some none) → (∀ p ∈ l, env.kindOf p.1 = some .local) → (∀ p ∈ l, (p.1 == ("__debug__" : Str)) = false) →
      (∀ p ∈ l, ∃ u, m p.1 = some u ∧ RelV p.2 u) → K.In h → h.get? x = some ({ cls := .ref C, dict := some dx, data := .fields fv } : Obj) → h.Ns1 dx m0 → (∀ f, RelO (fz.lookup f) (m0 f)) → fz.length + l.length ≤ 900 → h.Ns env.locals m →
      (∀ h' t', (∀ b o, b ≠ dx → h.get? b = some o → h'.get? b = some o) → (∃ mA, h'.Ns1 dx mA ∧ ∀ f, RelO ((l.reverse ++ fz).lookup f) (mA f)) → Q .next ⟨h', g, d, t', os⟩) →
      wpAny (model prog w) A (execs sts env) Q E ⟨h, g, d, t, os⟩
  | [], sts, h, t, fz, m0, S, _, _, _, _, X, hx, hn0, hr, _, hn, q => by
    cases S
    exact wpAny_execs_nil (q h t (fun b o _ e => e) ⟨m0, hn0, hr⟩)
  | p :: l, sts, h, t, fz, m0, S, no, lo, db, va, X, hx, hn0, hr, hz, hn, q => by
    obtain ⟨f, v⟩ := p
    cases S with
    | cons S' =>
      obtain ⟨u, hu, ru⟩ := va (f, v) (List.mem_cons_self ..)
      have hu' : m f = some u := hu
      have ru' : RelV v u := ru
      have hlen : (l.length + 1) = ((f, v) :: l).length := rfl
      refine wpAny_execs_cons (plainObj_wpAny_Assign_Attribute ?_)
      refine wpAny_Name (wpAny_loadName_local hk (lo (f, v) (List.mem_cons_self ..)) hn hu' ?_) (db (f, v) (List.mem_cons_self ..))
      refine wpAny_Name (wpAny_loadName_local hk hself hn hm ?_) (by decide)
      have hw := within_of hr
      obtain ⟨oD, _, _, hoD, _, _⟩ := hn0.count hw
      refine set_plain X (ox := { cls := .ref C, dict := some dx, data := .fields fv }) (od := some oD) ⟨hx, rfl, rfl, hoD⟩ sa ?_
      refine PySem.OEX.osa_old X hx hn0 hw (by rw [List.length_map]; omega) hcd hre hhd (no (f, v) (List.mem_cons_self ..)) (fun h' tk' k hn' => ?_)
      refine stores hcd hre hhd sa hk hself hm hnd hxd hLd (l := l) (fz := (f, v) :: fz) S' (fun p hp => no p (List.mem_cons_of_mem _ hp)) (fun p hp => lo p (List.mem_cons_of_mem _ hp)) (fun p hp => db p (List.mem_cons_of_mem _ hp)) (fun p hp => va p (List.mem_cons_of_mem _ hp))
        (kept_but X hnd k) (k _ _ hxd hx) hn' (relO_put ru' hr) (by rw [List.length_cons] at hz ⊢; omega) (ns_but hn hLd k) fun h2 t2 k2 r2 => ?_
      refine q h2 t2 (fun b o hb e => k2 b o hb (k b o hb e)) ?_
      rw [List.reverse_cons, List.append_assoc]
      exact r2
/-- all of them, of a fresh exception -/
theorem stores0 {env : Env} {x t0 : Addr} {cd : ClassData} {m : Str → Option Value} (hcd : clsIn K C = some cd) (hre : refsVE cd.mro = true) (hhd : cd.hasDict = true) (sa : findIn K (.ref C) "__setattr__" = some (some (.builtin "object.__setattr__")))
    (hk : env.scope.kind = .function) (hself : env.kindOf "self" = some .local) (hm : m "self" = some (.ref x)) (hnx : K.lookup x = none) (hLx : env.locals ≠ x)
    {l : List (Str × V)} {sts : List Stmt} {h : Heap} {t : Nat} (hl0 : l ≠ []) (S : IsSt (l.map (·.1)) sts) (no : ∀ p ∈ l, findIn K (.ref C) p.1 = some none) (lo : ∀ p ∈ l, env.kindOf p.1 = some .local) (db : ∀ p ∈ l, (p.1 == ("__debug__" : Str)) = false)
    (va : ∀ p ∈ l, ∃ u, m p.1 = some u ∧ RelV p.2 u) (X : K.In h) (hx : h.get? x = some (excO C t0)) (hz : l.length ≤ 900) (hn : h.Ns env.locals m)
    (q : ∀ h' t' dx, (∀ b o, b ≠ x → h.get? b = some o → h'.get? b = some o) → h.objs.size ≤ dx → dx ≠ x → h'.get? x = some ({ cls := .ref C, dict := some dx, data := .fields #[.ref t0, .none, .none, .none, .bool false, .none] } : Obj) →
      (∃ mA, h'.Ns1 dx mA ∧ ∀ f, RelO (l.reverse.lookup f) (mA f)) → Q .next ⟨h', g, d, t', os⟩) :
    wpAny (model prog w) A (execs sts env) Q E ⟨h, g, d, t, os⟩ := by
  cases l with
  | nil => exact absurd rfl hl0
  | cons p l =>
    obtain ⟨f, v⟩ := p
    cases S with
    | cons S' =>
      obtain ⟨u, hu, ru⟩ := va (f, v) (List.mem_cons_self ..)
      have hu' : m f = some u := hu
      have ru' : RelV v u := ru
      refine wpAny_execs_cons (plainObj_wpAny_Assign_Attribute ?_)
      refine wpAny_Name (wpAny_loadName_local hk (lo (f, v) (List.mem_cons_self ..)) hn hu' ?_) (db (f, v) (List.mem_cons_self ..))
      refine wpAny_Name (wpAny_loadName_local hk hself hn hm ?_) (by decide)
      refine set_plain X (ox := excO C t0) (od := none) ⟨hx, rfl, rfl, trivial⟩ sa ?_
      refine exc_osa X hx hcd hre hhd (no (f, v) (List.mem_cons_self ..)) (fun h' tk' dx k dn dne hx' hn' => ?_)
      have nd : ∀ {b : Addr} {o : Obj}, h.get? b = some o → b ≠ dx := fun {b o} q => Nat.ne_of_lt (Nat.lt_of_lt_of_le (Heap.lt_size q) dn)
      have hkd : K.lookup dx = none := by
        cases e : K.lookup dx with
        | none => rfl
        | some o => exact absurd rfl (nd (X _ _ e))
      have hLd : env.locals ≠ dx := by
        obtain ⟨o, _, _, ho, _⟩ := hn
        exact nd ho
      refine stores (l := l) (fz := [(f, v)]) hcd hre hhd sa hk hself hm hkd (Ne.symm dne) hLd S' (fun p hp => no p (List.mem_cons_of_mem _ hp)) (fun p hp => lo p (List.mem_cons_of_mem _ hp)) (fun p hp => db p (List.mem_cons_of_mem _ hp)) (fun p hp => va p (List.mem_cons_of_mem _ hp))
        (kept_but X hnx k) hx' hn' (relO_put (fs := []) ru' fun g => True.intro) (by rw [List.length_cons] at hz; simp only [List.length_cons, List.length_nil]; omega) (ns_but hn hLx k) fun h2 t2 k2 r2 => ?_
      refine q h2 t2 dx (fun b o hb e => k2 b o (nd e) (k b o hb e)) dn dne (k2 _ _ (Ne.symm dne) hx') ?_
      rw [List.reverse_cons]
      exact r2
end
end XM
namespace XM
open PySem PySem.W PySem.Calls PyProof.Rows PySem.HandSPX L2
/-- what the text of such an __init__ says: (self, f, ..): super().__init__(e); self.f = f .. -/
structure ExcS (prog : Program) (qual : Str) (params : Arguments) (scope : Scope) (fs : List Str) (e : PySem.Expr) (p0 p1 p2 p3 p4 : Pos) (sts : List Stmt) (n : Nat) : Prop where
  sc : ScT scope fs
  st : IsSt fs sts
  nd : (("self" : Str) :: fs).Nodup
  ne : fs ≠ []
  len : fs.length ≤ 900
  hp : ∃ ar, (params.posonlyargs ++ params.args).head? = some ar ∧ ar.arg = "self"
  hks : scope.names.lookup ("super" : Str) = some .globalImplicit
  hkc : scope.names.lookup ("__class__" : Str) = some .free
  top : (prog.main.scope.names.lookup ("super" : Str)).isSome = false
  cell : ∀ x ∈ scope.names, x.2 ≠ .cell
  co : scope.isCoroutine = false
  gen : scope.isGenerator = false
  bind : ∀ (body : List Stmt) (doc pm : Value) (an : Option Addr) (cdv ct : Value) (cc : Addr) (us : List Value), us.length = fs.length + 1 → bindArgs (ksFn "__init__" qual params body scope .none .none doc pm an cdv ct cc) ⟨us, []⟩ = pure ((("self" : Str) :: fs).zip us)
  hev : ∀ (L fI cda cc : Addr), ∃ pl : Sem Bool, eval (.Call (.Attribute (.Call (.Name "super" p0) [] [] p1) "__init__" p2) [e] [] p3) (ksEnv qual scope L fI (.ref cda) cc) = (do
      let ov ← attributeBase (.Call (.Name "super" p0) [] [] p1) "__init__" (ksEnv qual scope L fI (.ref cda) cc) (eval (.Call (.Name "super" p0) [] [] p1) (ksEnv qual scope L fI (.ref cda) cc))
      standAt p2.atName
      let (f, first) ← holding [ov] (getMethod ov "__init__" pl)
      callWith p3 f first (backTo p3 (starEach [e] (ksEnv qual scope L fI (.ref cda) cc))) [])
  hsw : ∀ (L fI cda cc : Addr), swapsWith (.Call (.Attribute (.Call (.Name "super" p0) [] [] p1) "__init__" p2) [e] [] p3) none p4.line (ksEnv qual scope L fI (.ref cda) cc) = pure false
  hse : ∀ (L fI cda cc : Addr), starEach [e] (ksEnv qual scope L fI (.ref cda) cc) = (false, eval e (ksEnv qual scope L fI (.ref cda) cc)) :: starEach [] (ksEnv qual scope L fI (.ref cda) cc)
  txt : ∀ (w : World) (A : Around) (h : Heap) (m : Str → Option Value) (L fI cda cc : Addr), Glb h → h.Ns L m → (∀ f ∈ fs, ∃ v, m f = some v ∧ Txtable v) → EvT prog w A (ksEnv qual scope L fI (.ref cda) cc) n e h
section
variable {prog : Program} {w : World} {A : Around} {E : Value → Shared → Prop} {R : Result → Shared → Prop} {K : Frag} {C fI : Addr} {qual : Str} {params : Arguments} {scope : Scope} {fs : List Str} {g : Array GenState} {d : Drawn} {t : Nat} {os : OsState} {e : PySem.Expr} {p0 p1 p2 p3 p4 : Pos} {sts : List Stmt} {n : Nat}
theorem init_run {x t0 : Addr} {h : Heap} {vs : List V} {us : List Value} (T : ExcT prog K C fI qual params (.Expr (.Call (.Attribute (.Call (.Name "super" p0) [] [] p1) "__init__" p2) [e] [] p3) p4 :: sts) scope fs) (S : ExcS prog qual params scope fs e p0 p1 p2 p3 p4 sts n)
    (X : K.In h) (G : Glb h) (hlim : h.NoLimit) (hx : h.get? x = some (excO C t0)) (hnx : K.lookup x = none) (hroom : A.depth < recursionLimit) (hl : vs.length = fs.length) (rv : Vals vs us) (tx : ∀ u ∈ us, Txtable u)
    (hq : ∀ h' tk dx t1, (∀ b o, b ≠ x → h.get? b = some o → h'.get? b = some o) → h.objs.size ≤ dx → dx ≠ x → h'.get? x = some ({ cls := .ref C, dict := some dx, data := .fields #[.ref t1, .none, .none, .none, .bool false, .none] } : Obj) →
      (∃ mA, h'.Ns1 dx mA ∧ ∀ f, RelO ((fs.zip vs).reverse.lookup f) (mA f)) → R (.ok (.ret .none)) ⟨h', g, d, tk, os⟩) :
    codeAny (model prog w) A (.call (.ref fI) ⟨.ref x :: us, []⟩) R ⟨h, g, d, t, os⟩ := by
  obtain ⟨oc, od, doc, pm, an, cda, cc, ct, osl, oa, avs, file, tf, ob, ho, hcd, hca, hoa, hfi, hfile, hcc, hob⟩ := T.fn
  obtain ⟨cd, hcl, hre, hhd, oC, hC, hCd⟩ := T.cd
  have hlu : us.length = fs.length := by rw [← rv.length]; exact hl
  have hloc : ∀ y ∈ (("self" : Str) :: fs).zip (Value.ref x :: us), scope.names.lookup y.1 = some .local := fun y hy => by
    rcases List.mem_cons.mp (List.of_mem_zip hy).1 with z | z
    · rw [z]; exact S.sc.self
    · exact S.sc.loc _ z
  refine ks_codeAny_call_defAt (fd := ksFn "__init__" qual params (.Expr (.Call (.Attribute (.Call (.Name "super" p0) [] [] p1) "__init__" p2) [e] [] p3) p4 :: sts) scope .none .none doc pm an (.ref cda) ct cc) (binds := (("self" : Str) :: fs).zip (Value.ref x :: us)) hroom (X _ _ ho) rfl hlim (codeRec_of X hcd) rfl
    (.of_eq (S.bind _ _ _ _ _ _ _ _ (by rw [List.length_cons, hlu]))) S.cell hloc (fun h₁ hns hk₁ => ?_) S.co S.gen S.sc.kind
  have X₁ : K.In h₁ := X.keeps hk₁
  have hself : ((("self" : Str) :: fs).zip (Value.ref x :: us)).reverse.lookup ("self" : Str) = some (Value.ref x) := zip_look S.nd (i := 0) rfl rfl
  have hval : ∀ {i : Nat} {f : Str} {u : Value}, fs[i]? = some f → us[i]? = some u → ((("self" : Str) :: fs).zip (Value.ref x :: us)).reverse.lookup f = some u := fun {i f u} a b => zip_look S.nd (i := i + 1) a b
  have hLx : h.objs.size ≠ x := Nat.ne_of_gt (Heap.lt_size hx)
  obtain ⟨ar, har, har2⟩ := S.hp
  refine ks_wpAt_execs_cons ?_
  refine super_init (x := x) (t0 := t0) T X₁ (G.keeps hk₁) (hk₁ _ _ (X _ _ ho)) rfl har (by rw [har2]; exact hself) hns (hk₁ _ _ hx) hnx (hk₁ _ _ (X _ _ hca)) hoa hfi hfile (hk₁ _ _ (X _ _ hcc)) hob S.top S.hks S.hkc (by rw [har2]; exact S.sc.self) S.sc.kind
    (S.txt w _ h₁ _ _ fI cda cc (G.keeps hk₁) hns fun f hf => ?_) (S.hev _ _ _ _) (S.hsw _ _ _ _) (S.hse _ _ _ _) rfl fun h' t' t1 k' hx' => ?_
  · obtain ⟨i, hi⟩ := List.getElem?_of_mem hf
    have hiu : i < us.length := by rw [hlu]; exact (List.getElem?_eq_some_iff.mp hi).1
    exact ⟨us[i], hval hi (List.getElem?_eq_getElem hiu), tx _ (List.getElem_mem hiu)⟩
  · show PySem.wpAt _ _ _ (execs sts _) _ _ _
    have hmap : (fs.zip vs).map (·.1) = fs := List.map_fst_zip (by rw [hl]; exact Nat.le_refl _)
    have hmem : ∀ p ∈ fs.zip vs, p.1 ∈ fs := fun p hp => (List.of_mem_zip hp).1
    have hne : fs.zip vs ≠ [] := fun z => S.ne (by rw [← hmap, z]; rfl)
    refine PySem.wpAt_of_wpAny (stores0 (env := ksEnv qual scope h.objs.size fI (.ref cda) cc) (x := x) (t0 := t1) (l := fs.zip vs) hcl hre hhd T.sa S.sc.kind S.sc.self hself hnx hLx hne (by rw [hmap]; exact S.st) (fun p hp => T.noN _ (hmem p hp)) (fun p hp => S.sc.loc _ (hmem p hp)) (fun p hp => S.sc.dbg _ (hmem p hp)) (fun p hp => ?_)
      (kept_but X₁ hnx k') hx' (by rw [List.length_zip]; have := S.len; omega) (ns_but hns hLx k') fun h2 t2 dx k2 dn dne hx2 hd2 => ?_)
    · obtain ⟨i, hi⟩ := List.getElem?_of_mem hp
      obtain ⟨hi1, hi2⟩ := List.getElem?_zip_eq_some.mp hi
      obtain ⟨u, hu, ru⟩ := rv.get hi2
      exact ⟨u, hval hi1 hu, ru⟩
    · have dsz : h.objs.size ≤ dx := by
        obtain ⟨oL, _, _, hoL, _⟩ := hns
        have z : h.objs.size < h'.objs.size := Heap.lt_size (k' _ _ hLx hoL)
        exact Nat.le_of_lt (Nat.lt_of_lt_of_le z dn)
      exact hq h2 t2 dx t1 (fun b o hb z => k2 b o hb (k' b o hb (hk₁ b o z))) dsz dne hx2 hd2
end
end XM
namespace XM
open PySem PySem.W PySem.Calls PyProof.Rows PySem.HandSPX L2
def TxtV (v : V) : Prop := (∃ i, v = .int i ∧ i.natAbs < 1000000000) ∨ (∃ z, v = .str z ∧ z.length ≤ 1000)
theorem TxtV.to {v : V} {u : Value} (h : TxtV v) (r : RelV v u) : Txtable u := by
  rcases h with ⟨i, rfl, hi⟩ | ⟨z, rfl, hz⟩
  · obtain ⟨t, rfl⟩ := r
    exact .inl ⟨_, _, rfl, hi⟩
  · obtain ⟨t, rfl⟩ := r
    exact .inr ⟨_, _, rfl, hz⟩
/-- C(e, ..) : the exception's fields -/
def tMkE (C : Addr) (fs : List Str) (ta : TA) : L2.St → Hp → XK → Prop := fun σ H Q => ta σ H fun vs H1 => vs.length = fs.length ∧ (∀ v ∈ vs, TxtV v) ∧ ∀ d, H1 d = none → Q (.ref C) (some d) (upd H1 d (.xd (fs.zip vs).reverse))
section
variable {X : Cx} {C fI : Addr} {qual : Str} {params : Arguments} {scope : Scope} {fs : List Str} {e : PySem.Expr} {p0 p1 p2 p3 p4 : Pos} {sts : List Stmt} {n : Nat}
theorem glb_of {pins : List (Addr × Obj)} {σ : L2.St} {H : Hp} {s : Shared} (I : Inv X pins σ H s) (h1 : X.mg "str" = none) (h2 : X.mg "super" = none) : Glb s.heap := by
  obtain ⟨mb, b1, b2⟩ := I.mod.blt
  exact ⟨X.mg, mb, I.mod.glob.keeps I.bk, b1.keeps I.bk, h1, h2, (b2 "str" (by decide)).trans (by decide +kernel), (b2 "super" (by decide)).trans (by decide +kernel)⟩
theorem pmk_exc {x : Str} {a : Expr} {es : List Expr} {ta : TA} {p pos : Pos} {k : Nat} (T : ExcT X.prog X.K C fI qual params (.Expr (.Call (.Attribute (.Call (.Name "super" p0) [] [] p1) "__init__" p2) [e] [] p3) p4 :: sts) scope fs) (S : ExcS X.prog qual params scope fs e p0 p1 p2 p3 p4 sts n)
    (hr : Room k X.A) (ha : PA X (a :: es) ta) (gC : X.mg x = some (.ref C)) (h1 : X.mg "str" = none) (h2 : X.mg "super" = none) (hg : Gl X x := by rfl) (hdb : (x == ("__debug__" : Str)) = false := by decide)
    (he : starEach (a :: es) X.env = (false, eval a X.env) :: starEach es X.env := by rfl) (hpl : (backTo pos (starEach es X.env)).any (·.1) = false := by rfl) :
    L2N.PMk X (.Call (.Name x p) (a :: es) [] pos) (tMkE C fs ta) := by
  intro pins s σ H Q I h
  refine wpAny_Call_Name_kw (ld_glob I hg gC ?_ hdb)
  refine PySem.W.callWith_K (h₀ := X.base) I.ok.mod.kin T.kC (thn (ha.run pos pins s σ H _ I h) fun us s1 hh => ?_) he hpl
  obtain ⟨vs, H1, I1, r1, hvl, htx, q1⟩ := hh
  refine ⟨I1.kIn, ?_⟩
  show wpAny _ _ (call (.ref C) us) _ _ _
  have hlim := I1.nolimit
  have GB := glb_of I1 h1 h2
  obtain ⟨nm, q, N, bs, bm, sn, sub, ab, col, dd, k0, k1, k2, k3, k5, hC, hbm⟩ := T.cls
  obtain ⟨hp, g, dr, tk, os⟩ := s1
  have KI : X.K.In hp := I1.kIn
  have kk : ∀ b o, hp.get? b = some o → ((hp.push (kdv_tup us)).push (excO C hp.objs.size)).get? b = some o := fun b o e => Heap.get?_push_of_some _ (Heap.get?_push_of_some _ e)
  have hget : ((hp.push (kdv_tup us)).push (excO C hp.objs.size)).get? (hp.objs.size + 1) = some (excO C hp.objs.size) := by heap_get
  have hnx : X.K.lookup (hp.objs.size + 1) = none := by
    cases e : X.K.lookup (hp.objs.size + 1) with
    | none => rfl
    | some o =>
      have z : hp.get? (hp.objs.size + 1) = some o := KI _ _ e
      exact absurd (Nat.lt_of_succ_lt (Heap.lt_size z)) (Nat.lt_irrefl _)
  have hus : us.length ≤ sizeLine := by
    rw [← Paired.length r1, hvl, sizeLine_eq]
    have := S.len
    omega
  have htu : ∀ u ∈ us, Txtable u := fun u hu => by
    obtain ⟨i, hi⟩ := List.getElem?_of_mem hu
    have hiv : i < vs.length := by rw [r1.length]; exact (List.getElem?_eq_some_iff.mp hi).1
    obtain ⟨u', hu', ru⟩ := r1.get (List.getElem?_eq_getElem hiv)
    rw [hi] at hu'
    cases hu'
    exact (htx _ (List.getElem_mem hiv)).to ru
  refine wpAny_call (call_own F.excBase_ValueError (fun Y => refsVE_contains Y bm hbm) (KI _ _ hC) (looks_findIn KI T.iC) (fun self => bind_fn KI self T.tI) hus ?_)
  refine init_run (x := hp.objs.size + 1) (t0 := hp.objs.size) T S (KI.keeps kk) (GB.keeps kk) (hlim.keeps kk) hget hnx (by have := hr.dp; show X.A.depth + 1 < _; omega) hvl r1 htu fun h' tk' dx t1 k' dn dne hx hd => ?_
  refine ⟨rfl, ?_⟩
  show L2N.MkP X pins σ Q (.ref (hp.objs.size + 1)) ⟨h', g, dr, tk', os⟩
  have sz2 : ((hp.push (kdv_tup us)).push (excO C hp.objs.size)).objs.size = hp.objs.size + 1 + 1 := by rw [Heap.size_push, Heap.size_push]
  have dn' : hp.objs.size ≤ dx := by rw [sz2] at dn; omega
  have old0 : ∀ b o, hp.get? b = some o → h'.get? b = some o := fun b o e => k' b o (Nat.ne_of_lt (Nat.lt_succ_of_lt (Heap.lt_size e))) (kk b o e)
  obtain ⟨mA, hns, rel⟩ := hd
  obtain ⟨G', g1, g2⟩ := restrict h' fun b => decide (b ≠ hp.objs.size + 1)
  have gk : ∀ b, b ≠ hp.objs.size + 1 → G'.get? b = h'.get? b := fun b hb => g1 b (decide_eq_true hb)
  have ge : G'.get? (hp.objs.size + 1) = none := g2 (hp.objs.size + 1) (by simp)
  have old : ∀ b o, hp.get? b = some o → G'.get? b = some o := fun b o q => (gk b (Nat.ne_of_lt (Nat.lt_succ_of_lt (Heap.lt_size q)))).trans (old0 b o q)
  have ob : ObjOk X.prog X.w (upd H1 dx (.xd (fs.zip vs).reverse)) G' dx (.xd (fs.zip vs).reverse) :=
    ⟨_, hns.at (fun o q => (gk dx dne).trans q), rel⟩
  have J : Inv X pins σ (upd H1 dx (.xd (fs.zip vs).reverse)) ⟨G', g, dr, tk', os⟩ := I1.laid (t' := tk') old dn' ob
  refine ⟨hp.objs.size + 1, _, _, ⟨G', g, dr, tk', os⟩, _, .ref C, some dx, rfl, J, fun b o q => ?_, ge, hx, ⟨rfl, rfl, fun vs e => by cases e; rfl⟩, rfl, rfl, ?_, rfl, I1.bare, raises_own T.exC T.tyC, q1 dx (I1.hok.fresh dn')⟩
  · by_cases hb : b = hp.objs.size + 1
    · have q' : G'.get? b = some o := q
      rw [hb, ge] at q'; cases q'
    · exact (gk b hb).symm.trans q
  · rw [upd_ne (Ne.symm dne)]
    exact I1.hok.fresh (Nat.le_succ _)
end
/-- what is told of such a class: its facts, its text -/
def ExcOk (prog : Program) (K : Frag) (C fI : Addr) (qual : Str) (params : Arguments) (body : List Stmt) (scope : Scope) (fs : List Str) : Prop :=
  ExcT prog K C fI qual params body scope fs ∧ ∃ (e : PySem.Expr) (p0 p1 p2 p3 p4 : Pos) (sts : List Stmt) (n : Nat), body = (.Expr (.Call (.Attribute (.Call (.Name "super" p0) [] [] p1) "__init__" p2) [e] [] p3) p4 :: sts) ∧ ExcS prog qual params scope fs e p0 p1 p2 p3 p4 sts n
theorem pmk_ok {X : Cx} {C fI : Addr} {qual : Str} {params : Arguments} {body : List Stmt} {scope : Scope} {fs : List Str} {x : Str} {a : Expr} {es : List Expr} {ta : TA} {p pos : Pos} {k : Nat} (T : ExcOk X.prog X.K C fI qual params body scope fs) (hr : Room k X.A) (ha : PA X (a :: es) ta) (gC : X.mg x = some (.ref C)) (h1 : X.mg "str" = none) (h2 : X.mg "super" = none) (hg : Gl X x) (hdb : (x == ("__debug__" : Str)) = false := by decide)
    (he : starEach (a :: es) X.env = (false, eval a X.env) :: starEach es X.env := by rfl) (hpl : (backTo pos (starEach es X.env)).any (·.1) = false := by rfl) :
    L2N.PMk X (.Call (.Name x p) (a :: es) [] pos) (tMkE C fs ta) := by
  obtain ⟨T, e, p0, p1, p2, p3, p4, sts, n, rfl, S⟩ := T
  exact pmk_exc T S hr ha gC h1 h2 hg hdb he hpl
end XM
namespace XH
open PySem PySem.Spec PyProof.Rows L2 He
/-! ## a head's hook that also sees the exceptions' own __init__ (a closure on __class__) and the class statics -/
def asY (g : Addr → Option Obj) : Nat → List Addr
  | 0 => [mainGlobals, cStatics]
  | n + 1 => growD g (asY g n)
structure IniD where
  at_ : Defn
  qual : Str
  params : Arguments
  body : List Stmt
  scope : Scope
abbrev FnI : Type := Option (Str × Str × Arguments × FuncBody × Scope × Addr × List Str × Value × Value × Addr)
def fnI (K : PySem.W.Frag) (p : Defn) : FnI := match K.lookup (fAd K p) with
  | some ⟨_, _, .func fd, _⟩ => some (fd.name, fd.qualname, fd.params, fd.body, fd.scope, fd.globals, fd.closure.map (·.1), fd.defaults, fd.kwdefaults, fd.builtins)
  | _ => none
def IniD.val (d : IniD) : FnI := some ("__init__", d.qual, d.params, .stmts d.body, d.scope, mainGlobals, ["__class__"], .none, .none, builtinsNs)
abbrev AlY : Type := AlT × Bool × List FnI
def obsY (n : Nat) (fa : List Fa) (fn : List DefD) (ts : List Tab) (fi : List IniD) (ex : PySem.W.Frag → Bool) (g : Addr → Option Obj) : AlY := (obsT fa fn ts (frT g (asY g n)), ex (frT g (asY g n)), fi.map fun d => fnI (frT g (asY g n)) d.at_)
def valY (fn : List DefD) (ts : List Tab) (fi : List IniD) (w : World) : AlY := (valT fn ts w, true, fi.map IniD.val)
structure SaysY (fa : List Fa) (fn : List DefD) (ts : List Tab) (fi : List IniD) (ex : PySem.W.Frag → Bool) (w : World) (K : PySem.W.Frag) : Prop where
  t : SaysT fa fn ts w K
  more : ex K = true
  ini : (fi.map fun d => fnI K d.at_) = fi.map IniD.val
theorem saysY_of {n : Nat} {fa : List Fa} {fn : List DefD} {ts : List Tab} {fi : List IniD} {ex : PySem.W.Frag → Bool} {w : World} {h : Heap} (e : obsY n fa fn ts fi ex h.get? = valY fn ts fi w) : SaysY fa fn ts fi ex w (frT h.get? (asY h.get? n)) :=
  ⟨congrArg (fun z : AlY => z.1) e, congrArg (fun z : AlY => z.2.1) e, congrArg (fun z : AlY => z.2.2) e⟩
def hookY (n : Nat) (fa : List Fa) (fn : List DefD) (ts : List Tab) (fi : List IniD) (ex : PySem.W.Frag → Bool) : PySem.W.Hook where
  α := AlY
  obs := fun s => obsY n fa fn ts fi ex s.heap.get?
  val := fun w => valY fn ts fi w
  says := fun w h => ∃ K : PySem.W.Frag, K.In h ∧ SaysY fa fn ts fi ex w K
  of := fun _ _ e => ⟨_, frT_in, saysY_of e⟩
  keeps := fun _ _ _ ⟨K, hK, c⟩ k => ⟨K, PySem.W.Frag.In.keeps hK k, c⟩
theorem obsY_eq {n : Nat} {fa : List Fa} {fn : List DefD} {ts : List Tab} {fi : List IniD} {ex : PySem.W.Frag → Bool} {g : Addr → Option Obj} {s : Shared} (h : ∀ a, g a = s.heap.get? a) : obsY n fa fn ts fi ex g = (hookY n fa fn ts fi ex).obs s := by
  have e : g = s.heap.get? := funext h
  rw [e] <;> rfl
theorem SaysY.ini_ {fa : List Fa} {fn : List DefD} {ts : List Tab} {fi : List IniD} {ex : PySem.W.Frag → Bool} {w : World} {K : PySem.W.Frag} (c : SaysY fa fn ts fi ex w K) (i : Nat) {d : IniD} (h : fi[i]? = some d := by rfl) : fnI K d.at_ = d.val := by
  have e2 : (fi.map fun d => fnI K d.at_)[i]? = (fi.map IniD.val)[i]? := by rw [c.ini]
  rw [List.getElem?_map, List.getElem?_map, h] at e2
  exact Option.some.inj e2
/-! ### the exception classes' facts as Bools -/
def clsB (K : PySem.W.Frag) (C : Addr) : Bool := match K.lookup C with
  | some ⟨.type "type", _, .cls cd, sl⟩ => (match cd.mro, sl.toList with
    | .ref C' :: bm, [_, _, _, _, some (.builtin n), _] => C' == C && (n == "ValueError.__new__" && (!cd.hasDel && (cd.hasDict && PySem.HandSPX.refsVE bm)))
    | _, _ => false)
  | _ => false
theorem clsB_ok {K : PySem.W.Frag} {C : Addr} (q : clsB K C = true) : ∃ nm qn N bs bm sn sub ab col dd k0 k1 k2 k3 k5, K.lookup C = some (PySem.excClassObj nm qn C N bs bm true sn sub ab col dd k0 k1 k2 k3 k5 "ValueError.__new__") ∧ PySem.HandSPX.refsVE bm = true := by
  unfold clsB at q
  split at q
  · rename_i dd cd sl ho
    split at q
    · rename_i C' bm k0 k1 k2 k3 n k5 hm hs
      simp only [Bool.and_eq_true, beq_iff_eq, Bool.not_eq_true'] at q
      obtain ⟨rfl, rfl, hdel, hd', ht⟩ := q
      obtain ⟨nm, bs, mro, ns, qn, hd, sn, sub, ab, col, del⟩ := cd
      dsimp only at hm hdel hd'
      subst hm hdel hd'
      have hsl : sl = #[k0, k1, k2, k3, some (.builtin "ValueError.__new__"), k5] := by
        obtain ⟨l⟩ := sl
        simp only at hs
        rw [hs]
      subst hsl
      exact ⟨nm, qn, ns, bs, bm, sn, sub, ab, col, dd, k0, k1, k2, k3, k5, ho, ht⟩
    · cases q
  · cases q
def fileV (file0 : Str) (vs : Array Value) : Bool := match (vs[2]? : Option Value) with
  | some (.str file _) => file0 == file
  | _ => false
def fileB (file0 : Str) (K : PySem.W.Frag) (cda : Addr) : Bool := match K.lookup cda with
  | some ⟨_, _, .fields vs, _⟩ => fileV file0 vs
  | _ => false
def cellB (K : PySem.W.Frag) (cc C : Addr) : Bool := match K.lookup cc with
  | some ⟨_, _, .cell (some (.ref c)), _⟩ => c == C
  | _ => false
theorem fileB_ok {file0 : Str} {K : PySem.W.Frag} {cda : Addr} (h : fileB file0 K cda = true) : ∃ oa vs file tf, K.lookup cda = some oa ∧ oa.data = .fields vs ∧ vs[2]? = some (.str file tf) ∧ (file0 == file) = true := by
  unfold fileB at h
  cases q : K.lookup cda with
  | none =>
    rw [q] at h
    cases h
  | some o1 =>
    obtain ⟨oc1, od1, dt1, osl1⟩ := o1
    rw [q] at h
    cases dt1 with
    | fields vs =>
      have h2 : fileV file0 vs = true := h
      unfold fileV at h2
      cases q2 : vs[2]? with
      | none =>
        rw [q2] at h2
        cases h2
      | some u =>
        rw [q2] at h2
        cases u with
        | str file tf => exact ⟨_, vs, file, tf, rfl, rfl, q2, h2⟩
        | _ => cases h2
    | _ => cases h
theorem cellB_ok {K : PySem.W.Frag} {cc C : Addr} (h : cellB K cc C = true) : ∃ ob, K.lookup cc = some ob ∧ ob.data = .cell (some (.ref C)) := by
  unfold cellB at h
  cases q : K.lookup cc with
  | none =>
    rw [q] at h
    cases h
  | some o =>
    obtain ⟨oc, od, dt, osl⟩ := o
    rw [q] at h
    cases dt with
    | cell u =>
      cases u with
      | none => cases h
      | some v =>
        cases v with
        | ref c =>
          have z : (c == C) = true := h
          rw [← (eq_of_beq z : c = C)]
          exact ⟨_, rfl, rfl⟩
        | _ => cases h
    | _ => cases h
/-- the code of its __init__ is of the main file, the cell holds the class -/
def iniB (file0 : Str) (K : PySem.W.Frag) (C fI : Addr) (qual : Str) : Bool := match K.lookup fI with
  | some ⟨_, _, .func fd, _⟩ => (match fd.code, fd.closure with
    | .ref cda, [(_, cc)] => PySem.W.codeIn K (.ref cda) qual && (fileB file0 K cda && cellB K cc C)
    | _, _ => false)
  | _ => false
/-- class x of the program, its attributes fs -/
def excB (file0 : Str) (x qual : Str) (fs : List Str) (K : PySem.W.Frag) : Bool :=
  clsB K (ga K x) && (decide (PySem.W.ks_superIn K (ga K x) (ga K x) "__init__" = some (some (.builtin "ValueError.__init__"))) && (decide (PySem.W.subIn K (.ref (ga K x)) (.type "ValueError") = some true) && (decide (PySem.W.mroIn K (ga K x) (.ref (ga K x)) = some true) &&
    (decide (PySem.W.findIn K (.ref (ga K x)) "__setattr__" = some (some (.builtin "object.__setattr__"))) && ((fs.all fun f => decide (PySem.W.findIn K (.ref (ga K x)) f = some none)) && (decide (PySem.W.findIn K (.ref (ga K x)) "__init__" = some (some (.ref (ma K (ga K x) "__init__")))) &&
    (decide (PySem.W.typeIn K (.ref (ma K (ga K x) "__init__")) = some (.type "function")) && (PySem.W.keepIn K (.ref (ga K x)) && (decide (PySem.W.subIn K (.ref (ga K x)) (.type "BaseException") = some true) && (decide (PySem.W.typeIn K (.ref (ga K x)) = some (.type "type")) &&
    (decide (PySem.W.nsIn K cStatics "thirdparty.any" = some none) && iniB file0 K (ga K x) (ma K (ga K x) "__init__") qual)))))))))))
theorem excT_of {prog : Program} {K : PySem.W.Frag} {x qual : Str} {fs : List Str} {params : Arguments} {body : List Stmt} {scope : Scope} (h : excB prog.main.file x qual fs K = true) (e : fnI K (x, some "__init__") = IniD.val ⟨(x, some "__init__"), qual, params, body, scope⟩) :
    XM.ExcT prog K (ga K x) (ma K (ga K x) "__init__") qual params body scope fs := by
  obtain ⟨h1, h⟩ := ba h
  obtain ⟨h2, h⟩ := ba h
  obtain ⟨h3, h⟩ := ba h
  obtain ⟨h4, h⟩ := ba h
  obtain ⟨h5, h⟩ := ba h
  obtain ⟨h6, h⟩ := ba h
  obtain ⟨h7, h⟩ := ba h
  obtain ⟨h8, h⟩ := ba h
  obtain ⟨h9, h⟩ := ba h
  obtain ⟨h10, h⟩ := ba h
  obtain ⟨h11, h⟩ := ba h
  obtain ⟨h12, h13⟩ := ba h
  refine { cls := clsB_ok h1, sup := of_decide_eq_true h2, sVE := of_decide_eq_true h3, sCC := of_decide_eq_true h4, sa := of_decide_eq_true h5, noN := fun f hf => of_decide_eq_true (List.all_eq_true.mp h6 f hf), iC := of_decide_eq_true h7, tI := of_decide_eq_true h8, kC := h9, exC := of_decide_eq_true h10, tyC := of_decide_eq_true h11, tp := of_decide_eq_true h12, fn := ?_ }
  have e0 : fnI K (x, some "__init__") = (match K.lookup (ma K (ga K x) "__init__") with
    | some ⟨_, _, .func fd, _⟩ => some (fd.name, fd.qualname, fd.params, fd.body, fd.scope, fd.globals, fd.closure.map (·.1), fd.defaults, fd.kwdefaults, fd.builtins)
    | _ => none : FnI) := rfl
  rw [e0] at e
  unfold iniB at h13
  cases q : K.lookup (ma K (ga K x) "__init__") with
  | none =>
    rw [q] at e
    cases e
  | some o =>
    obtain ⟨oc, od, dt, osl⟩ := o
    rw [q] at e h13
    cases dt with
    | func fd =>
      obtain ⟨n1, n2, n3, n4, n5, n6, n7, n8, n9, n10, n11, n12, n13, n14, n15⟩ := fd
      have e2 : (some (n1, n2, n3, n4, n5, n6, n7.map (·.1), n8, n9, n15) : FnI) = (some ("__init__", qual, params, .stmts body, scope, mainGlobals, ["__class__"], .none, .none, builtinsNs) : FnI) := e
      simp only [Option.some.injEq, Prod.mk.injEq] at e2
      obtain ⟨i1, i2, i3, i4, i5, i6, i7, i8, i9, i10⟩ := e2
      subst i1 i2 i3 i4 i5 i6 i8 i9 i10
      cases n13 with
      | ref cda =>
        cases n7 with
        | nil => cases i7
        | cons p r =>
          obtain ⟨nm, cc⟩ := p
          have hr : r = [] := by
            cases r with
            | nil => rfl
            | cons y ys => simp at i7
          subst hr
          have hnm : nm = "__class__" := by simpa using i7
          subst hnm
          obtain ⟨j1, j2⟩ := ba (show (PySem.W.codeIn K (.ref cda) n2 && (fileB prog.main.file K cda && cellB K cc (ga K x))) = true from h13)
          obtain ⟨j3, j4⟩ := ba j2
          obtain ⟨oa, vs, file, tf, q1, q2, q3, q4⟩ := fileB_ok j3
          obtain ⟨ob, q5, q6⟩ := cellB_ok j4
          exact ⟨oc, od, n10, n11, n12, cda, cc, n14, osl, oa, vs, file, tf, ob, rfl, j1, q1, q2, q3, q4, q5, q6⟩
      | _ => cases n7 <;> cases h13
    | _ => cases e
def tupOB (K : PySem.W.Frag) (a : Addr) : Bool := match K.lookup a with
  | some ⟨.type c, none, _, _⟩ => decide (c = "tuple")
  | _ => false
theorem tupOB_ok {K : PySem.W.Frag} {a : Addr} (h : tupOB K a = true) : ∃ o, K.lookup a = some o ∧ o.cls = .type "tuple" ∧ o.dict = none := by
  unfold tupOB at h
  cases q : K.lookup a with
  | none =>
    rw [q] at h
    cases h
  | some o =>
    obtain ⟨oc, od, dt, osl⟩ := o
    rw [q] at h
    cases oc with
    | type c =>
      cases od with
      | none =>
        have e : c = "tuple" := of_decide_eq_true h
        exact ⟨_, rfl, by rw [e], rfl⟩
      | some d => cases h
    | _ => cases od <;> cases h
def excCB (K : PySem.W.Frag) (C : Addr) : Bool := decide (PySem.W.findIn K (.ref C) "__getattribute__" = some (some (.builtin "BaseException.__getattribute__"))) && (decide (PySem.W.findIn K (.ref C) "__getattr__" = some none) && (decide (PySem.W.subIn K (.ref C) (.type "BaseException") = some true) && (PySem.W.hasDictIn K C && (decide (PySem.W.findIn K (.ref C) "__class__" = some (some (.builtin "object.__class__"))) &&
  (decide (PySem.W.specialIn K (.builtin "object.__class__") "__get__" = some (some (.builtin "getset_descriptor.__get__"))) && (decide (PySem.W.takesIn K (.builtin "object.__class__") = some true) && decide (PySem.W.mroIn K C (.type "object") = some true)))))))
theorem excCB_ok {K : PySem.W.Frag} {C : Addr} (h : excCB K C = true) : ExcC K C := by
  obtain ⟨h1, h⟩ := ba h
  obtain ⟨h2, h⟩ := ba h
  obtain ⟨h3, h⟩ := ba h
  obtain ⟨h4, h⟩ := ba h
  obtain ⟨h5, h⟩ := ba h
  obtain ⟨h6, h⟩ := ba h
  obtain ⟨h7, h8⟩ := ba h
  exact ⟨of_decide_eq_true h1, of_decide_eq_true h2, of_decide_eq_true h3, h4, of_decide_eq_true h5, of_decide_eq_true h6, of_decide_eq_true h7, of_decide_eq_true h8⟩
end XH
namespace M
open PySem PySem.Spec PyProof.Rows L2
/-! ## defs that raise, defs called in an except suite -/
structure CalX (P : Program) (w : World) (K : PySem.W.Frag) (mg : Str → Option Value) (base : Heap) (k : Nat) (x : Str) (sp : Sp) : Prop where
  ex : ∃ (f : Addr) (fd : FuncData) (ps : List Str), FnOk P w K mg base (L2N.CX P w) k f fd ps sp ∧ mg x = some (.ref f) ∧ PySem.W.keepIn K (.ref f) = true ∧ Binds K fd ps []
structure CalH (P : Program) (w : World) (K : PySem.W.Frag) (mg : Str → Option Value) (base : Heap) (k : Nat) (x : Str) (sp : Sp) : Prop where
  ex : ∃ (f : Addr) (fd : FuncData) (ps : List Str), L2H.FnH P w K mg base CX0 k f fd ps sp ∧ mg x = some (.ref f) ∧ PySem.W.keepIn K (.ref f) = true ∧ Binds K fd ps []
theorem FnH.mono {P : Program} {w : World} {K : PySem.W.Frag} {mg : Str → Option Value} {base : Heap} {CX : CXT} {j k : Nat} {f : Addr} {fd : FuncData} {ps : List Str} {sp : Sp} (F : L2H.FnH P w K mg base CX j f fd ps sp) (h : j ≤ k) : L2H.FnH P w K mg base CX k f fd ps sp :=
  ⟨F.len, fun A outer s H args us vs Q E p hr => F.run A outer s H args us vs Q E p (hr.mono h)⟩
section
variable {X : Cx} {k j : Nat} {x : Str} {sp : Sp} {p pos : Pos} {e : Expr} {es : List Expr} {t : TA}
theorem pe_cX {W : WX} (c : CalX X.prog X.w X.K X.mg X.base k x sp) (hr : Room j X.A) (hk : k ≤ j) (hg : Gl X x) (tk : L2N.Takes X W) (ha : PA X (e :: es) t)
    (hdb : (x == ("__debug__" : Str)) = false := by decide) (he : starEach (e :: es) X.env = (false, eval e X.env) :: starEach es X.env := by rfl) (hpl : (backTo pos (starEach es X.env)).any (·.1) = false := by rfl) :
    PE X (.Call (.Name x p) (e :: es) [] pos) (tCallS sp (WE W) t) := by
  obtain ⟨f, fd, ps, F, hm, kp, b⟩ := c.ex
  exact pe_callS F (hr.mono hk) hg hm kp b (fun σ => L2N.passAt tk σ) ha hdb he hpl
theorem tCall_S {sp : Sp} {t : TA} : tCallS sp (fun _ => C8.E0) t = tCall sp [] C8.E0 t := by
  funext σ H Q
  unfold tCallS tCall
  congr 1
  funext vs H1
  rw [List.append_nil]
theorem pe_cH (c : CalH X.prog X.w X.K X.mg X.base k x sp) (hc : L2H.HotC X) (hr : L2H.RoomH j X.A) (hk : k ≤ j) (hg : Gl X x) (ha : PA X (e :: es) t)
    (hdb : (x == ("__debug__" : Str)) = false := by decide) (he : starEach (e :: es) X.env = (false, eval e X.env) :: starEach es X.env := by rfl) (hpl : (backTo pos (starEach es X.env)).any (·.1) = false := by rfl) :
    PE X (.Call (.Name x p) (e :: es) [] pos) (tCall sp [] C8.E0 t) := by
  obtain ⟨f, fd, ps, F, hm, kp, b⟩ := c.ex
  rw [← tCall_S]
  exact L2H.pe_callH (FnH.mono F hk) hr hc hg hm kp b (fun σ _ _ _ _ _ _ h => h.elim) ha hdb he hpl
theorem pe_cH0 (c : CalH X.prog X.w X.K X.mg X.base k x sp) (hc : L2H.HotC X) (hr : L2H.RoomH j X.A) (hk : k ≤ j) (hg : Gl X x)
    (hdb : (x == ("__debug__" : Str)) = false := by decide) : PE X (.Call (.Name x p) [] [] pos) (tCall sp [] C8.E0 tNil) := by
  obtain ⟨f, fd, ps, F, hm, kp, b⟩ := c.ex
  rw [← tCall_S]
  refine ⟨fun pins s σ H Q I h => ?_⟩
  refine wpAny_Call_Name_kw (ld_glob I hg hm ?_ hdb)
  exact PySem.W.callWith_K0 I.kIn kp (L2H.run_fnH (E := fun _ => C8.E0) (us := []) (FnH.mono F hk) hr hc b (fun _ _ _ _ _ _ h => h.elim) I .nil h)
theorem pe_c0 (c : C8.Cal X.prog X.w X.K X.mg X.base k x sp []) (hr : Room j X.A) (hk : k ≤ j) (hg : Gl X x)
    (hdb : (x == ("__debug__" : Str)) = false := by decide) : PE X (.Call (.Name x p) [] [] pos) (tCall sp [] C8.E0 tNil) := by
  obtain ⟨f, fd, ps, ds, F, hm, kp, b, d⟩ := c.ex
  exact pe_call0 F (hr.mono hk) hg hm kp b d C8.pass0 hdb
end
section
variable {P : Program} {w : World} {K : PySem.W.Frag} {mg : Str → Option Value} {base : Heap}
/-- a def of the module that may raise -/
theorem cal_mkX {x : Str} {st : Stmt} {f : Addr} {N ps : List Str} {k : Nat} {sp : Sp} (F : ∃ fd, FunD K x x (defArgs st) (defBody st) (defScope st) [] [] f fd) (hm : mg x = some (.ref f)) (S : FnScope N ps (defScope st))
    (hb : ∀ (kV doc pm : Value) (an : Option Addr) (cdv ct : Value) (us : List Value), us.length = ps.length → bindArgs (PySem.W.fnOf x x (defArgs st) (defBody st) (defScope st) .none kV doc pm an cdv ct) ⟨us, []⟩ = pure (ps.zip us))
    (len : ∀ vs H Q E, sp vs H Q E → vs.length = ps.length)
    (hbody : ∀ (cdv : Value) (A : Around) (outer : List Env) (s : Shared) (H : Hp) (vs : List V) (Q : VK) (E : XK), Room k (A.deeper (envOfC x (defScope st) s.heap.objs.size f cdv)) → sp vs H Q E →
      ∃ t, PSs (cxOf (L2N.CX P w) P w K mg base N x (defScope st) f cdv A outer s H E) (defBody st) t ∧ t ⟨fun _ H' => Q .non H', Q, fun _ _ => False, fun _ _ => False⟩ (start N vs) H) : CalX P w K mg base (k + 1) x sp := by
  obtain ⟨fd, F⟩ := F
  exact ⟨f, fd, ps, F.ok S len fun cdv A outer s H vs Q E hr h => hbody cdv A outer s H vs Q E hr h, hm, F.kp, F.bindsN hb⟩
/-- a def that lets nothing out, called while an exception is handled -/
theorem calH_mk {x : Str} {st : Stmt} {f : Addr} {N ps : List Str} {k : Nat} {sp : Sp} (F : ∃ fd, FunD K x x (defArgs st) (defBody st) (defScope st) [] [] f fd) (hm : mg x = some (.ref f)) (S : FnScope N ps (defScope st))
    (hb : ∀ (kV doc pm : Value) (an : Option Addr) (cdv ct : Value) (us : List Value), us.length = ps.length → bindArgs (PySem.W.fnOf x x (defArgs st) (defBody st) (defScope st) .none kV doc pm an cdv ct) ⟨us, []⟩ = pure (ps.zip us))
    (len : ∀ vs H Q E, sp vs H Q E → vs.length = ps.length)
    (hbody : ∀ (cdv : Value) (A : Around) (outer : List Env) (s : Shared) (H : Hp) (vs : List V) (Q : VK) (E : XK) (p : Addr × Obj), L2H.HotC (L2H.cxH CX0 P w K mg base N x (defScope st) f cdv A outer s H E p).nox → L2H.RoomH k (A.deeper (envOfC x (defScope st) s.heap.objs.size f cdv)) → sp vs H Q E →
      ∃ t, PSs (L2H.cxH CX0 P w K mg base N x (defScope st) f cdv A outer s H E p).nox (defBody st) t ∧ t ⟨fun _ H' => Q .non H', Q, fun _ _ => False, fun _ _ => False⟩ (start N vs) H) : CalH P w K mg base (k + 1) x sp := by
  obtain ⟨fd, F⟩ := F
  refine ⟨f, fd, ps, ?_, hm, F.kp, F.bindsN hb⟩
  obtain ⟨oc, od, dV, kV, doc, pm, an, cdv, ct, osl, rfl, lk, hcd, _, _⟩ := F.ex
  exact L2H.fn_ofH lk hcd S len fun A outer s H vs Q E p hot hr h => by
    obtain ⟨t, h1, h2⟩ := hbody _ A outer s H vs Q E p ⟨p, hot, List.mem_cons_self ..⟩ hr h
    exact ⟨t, h1.nox, h2⟩
end
/-! ### raise, try -/
theorem takesN0 {X : Cx} : L2N.Takes X (fun _ _ _ _ => False) := fun _ _ x => by
  obtain ⟨_, _, _, _, _, _, _, _, _, _, _, _, _, _, _, _, z⟩ := x
  exact z.elim
/-- in the suite of an except clause an exception is handled, whose context is None -/
theorem hot_suite {X : Cx} {a : Addr} {oe : Obj} {cls : Value} {d : Option Addr} {pn : List (Addr × Obj)} (hz : L2N.Zn cls d oe) (hf : ∃ vs, oe.data = .fields vs) : L2H.HotC (X.suite a ((a, oe) :: pn)) := by
  obtain ⟨vs, hv⟩ := hf
  exact ⟨(a, oe), ⟨rfl, vs, hv, hz.2.2 vs hv⟩, List.mem_cons_self ..⟩
theorem room_suite {X : Cx} {k : Nat} {a : Addr} {pn : List (Addr × Obj)} (hr : Room k X.A) : L2H.RoomH k (X.suite a pn).A := L2H.roomH_mark hr _
def tRz (W : WX) (t : L2.St → Hp → XK → Prop) : TS := fun _ σ H => t σ H fun cls d H' => W cls d σ H'
theorem ps_rz {X : Cx} {W : WX} {e : Expr} {t : L2.St → Hp → XK → Prop} {pos : Pos} (hc : X.calm = true) (tk : L2N.Takes X W) (he : L2N.PMk X e t) : PS X (.Raise (some e) none pos) (tRz W t) := L2N.ps_raise hc tk he
theorem x_rz {W : WX} {t : L2.St → Hp → XK → Prop} {D : Ends} {σ : L2.St} {H : Hp} (h : t σ H fun cls d H' => W cls d σ H') : tRz W t D σ H := h
theorem x_mkE {C : Addr} {fs : List Str} {ta : TA} {σ : L2.St} {H : Hp} {Q : XK} (h : ta σ H fun vs H1 => vs.length = fs.length ∧ (∀ v ∈ vs, XM.TxtV v) ∧ ∀ d, H1 d = none → Q (.ref C) (some d) (upd H1 d (.xd (fs.zip vs).reverse))) : XM.tMkE C fs ta σ H Q := h
def tTryAs (K : PySem.W.Frag) (c : Value) (i : Nat) (tb : WX → TS) (ts : Addr → Value → Option Addr → TS) : TS := fun D σ H => tb (wAs K c i ts (fun _ _ _ _ => False) D) D σ H
theorem x_tryAs {K : PySem.W.Frag} {c : Value} {i : Nat} {tb : WX → TS} {ts : Addr → Value → Option Addr → TS} {D : Ends} {σ : L2.St} {H : Hp} (h : tb (wAs K c i ts (fun _ _ _ _ => False) D) D σ H) : tTryAs K c i tb ts D σ H := h
theorem x_was {K : PySem.W.Frag} {c cls : Value} {i : Nat} {ts : Addr → Value → Option Addr → TS} {D : Ends} {σ : L2.St} {H : Hp} {d : Option Addr} {Wo : WX} (e : PySem.W.exmOne K cls c = some true)
    (h : ∀ a, H a = none → ts a cls d { nx := fun σ' H' => D.nx (σ'.set i none) H', rt := D.rt, bk := fun σ' H' => D.bk (σ'.set i none) H', ct := fun σ' H' => D.ct (σ'.set i none) H' } (σ.set i (some (.ref a))) H) : wAs K c i ts Wo D cls d σ H :=
  ⟨true, e, fun _ => h, fun q => Bool.noConfusion q⟩
section
variable {X : Cx} {x n : Str} {c : Value} {i : Nat} {body suite : List Stmt} {b₀ : Stmt} {np pos pos' : Pos} {tb : WX → TS} {ts : Addr → Value → Option Addr → TS}
/-- nothing but what the clause takes leaves the body -/
theorem ps_tryAs (hs : X.stack = X.env :: X.outer) (hf : X.env.frame = some X.env.locals) (hN : X.N.Nodup) (hi : X.N[i]? = some n) (hln : X.env.kindOf n = some .local) (hg : Gl X x) (hd : (x == ("__debug__" : Str)) = false) (hm : X.mg x = some c)
    (hb : ∀ (W : WX) (pn : List (Addr × Obj)) (xe : Value → Shared → Prop), L2N.Takes (X.tr pn xe) W → PassesOwn (model X.prog X.w) X.A X.env xe → PSs (X.tr pn xe) body (tb W))
    (hsu : ∀ (a : Addr) (oe : Obj) (cls : Value) (d : Option Addr) (pn : List (Addr × Obj)), L2N.Zn cls d oe → (∃ vs, oe.data = .fields vs) → PSs (X.suite a ((a, oe) :: pn)) (b₀ :: suite) (ts a cls d)) :
    PS X (.Try body [.ExceptHandler (some (.Name x np)) (some n) (b₀ :: suite) pos'] [] [] pos) (tTryAs X.K c i tb ts) := L2N.ps_try_as hs hf hN hi hln ⟨hg, hd, .inl hm⟩ takesN0 hb hsu
end
/-! ### isinstance(e, T), e held by the suite, with its own dict -/
theorem call_isX {X : Cx} {a D : Addr} {oe : Obj} {cls : Value} {dd : Option Addr} {pn : List (Addr × Obj)} (C : ExcC X.K D) (hz : Zc cls dd oe) (hf : ∃ vs, oe.data = .fields vs) :
    CallR (X.suite a ((a, oe) :: pn)) (.builtin "isinstance") (fun xs H Q => ∃ (c : V) (cv : Value) (b : Bool) (d : Addr) (fs : List (Str × V)), xs = [.ref a, c] ∧ cls = .ref D ∧ dd = some d ∧ H d = some (.xd fs) ∧ (∀ u, RelV c u → u = cv) ∧ PySem.W.kitOne X.K (.ref D) cv = some b ∧ Q (.bl b) H) := by
  intro pins s σ H xs us Q I r h
  obtain ⟨c, cv, b, d, fs, rfl, rfl, rfl, hd, hcv, e, q⟩ := h
  cases r with
  | cons rx rr =>
    cases rr with
    | cons rt rr =>
      cases rr
      cases rx
      have ec := hcv _ rt
      subst ec
      obtain ⟨hget, _⟩ := I.pin (a, oe) (List.mem_append.mpr (.inl List.mem_cons_self))
      obtain ⟨vs, hv⟩ := hf
      have hx : ObjOk X.prog X.w H s.heap d (.xd fs) := I.hok d _ hd
      obtain ⟨mA, hns, hr⟩ := hx
      obtain ⟨od, ho, hl⟩ := lookIn_ns hns
      have J : PySem.W.InstAt s.heap a oe D (some od) := ⟨hget, hz.1, by unfold PySem.W.notCls; rw [hv] <;> rfl, by rw [hz.2]; exact ho⟩
      have hcl : (PySem.W.clsIn X.K D).isSome = true := by
        obtain ⟨cd, hc, _⟩ := PySem.W.any_some C.hd
        rw [hc]; rfl
      exact PySem.W.kia_one (PySem.W.kitx_exc hcl C.hg C.hk C.hs C.ha C.hn C.ht C.hm) I.kIn J e (fun z => nomatch z) fun tk => ⟨.bl b, H, I.kept (t' := tk) fun _ _ z => z, rfl, q⟩
end M
namespace M
open PySem PySem.Spec PyProof.Rows L2
/-! ## texts in lists and tuples; split; equality of tuples and lists -/
def rTIdx (K : PySem.W.Frag) : V → List V → Hp → VK → Prop := fun x xs H Q => ∃ p, ∃ ys : List Str, ∃ z j, x = .ref p ∧ xs = [.str z] ∧ SqT K H p (ys.map V.str) ∧ ys[j]? = some z ∧ (∀ m, m < j → ys[m]? ≠ some z) ∧ Q (.int (j : Nat)) H
theorem mt_tindex {X : Cx} : MtR X "tuple.index" (rTIdx X.K) := mt_tup_index
def rSplitZ : V → List V → Hp → VK → Prop := fun x xs H Q => ∃ a b, x = .str a ∧ xs = [.str b] ∧ (b.length == 0) = false ∧ a.length + 2 ≤ sizeLine ∧ rNewStrs (Txt.split a b) H Q
theorem pe_splitZ {X : Cx} {o e : Expr} {to te : TE} {apos pos : Pos} (ho : PE X o to) (he : PE X e te) (hs : starEach [e] X.env = [(false, eval e X.env)] := by rfl) (hbase : attributeBase o "split" X.env (eval o X.env) = eval o X.env := by rfl) (hline : (apos.endLine == pos.line) = true := by rfl) :
    PE X (.Call (.Attribute o "split" apos) [e] [] pos) (tM1 rSplitZ to te) := pe_split ho he hs hbase hline
theorem flat_strsV (l : List Str) : (l.map V.str).all flatV = true := List.all_eq_true.mpr fun x hx => by
  obtain ⟨z, _, rfl⟩ := List.mem_map.mp hx
  rfl
theorem first_idx {l : List Str} {z : Str} (hz : z ∈ l) : l[l.idxOf z]? = some z ∧ ∀ m, m < l.idxOf z → l[m]? ≠ some z := by
  have hl : l.idxOf z < l.length := List.idxOf_lt_length_of_mem hz
  refine ⟨by rw [List.getElem?_eq_getElem hl, List.getElem_idxOf hl], fun m hm q => ?_⟩
  have hml : m < l.length := by omega
  have e : l[m] = z := by rw [List.getElem?_eq_getElem hml] at q; exact Option.some.inj q
  have := List.not_of_lt_findIdx (p := (· == z)) (xs := l) (i := m) hm
  simp [e] at this
theorem inV_strs {z : Str} {l : List Str} : inV (.str z) (l.map V.str) = decide (z ∈ l) := by
  unfold inV
  rw [Bool.eq_iff_iff, decide_eq_true_iff, List.any_eq_true]
  constructor
  · rintro ⟨x, hx, e⟩
    obtain ⟨y, hy, rfl⟩ := List.mem_map.mp hx
    have e2 : y = z := by simpa [eqV] using e
    rw [← e2]; exact hy
  · intro hz
    exact ⟨.str z, List.mem_map.mpr ⟨z, hz, rfl⟩, by simp [eqV]⟩
section
variable {σ : St} {H : Hp} {Q : VK} {x : V} {to te : TE} {t : TA} {K : PySem.W.Frag} {p : Addr} {xs : List V} {l : List Str} {z : Str}
theorem x_inL (h : SqL K H p xs) (fx : flatV x = true) (fs : xs.all flatV = true) (k : Q (.bl (inV x xs)) H) : rIn K false x (.ref p) H Q := ⟨p, xs, rfl, .inl h, fx, fs, k⟩
theorem x_inT (h : SqT K H p xs) (fx : flatV x = true) (fs : xs.all flatV = true) (k : Q (.bl (inV x xs)) H) : rIn K false x (.ref p) H Q := ⟨p, xs, rfl, .inr h, fx, fs, k⟩
theorem x_notInL (h : SqL K H p xs) (fx : flatV x = true) (fs : xs.all flatV = true) (k : Q (.bl (!inV x xs)) H) : rIn K true x (.ref p) H Q := ⟨p, xs, rfl, .inl h, fx, fs, k⟩
theorem x_notInT (h : SqT K H p xs) (fx : flatV x = true) (fs : xs.all flatV = true) (k : Q (.bl (!inV x xs)) H) : rIn K true x (.ref p) H Q := ⟨p, xs, rfl, .inr h, fx, fs, k⟩
/-- a value of this type, then -/
def isTy (K : PySem.W.Frag) (T : String) (x : V) (H : Hp) (A : Prop) : Prop := tyV K T x H ∧ A
theorem x_bm {T : String} {r : V → List V → Hp → VK → Prop} (k : to σ H fun x H1 => isTy K T x H1 (t σ H1 fun xs H2 => r x xs H2 Q)) : tBM K T r to t σ H Q := k
theorem x_tyL {A : Prop} (h : SqL K H p xs) (k : A) : isTy K "list" (.ref p) H A := ⟨.inl ⟨rfl, xs, h⟩, k⟩
theorem x_tyK {A : Prop} (h : ∃ o, K.lookup p = some o ∧ o.cls = .type "tuple" ∧ o.dict = none) (k : A) : isTy K "tuple" (.ref p) H A := ⟨.inr (.inl ⟨rfl, h⟩), k⟩
theorem x_tidx (h : SqT K H p (l.map V.str)) (hz : z ∈ l) (k : Q (.int (l.idxOf z)) H) : rTIdx K (.ref p) [.str z] H Q := ⟨p, l, z, _, rfl, rfl, h, (first_idx hz).1, (first_idx hz).2, k⟩
theorem x_lidx (h : SqL K H p (l.map V.str)) (hz : z ∈ l) (k : Q (.int (l.idxOf z)) H) : rIndex K (.ref p) [.str z] H Q := by
  refine ⟨p, l.map V.str, .str z, l.idxOf z, .str z, rfl, rfl, h, rfl, flat_strsV l, ?_, ?_, fun m z' hm hz' => ?_, k⟩
  · rw [List.getElem?_map, (first_idx hz).1]; rfl
  · simp [eqV]
  · rw [List.getElem?_map] at hz'
    cases q : l[m]? with
    | none => rw [q] at hz'; cases hz'
    | some y =>
      rw [q] at hz'
      have e : V.str y = z' := Option.some.inj hz'
      subst e
      have ne : y ≠ z := fun e => (first_idx hz).2 m hm (by rw [q, e])
      simpa [eqV] using ne
def isTxt (x : V) (A : Prop) : Prop := (∃ a, x = .str a) ∧ A
theorem x_m1 {r : V → List V → Hp → VK → Prop} (k : to σ H fun x H1 => isTxt x (te σ H1 fun y H2 => r x [y] H2 Q)) : tM1 r to te σ H Q := k
theorem x_txt {A : Prop} (k : A) : isTxt (.str z) A := ⟨⟨z, rfl⟩, k⟩
theorem x_split {a b : Str} (hb : (b.length == 0) = false) (hl : a.length + 2 ≤ sizeLine) (k : ∀ p H2, H p = none → Same H H2 → H2 p = some (.lst ((Txt.split a b).map V.str)) → Q (.ref p) H2) : rSplitZ (.str a) [.str b] H Q :=
  ⟨a, b, rfl, rfl, hb, hl, fun p hp => k p _ hp (same_new hp) upd_same⟩
theorem x_addZ {a b : Str} (h : a.length + b.length ≤ sizeLine) (k : Q (.str (a ++ b)) H) : rAddZ (.str a) (.str b) H Q := ⟨a, b, rfl, rfl, h, k⟩
theorem x_tupL {ys : List V} (h : SqL K H p ys) (k : ∀ q H2, H q = none → Same H H2 → H2 q = some (.tup ys) → Q (.ref q) H2) : rTupQ K [.ref p] H Q := ⟨p, ys, rfl, .inl ⟨h, fun q hq => k q _ hq (same_new hq) upd_same⟩⟩
theorem x_tupT {ys : List V} (h : SqT K H p ys) (k : Q (.ref p) H) : rTupQ K [.ref p] H Q := ⟨p, ys, rfl, .inr ⟨h, k⟩⟩
theorem DpAll.strs : ∀ l : List Str, DpAll K H (l.map V.str) (l.map PyData.str)
  | [] => .nil
  | z :: l => .cons (.str z) (DpAll.strs l)
theorem DpAll.ints : ∀ l : List Int, DpAll K H (l.map V.int) (l.map PyData.int)
  | [] => .nil
  | z :: l => .cons (.int z) (DpAll.ints l)
theorem x_neD {x y : V} {d e : PyData} (h1 : Dp K H x d) (h2 : Dp K H y e) (s1 : SeqAt.shaped d = true) (s2 : SeqAt.shaped e = true) (k : Q (.bl (!PyData.eqv d e)) H) : rNeD K x y H Q := ⟨d, e, h1, h2, s1, s2, k⟩
theorem x_eqD {x y : V} {d e : PyData} (h1 : Dp K H x d) (h2 : Dp K H y e) (s1 : SeqAt.shaped d = true) (s2 : SeqAt.shaped e = true) (k : Q (.bl (PyData.eqv d e)) H) : rEqD K x y H Q := ⟨d, e, h1, h2, s1, s2, k⟩
theorem x_isiTT {ys : List V} (h : H p = some (.tup ys)) (k : Q (.bl true) H) : rIsi K [.ref p, .ty "tuple"] H Q := x_isi (.base (.tup h)) (by decide +kernel) k
end
/-- isinstance(e, c) where e is the exception that the suite holds -/
def rIsX (K : PySem.W.Frag) (D a : Addr) (cls : Value) (dd : Option Addr) : List V → Hp → VK → Prop := fun xs H Q => ∃ (c : V) (cv : Value) (b : Bool) (d : Addr) (fs : List (Str × V)), xs = [.ref a, c] ∧ cls = .ref D ∧ dd = some d ∧ H d = some (.xd fs) ∧ (∀ u, RelV c u → u = cv) ∧ PySem.W.kitOne K (.ref D) cv = some b ∧ Q (.bl b) H
theorem call_isXn {X : Cx} {a D : Addr} {oe : Obj} {cls : Value} {dd : Option Addr} {pn : List (Addr × Obj)} (C : ExcC X.K D) (hz : Zc cls dd oe) (hf : ∃ vs, oe.data = .fields vs) : CallR (X.suite a ((a, oe) :: pn)) (.builtin "isinstance") (rIsX X.K D a cls dd) := call_isX C hz hf
section
variable {σ : St} {H : Hp} {Q : VK} {K : PySem.W.Frag} {a D d : Addr} {fs : List (Str × V)} {te : TE}
theorem x_isXr {A : Addr} {b : Bool} (hd : H d = some (.xd fs)) (e : PySem.W.kitOne K (.ref D) (.ref A) = some b) (k : Q (.bl b) H) : rIsX K D a (.ref D) (some d) [.ref a, .ref A] H Q := ⟨_, _, b, d, fs, rfl, rfl, rfl, hd, fun u h => h, e, k⟩
theorem x_isXt {T : String} {b : Bool} (hd : H d = some (.xd fs)) (e : PySem.W.kitOne K (.ref D) (.type T) = some b) (k : Q (.bl b) H) : rIsX K D a (.ref D) (some d) [.ref a, .ty T] H Q := ⟨_, _, b, d, fs, rfl, rfl, rfl, hd, fun u h => h, e, k⟩
/-- e.f -/
def isXf (a : Addr) (cls : Value) (dd : Option Addr) (C : Addr) (f : Str) (x : V) (H1 : Hp) (Q : VK) : Prop := x = .ref a ∧ cls = .ref C ∧ ∃ (d : Addr) (fs : List (Str × V)) (v : V), dd = some d ∧ H1 d = some (.xd fs) ∧ fs.lookup f = some v ∧ Q v H1
theorem x_xf {cls : Value} {dd : Option Addr} {C : Addr} {f : Str} (k : te σ H fun x H1 => isXf a cls dd C f x H1 Q) : tXf a cls dd C f te σ H Q := k
theorem x_isXf {f : Str} {v : V} (hd : H d = some (.xd fs)) (l : fs.lookup f = some v) (k : Q v H) : isXf a (.ref D) (some d) D f (.ref a) H Q := ⟨rfl, rfl, d, fs, v, rfl, hd, l, k⟩
theorem x_callS {sp : Sp} {W : WX} {tr : TA} (k : tr σ H fun vs H1 => sp vs H1 Q (WE W σ)) : tCallS sp (WE W) tr σ H Q := k
end
section
variable {σ : St} {H : Hp} {Q : VK} {ta : TA} {te : TE} {g : TG} {vs : List Nat}
/-- [elt for x in range(n)] -/
theorem x_lcR {n : Int} {ys : List V} (hi : ∀ Q : List V → Hp → Prop, Q [.int n] H → ta σ H Q) (hz : 0 ≤ n ∧ n ≤ 100000) (hy : ys.length = n.toNat)
    (hs : ∀ (i : Nat) (y : V) (H' : Hp), (i : Int) < n → ys[i]? = some y → Same H H' → g (.int (i : Int)) (wipe σ vs) H' fun σ2 H2 => wipe σ2 vs = wipe σ vs ∧ H2 = H' ∧ ∀ R : VK, R y H' → te σ2 H' R)
    (k : ∀ p H2, H p = none → Same H H2 → H2 p = some (.lst ys) → Q (.ref p) H2) (hg : ∀ x σ H (P P' : St → Hp → Prop), (∀ σ H, P σ H → P' σ H) → g x σ H P → g x σ H P') : tLc (iRng1 ta) g tYes te vs σ H Q := by
  refine hi _ ⟨n, rfl, by omega, by omega, fun D hD => ?_⟩
  refine lc_range (lo := 0) (n := n.toNat) (fun i H' => Same H H' ∧ H' D = some (.lst (ys.take i))) ⟨same_new hD, upd_same⟩ (fun i H' hi p => ?_) (fun H' p => ?_)
  · have hlt : i < ys.length := by rw [hy]; exact hi
    have hyi : ys[i]? = some ys[i] := List.getElem?_eq_getElem hlt
    have e0 : (0 : Int) + (i : Int) = (i : Int) := Int.zero_add _
    rw [e0]
    refine hg _ _ _ _ _ (fun σ2 H2 q => ?_) (hs i ys[i] H' (by omega) hyi p.1)
    obtain ⟨q1, rfl, q2⟩ := q
    refine ⟨q1, ?_⟩
    refine q2 _ ⟨ys.take i, p.2, ?_, ?_, ?_⟩
    · rw [List.length_take, sizeLine_eq]; omega
    · intro b o e
      have hb : b ≠ D := ne_of_none e hD
      rw [upd_ne hb]
      exact p.1 b o e
    · rw [upd_same, ← List.take_append_getElem hlt]
  · have e : ys.take n.toNat = ys := by rw [← hy]; exact List.take_length
    rw [e] at p
    exact k D H' hD p.1 p.2
end
theorem atI_strs {l : List Str} {i : Int} (h0 : 0 ≤ i) (h1 : i < l.length) : atI (l.map V.str) i = some (.str (l.getD i.toNat "")) := by
  refine atI_of h0 ?_
  have hl : i.toNat < l.length := by omega
  rw [List.getElem?_map, List.getElem?_eq_getElem hl]
  simp [List.getD, hl]
theorem bEq {Q : VK} {H : Hp} {b b' : Bool} (k : Q (.bl b) H) (e : b = b') : Q (.bl b') H := e ▸ k
theorem iEq {Q : VK} {H : Hp} {b b' : Int} (k : Q (.int b) H) (e : b = b') : Q (.int b') H := e ▸ k
section
variable {H : Hp} {Q : VK} {p : Addr} {i : Int} {z : Str}
theorem x_isN0 (k : Q (.bl true) H) : rIsN .non .non H Q := ⟨rfl, k⟩
theorem x_isNr (k : Q (.bl false) H) : rIsN (.ref p) .non H Q := ⟨rfl, k⟩
theorem x_isNi (k : Q (.bl false) H) : rIsN (.int i) .non H Q := ⟨rfl, k⟩
theorem x_isNs (k : Q (.bl false) H) : rIsN (.str z) .non H Q := ⟨rfl, k⟩
theorem x_notN0 (k : Q (.bl false) H) : rNotN .non .non H Q := ⟨rfl, k⟩
theorem x_notNr (k : Q (.bl true) H) : rNotN (.ref p) .non H Q := ⟨rfl, k⟩
theorem x_notNi (k : Q (.bl true) H) : rNotN (.int i) .non H Q := ⟨rfl, k⟩
theorem x_notNs (k : Q (.bl true) H) : rNotN (.str z) .non H Q := ⟨rfl, k⟩
end
theorem inV_ints {z : Int} {l : List Int} : inV (.int z) (l.map V.int) = decide (z ∈ l) := by
  unfold inV
  rw [Bool.eq_iff_iff, decide_eq_true_iff, List.any_eq_true]
  constructor
  · rintro ⟨x, hx, e⟩
    obtain ⟨y, hy, rfl⟩ := List.mem_map.mp hx
    have e2 : y = z := by simpa [eqV] using e
    rw [← e2]; exact hy
  · intro hz
    exact ⟨.int z, List.mem_map.mpr ⟨z, hz, rfl⟩, by simp [eqV]⟩
theorem inV2 {z a b : Int} (h : inV (.int z) [.int a, .int b] = true) : z = a ∨ z = b := by
  have h2 : inV (.int z) (([a, b] : List Int).map V.int) = true := h
  rw [inV_ints] at h2
  simpa using h2
theorem inV3 {z a b c : Int} (h : inV (.int z) [.int a, .int b, .int c] = true) : z = a ∨ z = b ∨ z = c := by
  have h2 : inV (.int z) (([a, b, c] : List Int).map V.int) = true := h
  rw [inV_ints] at h2
  simpa using h2
theorem inV4 {z a b c d : Int} (h : inV (.int z) [.int a, .int b, .int c, .int d] = true) : z = a ∨ z = b ∨ z = c ∨ z = d := by
  have h2 : inV (.int z) (([a, b, c, d] : List Int).map V.int) = true := h
  rw [inV_ints] at h2
  simpa using h2
end M
namespace M
open PySem PySem.Spec PyProof.Rows L2
/-! ## what changes: lists, instances, dicts in place -/
/-- all that is not in S stays -/
def Ext (S : List Addr) (H H' : Hp) : Prop := ∀ b o, b ∉ S → H b = some o → H' b = some o
theorem Ext.refl (S : List Addr) (H : Hp) : Ext S H H := fun _ _ _ e => e
theorem Ext.trans {S : List Addr} {H H1 H2 : Hp} (a : Ext S H H1) (b : Ext S H1 H2) : Ext S H H2 := fun x o h e => b x o h (a x o h e)
theorem Ext.mono {S S' : List Addr} {H H1 : Hp} (a : Ext S H H1) (h : ∀ b, b ∈ S → b ∈ S') : Ext S' H H1 := fun x o hx e => a x o (fun z => hx (h x z)) e
theorem Ext.of_same {S : List Addr} {H H1 : Hp} (a : Same H H1) : Ext S H H1 := fun x o _ e => a x o e
theorem Ext.same {H H1 : Hp} (a : Ext [] H H1) : Same H H1 := fun x o e => a x o (by simp) e
theorem ext_upd {H : Hp} {p : Addr} {o : HO} : Ext [p] H (upd H p o) := fun b u hb e => by
  rw [upd_ne (fun z => hb (by rw [z]; exact List.mem_cons_self ..))]
  exact e
theorem Ext.at1 {H H' : Hp} {p b : Addr} {o : HO} (a : Ext [p] H H') (ne : b ≠ p) (e : H b = some o) : H' b = some o := a b o (by simpa using ne) e
theorem Ext.seq {S : List Addr} {K : PySem.W.Frag} {H H' : Hp} {a : Addr} {xs : List V} (e : Ext S H H') (ha : a ∉ S) (h : SqL K H a xs) : SqL K H' a xs := by
  rcases h with (h | ⟨o, h⟩) | h
  · exact .inl (.inl (e _ _ ha h))
  · exact .inl (.inr ⟨o, e _ _ ha h⟩)
  · exact .inr h
section
variable {σ : St} {H : Hp} {Q : VK} {to ti ta tv : TE} {tr : TA} {K : PySem.W.Frag} {p a C dx : Addr} {f m : Str} {v x y : V} {nx bk ct : St → Hp → Prop} {rt : VK} {fs : List (Str × V)}
theorem x_gsub {t : TSet} {P : St → Hp → Prop} (k : to σ H fun o H1 => ti σ H1 fun i H2 => t o i v H2 fun H3 => P σ H3) : gSub to ti t v σ H P := k
theorem ixN_int {n : Nat} {i : Int} (h0 : 0 ≤ i) (h1 : i < n) : ixN n i = some i.toNat := by
  unfold ixN
  rw [if_pos h0, if_pos h1]
theorem x_setL {xs : List V} {i : Int} {P : Hp → Prop} (h : H p = some (.lst xs)) (h0 : 0 ≤ i) (h1 : i < xs.length) (k : ∀ H2, Ext [p] H H2 → H2 p = some (.lst (xs.set i.toNat v)) → P H2) : rSetL (.ref p) (.int i) v H P :=
  ⟨p, xs, i, _, rfl, rfl, h, ixN_int h0 h1, k _ ext_upd upd_same⟩
theorem x_setI {l : List Int} {i z : Int} {P : Hp → Prop} (h : H p = some (.lst (l.map V.int))) (h0 : 0 ≤ i) (h1 : i < l.length) (k : ∀ H2, Ext [p] H H2 → H2 p = some (.lst ((l.set i.toNat z).map V.int)) → P H2) : rSetL (.ref p) (.int i) (.int z) H P :=
  x_setL h h0 (by rw [List.length_map]; exact h1) fun H2 e h2 => k H2 e (by rw [h2, List.map_set])
/-- e.f -/
def isFld (K : PySem.W.Frag) (f : Str) (x : V) (H : Hp) (Q : VK) : Prop := ∃ a C dx fs v, x = .ref a ∧ H a = some (.ins C dx fs) ∧ Cls K C ∧ NoAttr K C f ∧ fs.lookup f = some v ∧ Q v H
theorem x_fld (k : ta σ H fun x H1 => isFld K f x H1 Q) : tFld K ta f σ H Q := k
theorem x_isFld (h : H a = some (.ins C dx fs)) (c : Cls K C) (n : NoAttr K C f) (l : fs.lookup f = some v) (k : Q v H) : isFld K f (.ref a) H Q := ⟨a, C, dx, fs, v, rfl, h, c, n, l, k⟩
/-- e.f = value -/
def isSF (K : PySem.W.Frag) (f : Str) (y x : V) (H : Hp) (P : Hp → Prop) : Prop := ∃ a C dx fs, x = .ref a ∧ H a = some (.ins C dx fs) ∧ Cls K C ∧ NoAttr K C f ∧ fs.length < 1000 ∧ P (upd H a (.ins C dx (putF f y fs)))
theorem x_sfld (k : tv σ H fun y H1 => ta σ H1 fun x H2 => isSF K f y x H2 (nx σ)) : sFld K ta tv f ⟨nx, rt, bk, ct⟩ σ H := k
theorem x_isSF {fs' : List (Str × V)} {P : Hp → Prop} (h : H a = some (.ins C dx fs)) (c : Cls K C) (n : NoAttr K C f) (hl : fs.length < 1000) (e : putF f y fs = fs') (k : ∀ H2, Ext [a] H H2 → H2 a = some (.ins C dx fs') → P H2) : isSF K f y (.ref a) H P :=
  ⟨a, C, dx, fs, rfl, h, c, n, hl, k _ ext_upd (by rw [upd_same, e])⟩
/-- e.f op= value -/
def isFA (K : PySem.W.Frag) (tv : TE) (rd : V → V → Hp → VK → Prop) (f : Str) (x : V) (σ : St) (H1 : Hp) (P : Hp → Prop) : Prop := ∃ a C dx fs v, x = .ref a ∧ H1 a = some (.ins C dx fs) ∧ Cls K C ∧ NoAttr K C f ∧ fs.lookup f = some v ∧
  tv σ H1 fun y H2 => rd v y H2 fun z H3 => ∃ dx' fs', H3 a = some (.ins C dx' fs') ∧ fs'.length < 1000 ∧ P (upd H3 a (.ins C dx' (putF f z fs')))
theorem x_fldaug {rd : V → V → Hp → VK → Prop} (k : ta σ H fun x H1 => isFA K tv rd f x σ H1 (nx σ)) : sFldAug K ta tv rd f ⟨nx, rt, bk, ct⟩ σ H := k
/-- self.f += 1 and alike, the value an int that is read at once -/
theorem x_isFAadd {i j : Int} {fs' : List (Str × V)} {P : Hp → Prop} (h : H a = some (.ins C dx fs)) (c : Cls K C) (n : NoAttr K C f) (l : fs.lookup f = some (.int i)) (hl : fs.length < 1000) (htv : ∀ Q : VK, Q (.int j) H → tv σ H Q) (e : putF f (.int (i + j)) fs = fs')
    (k : ∀ H2, Ext [a] H H2 → H2 a = some (.ins C dx fs') → P H2) : isFA K tv rAdd f (.ref a) σ H P :=
  ⟨a, C, dx, fs, _, rfl, h, c, n, l, htv _ ⟨i, j, rfl, rfl, dx, fs, h, hl, k _ ext_upd (by rw [upd_same, e])⟩⟩
/-- e.m(..) -/
def isMeth (C : Addr) (m : Str) (x : V) (H : Hp) (A : Prop) : Prop := ∃ a dx fs, x = .ref a ∧ H a = some (.ins C dx fs) ∧ fs.lookup m = none ∧ A
theorem x_meth {sp : Sp} {E : XK} (k : ta σ H fun x H1 => isMeth C m x H1 (tr σ H1 fun vs H2 => sp (x :: vs) H2 Q E)) : tMeth C m sp [] E ta tr σ H Q := by
  have e : (fun x H1 => ∃ a dx fs, x = V.ref a ∧ H1 a = some (.ins C dx fs) ∧ fs.lookup m = none ∧ tr σ H1 fun vs H2 => sp (x :: (vs ++ [])) H2 Q E) = fun x H1 => isMeth C m x H1 (tr σ H1 fun vs H2 => sp (x :: vs) H2 Q E) := by
    funext x H1
    unfold isMeth
    have e2 : (fun (vs : List V) (H2 : Hp) => sp (x :: (vs ++ [])) H2 Q E) = fun vs H2 => sp (x :: vs) H2 Q E := by
      funext vs H2
      rw [List.append_nil]
    rw [e2]
  show ta σ H (fun x H1 => ∃ a dx fs, x = V.ref a ∧ H1 a = some (.ins C dx fs) ∧ fs.lookup m = none ∧ tr σ H1 fun vs H2 => sp (x :: (vs ++ [])) H2 Q E)
  rw [e]
  exact k
theorem x_isMeth {A : Prop} (h : H a = some (.ins C dx fs)) (l : fs.lookup m = none) (k : A) : isMeth C m (.ref a) H A := ⟨a, dx, fs, rfl, h, l, k⟩
/-- .., letting something out -/
def tMethS (C : Addr) (m : Str) (sp : Sp) (E : St → XK) (ta : TE) (t : TA) : TE := fun σ H Q => ta σ H fun x H1 => ∃ a dx fs, x = .ref a ∧ H1 a = some (.ins C dx fs) ∧ fs.lookup m = none ∧ t σ H1 fun vs H2 => sp (x :: vs) H2 Q (E σ)
theorem x_methS {sp : Sp} {W : WX} (k : ta σ H fun x H1 => isMeth C m x H1 (tr σ H1 fun vs H2 => sp (x :: vs) H2 Q (WE W σ))) : tMethS C m sp (WE W) ta tr σ H Q := k
/-- C(..) -/
def isNew (C : Addr) (sp : Sp) (E : XK) (vs : List V) (H1 : Hp) (Q : VK) : Prop := ∀ x dx, H1 x = none → H1 dx = none → dx ≠ x → sp (.ref x :: vs) (upd (upd H1 dx (.own x)) x (.ins C dx [])) (fun v H2 => v = .non ∧ Q (.ref x) H2) E
theorem x_make {sp : Sp} {E : XK} (k : tr σ H fun vs H1 => isNew C sp E vs H1 Q) : tMake C sp [] E tr σ H Q := by
  have e : (fun (vs : List V) (H1 : Hp) => ∀ x dx, H1 x = none → H1 dx = none → dx ≠ x → sp (.ref x :: (vs ++ [])) (upd (upd H1 dx (.own x)) x (.ins C dx [])) (fun v H2 => v = .non ∧ Q (.ref x) H2) E) = fun vs H1 => isNew C sp E vs H1 Q := by
    funext vs H1
    unfold isNew
    rw [List.append_nil]
  show tr σ H (fun (vs : List V) (H1 : Hp) => ∀ x dx, H1 x = none → H1 dx = none → dx ≠ x → sp (.ref x :: (vs ++ [])) (upd (upd H1 dx (.own x)) x (.ins C dx [])) (fun v H2 => v = .non ∧ Q (.ref x) H2) E)
  rw [e]
  exact k
theorem x_isNew {sp : Sp} {E : XK} {vs : List V} (k : ∀ x dx H2, H x = none → Same H H2 → H2 x = some (.ins C dx []) → sp (.ref x :: vs) H2 (fun v H3 => v = .non ∧ Q (.ref x) H3) E) : isNew C sp E vs H Q := fun x dx hx hd ne => by
  refine k x dx _ hx (fun b o e => ?_) upd_same
  rw [upd_ne (ne_of_none e hx), upd_ne (ne_of_none e hd)]
  exact e
/-! dicts -/
def isDG (x y : V) (H : Hp) (Q : VK) : Prop := ∃ a v, x = .ref a ∧ DGet H a y (some v) ∧ Q v H
theorem x_dget {td ty : TE} (k : td σ H fun x H1 => ty σ H1 fun y H2 => isDG x y H2 Q) : tDGet td ty σ H Q := k
theorem x_isDG {kvs : List (Key × V)} {z : Str} (h : H p = some (.dK kvs)) (l : valV kvs (.inr z) = some v) (k : Q v H) : isDG (.ref p) (.str z) H Q := ⟨p, v, rfl, by rw [← l]; exact DGet.k (k := .inr z) h, k⟩
def isDP (v x y : V) (H : Hp) (P : Hp → Prop) : Prop := ∃ a H4, x = .ref a ∧ DPut H a y v H4 ∧ P H4
theorem x_dput {td ty : TE} (k : tv σ H fun v H1 => td σ H1 fun x H2 => ty σ H2 fun y H3 => isDP v x y H3 (nx σ)) : sDPut td ty tv ⟨nx, rt, bk, ct⟩ σ H := k
theorem x_isDP {kvs kvs' : List (Key × V)} {z : Str} {P : Hp → Prop} (h : H p = some (.dK kvs)) (hl : kvs.length ≤ 1000) (e : putK kvs (.inr z) v = kvs') (k : ∀ H2, Ext [p] H H2 → H2 p = some (.dK kvs') → P H2) : isDP v (.ref p) (.str z) H P :=
  ⟨p, _, rfl, DPut.k (k := .inr z) h (by rw [sizeLine_eq]; omega), k _ ext_upd (by rw [upd_same, e])⟩
end
/-! ### methods: contracts -/
structure MetX (P : Program) (w : World) (K : PySem.W.Frag) (mg : Str → Option Value) (base : Heap) (k : Nat) (C : Addr) (m : Str) (sp : Sp) : Prop where
  ex : ∃ (f : Addr) (fd : FuncData) (ps : List Str), Cls K C ∧ Meth K C m f ∧ FnOk P w K mg base (L2N.CX P w) k f fd ps sp ∧ Binds K fd ps []
structure MetH (P : Program) (w : World) (K : PySem.W.Frag) (mg : Str → Option Value) (base : Heap) (k : Nat) (C : Addr) (m : Str) (sp : Sp) : Prop where
  ex : ∃ (f : Addr) (fd : FuncData) (ps : List Str), Cls K C ∧ Meth K C m f ∧ L2H.FnH P w K mg base CX0 k f fd ps sp ∧ Binds K fd ps []
section
variable {X : Cx} {k j : Nat} {C : Addr} {m : Str} {sp : Sp} {pos apos : Pos} {e o : Expr} {es : List Expr} {ta : TE} {t : TA}
theorem pe_mX {W : WX} {pl : Sem Bool} (c : MetX X.prog X.w X.K X.mg X.base k C m sp) (hr : Room j X.A) (hk : k ≤ j) (tk : L2N.Takes X W) (he : PE X o ta) (ha : PA X (e :: es) t)
    (hst : starEach (e :: es) X.env = (false, eval e X.env) :: starEach es X.env := by rfl) (hpl : (backTo pos (starEach es X.env)).any (·.1) = false := by rfl)
    (ht : eval (.Call (.Attribute o m apos) (e :: es) [] pos) X.env = (do
      let ov ← eval o X.env
      standAt apos.atName
      let (f, first) ← holding [ov] (getMethod ov m pl)
      callWith pos f first (backTo pos (starEach (e :: es) X.env)) (backToKw pos (keywordEach [] X.env))) := by rfl) :
    PE X (.Call (.Attribute o m apos) (e :: es) [] pos) (tMethS C m sp (WE W) ta t) := by
  obtain ⟨f, fd, ps, hc, hm, F, b⟩ := c.ex
  refine ⟨fun pins s σ H Q I h => ?_⟩
  refine PySem.W.methodCall_KW (pl := pl) (thn (he.run pins s σ H _ I h) fun u s1 ⟨x, H1, I1, rx, a, dx, fs, ex, ea, l, q⟩ => ?_) ht
  subst ex
  obtain rfl : u = Value.ref a := rx
  refine getmeth_ok I1 ea hc hm l ?_
  refine PySem.W.callWith_K (first := [.ref a]) (h₀ := X.base) I.ok.mod.kin hm.kp (thn (ha.run pos pins s1 σ H1 _ I1 q) fun us s2 ⟨vs, H2, I2, r, q2⟩ => ⟨I2.kIn, ?_⟩) hst hpl
  exact run_fnS (us := .ref a :: us) (vs := .ref a :: vs) F (hr.mono hk) b (L2N.passAt tk σ) I2 (.cons rfl r) q2
theorem pe_mX0 {W : WX} {pl : Sem Bool} (c : MetX X.prog X.w X.K X.mg X.base k C m sp) (hr : Room j X.A) (hk : k ≤ j) (tk : L2N.Takes X W) (he : PE X o ta)
    (ht : eval (.Call (.Attribute o m apos) [] [] pos) X.env = (do
      let ov ← eval o X.env
      standAt apos.atName
      let (f, first) ← holding [ov] (getMethod ov m pl)
      callWith pos f first (backTo pos (starEach [] X.env)) (backToKw pos (keywordEach [] X.env))) := by rfl) :
    PE X (.Call (.Attribute o m apos) [] [] pos) (tMethS C m sp (WE W) ta tNil) := by
  obtain ⟨f, fd, ps, hc, hm, F, b⟩ := c.ex
  refine ⟨fun pins s σ H Q I h => ?_⟩
  refine PySem.W.methodCall_KW (pl := pl) (thn (he.run pins s σ H _ I h) fun u s1 ⟨x, H1, I1, rx, a, dx, fs, ex, ea, l, q⟩ => ?_) ht
  subst ex
  obtain rfl : u = Value.ref a := rx
  refine getmeth_ok I1 ea hc hm l ?_
  exact PySem.W.callWith_K0 (first := [.ref a]) I1.kIn hm.kp (run_fnS (us := [.ref a]) (vs := [.ref a]) F (hr.mono hk) b (L2N.passAt tk σ) I1 (.cons rfl .nil) q)
theorem tMethH_S {sp : Sp} : L2H.tMethH C m sp (fun _ => C8.E0) ta t = tMeth C m sp [] C8.E0 ta t := by
  funext σ H Q
  unfold L2H.tMethH tMeth
  congr 1
  funext x H1
  congr 1
  funext a
  congr 1
  funext dx
  congr 1
  funext fs
  congr 1
  congr 1
  congr 1
  congr 1
  funext vs H2
  rw [List.append_nil]
theorem pe_mH {pl : Sem Bool} (c : MetH X.prog X.w X.K X.mg X.base k C m sp) (hc : L2H.HotC X) (hr : L2H.RoomH j X.A) (hk : k ≤ j) (he : PE X o ta) (ha : PA X (e :: es) t)
    (hst : starEach (e :: es) X.env = (false, eval e X.env) :: starEach es X.env := by rfl) (hpl : (backTo pos (starEach es X.env)).any (·.1) = false := by rfl)
    (ht : eval (.Call (.Attribute o m apos) (e :: es) [] pos) X.env = (do
      let ov ← eval o X.env
      standAt apos.atName
      let (f, first) ← holding [ov] (getMethod ov m pl)
      callWith pos f first (backTo pos (starEach (e :: es) X.env)) (backToKw pos (keywordEach [] X.env))) := by rfl) :
    PE X (.Call (.Attribute o m apos) (e :: es) [] pos) (tMeth C m sp [] C8.E0 ta t) := by
  obtain ⟨f, fd, ps, hcl, hm, F, b⟩ := c.ex
  rw [← tMethH_S]
  exact L2H.pe_methH (pl := pl) he hcl hm (FnH.mono F hk) hr hc b (fun σ _ _ _ _ _ _ h => h.elim) ha hst hpl ht
end
section
variable {P : Program} {w : World} {K : PySem.W.Frag} {mg : Str → Option Value} {base : Heap}
theorem met_mk {m qual : Str} {C : Addr} {st : Stmt} {f : Addr} {N ps : List Str} {k : Nat} {sp : Sp} (F : ∃ fd, FunD K m qual (defArgs st) (defBody st) (defScope st) [] [] f fd) (c : Cls K C) (me : Meth K C m f) (S : FnScope N ps (defScope st))
    (hb : ∀ (kV doc pm : Value) (an : Option Addr) (cdv ct : Value) (us : List Value), us.length = ps.length → bindArgs (PySem.W.fnOf m qual (defArgs st) (defBody st) (defScope st) .none kV doc pm an cdv ct) ⟨us, []⟩ = pure (ps.zip us))
    (len : ∀ vs H Q E, sp vs H Q E → vs.length = ps.length)
    (hbody : ∀ (cdv : Value) (A : Around) (outer : List Env) (s : Shared) (H : Hp) (vs : List V) (Q : VK) (E : XK), Room k (A.deeper (envOfC qual (defScope st) s.heap.objs.size f cdv)) → sp vs H Q E →
      ∃ t, PSs (cxOf CX0 P w K mg base N qual (defScope st) f cdv A outer s H E).nox (defBody st) t ∧ t ⟨fun _ H' => Q .non H', Q, fun _ _ => False, fun _ _ => False⟩ (start N vs) H) : C8.Met P w K mg base (k + 1) C m sp [] := by
  obtain ⟨fd, F⟩ := F
  refine ⟨f, fd, ps, [], c, me, F.ok S len fun cdv A outer s H vs Q E hr h => ?_, F.bindsN hb, .nil⟩
  obtain ⟨t, h1, h2⟩ := hbody cdv A outer s H vs Q E hr h
  exact ⟨t, h1.nox, h2⟩
theorem met_mkX {m qual : Str} {C : Addr} {st : Stmt} {f : Addr} {N ps : List Str} {k : Nat} {sp : Sp} (F : ∃ fd, FunD K m qual (defArgs st) (defBody st) (defScope st) [] [] f fd) (c : Cls K C) (me : Meth K C m f) (S : FnScope N ps (defScope st))
    (hb : ∀ (kV doc pm : Value) (an : Option Addr) (cdv ct : Value) (us : List Value), us.length = ps.length → bindArgs (PySem.W.fnOf m qual (defArgs st) (defBody st) (defScope st) .none kV doc pm an cdv ct) ⟨us, []⟩ = pure (ps.zip us))
    (len : ∀ vs H Q E, sp vs H Q E → vs.length = ps.length)
    (hbody : ∀ (cdv : Value) (A : Around) (outer : List Env) (s : Shared) (H : Hp) (vs : List V) (Q : VK) (E : XK), Room k (A.deeper (envOfC qual (defScope st) s.heap.objs.size f cdv)) → sp vs H Q E →
      ∃ t, PSs (cxOf (L2N.CX P w) P w K mg base N qual (defScope st) f cdv A outer s H E) (defBody st) t ∧ t ⟨fun _ H' => Q .non H', Q, fun _ _ => False, fun _ _ => False⟩ (start N vs) H) : MetX P w K mg base (k + 1) C m sp := by
  obtain ⟨fd, F⟩ := F
  exact ⟨f, fd, ps, c, me, F.ok S len fun cdv A outer s H vs Q E hr h => hbody cdv A outer s H vs Q E hr h, F.bindsN hb⟩
theorem metH_mk {m qual : Str} {C : Addr} {st : Stmt} {f : Addr} {N ps : List Str} {k : Nat} {sp : Sp} (F : ∃ fd, FunD K m qual (defArgs st) (defBody st) (defScope st) [] [] f fd) (c : Cls K C) (me : Meth K C m f) (S : FnScope N ps (defScope st))
    (hb : ∀ (kV doc pm : Value) (an : Option Addr) (cdv ct : Value) (us : List Value), us.length = ps.length → bindArgs (PySem.W.fnOf m qual (defArgs st) (defBody st) (defScope st) .none kV doc pm an cdv ct) ⟨us, []⟩ = pure (ps.zip us))
    (len : ∀ vs H Q E, sp vs H Q E → vs.length = ps.length)
    (hbody : ∀ (cdv : Value) (A : Around) (outer : List Env) (s : Shared) (H : Hp) (vs : List V) (Q : VK) (E : XK) (p : Addr × Obj), L2H.HotC (L2H.cxH CX0 P w K mg base N qual (defScope st) f cdv A outer s H E p).nox → L2H.RoomH k (A.deeper (envOfC qual (defScope st) s.heap.objs.size f cdv)) → sp vs H Q E →
      ∃ t, PSs (L2H.cxH CX0 P w K mg base N qual (defScope st) f cdv A outer s H E p).nox (defBody st) t ∧ t ⟨fun _ H' => Q .non H', Q, fun _ _ => False, fun _ _ => False⟩ (start N vs) H) : MetH P w K mg base (k + 1) C m sp := by
  obtain ⟨fd, F⟩ := F
  refine ⟨f, fd, ps, c, me, ?_, F.bindsN hb⟩
  obtain ⟨oc, od, dV, kV, doc, pm, an, cdv, ct, osl, rfl, lk, hcd, _, _⟩ := F.ex
  exact L2H.fn_ofH lk hcd S len fun A outer s H vs Q E p hot hr h => by
    obtain ⟨t, h1, h2⟩ := hbody _ A outer s H vs Q E p ⟨p, hot, List.mem_cons_self ..⟩ hr h
    exact ⟨t, h1.nox, h2⟩
theorem mak_mk {x qual : Str} {C : Addr} {st : Stmt} {f : Addr} {N ps : List Str} {k : Nat} {sp : Sp} (F : ∃ fd, FunD K "__init__" qual (defArgs st) (defBody st) (defScope st) [] [] f fd) (mk : Mk K C f) (hm : mg x = some (.ref C)) (S : FnScope N ps (defScope st))
    (hb : ∀ (kV doc pm : Value) (an : Option Addr) (cdv ct : Value) (us : List Value), us.length = ps.length → bindArgs (PySem.W.fnOf "__init__" qual (defArgs st) (defBody st) (defScope st) .none kV doc pm an cdv ct) ⟨us, []⟩ = pure (ps.zip us))
    (len : ∀ vs H Q E, sp vs H Q E → vs.length = ps.length)
    (hbody : ∀ (cdv : Value) (A : Around) (outer : List Env) (s : Shared) (H : Hp) (vs : List V) (Q : VK) (E : XK), Room k (A.deeper (envOfC qual (defScope st) s.heap.objs.size f cdv)) → sp vs H Q E →
      ∃ t, PSs (cxOf CX0 P w K mg base N qual (defScope st) f cdv A outer s H E).nox (defBody st) t ∧ t ⟨fun _ H' => Q .non H', Q, fun _ _ => False, fun _ _ => False⟩ (start N vs) H) : C8.Mak P w K mg base (k + 1) x C sp [] := by
  obtain ⟨fd, F⟩ := F
  refine ⟨f, fd, ps, [], mk, F.ok S len fun cdv A outer s H vs Q E hr h => ?_, hm, F.bindsN hb, .nil⟩
  obtain ⟨t, h1, h2⟩ := hbody cdv A outer s H vs Q E hr h
  exact ⟨t, h1.nox, h2⟩
/-- a def that is never reached: nothing is promised -/
def spNo : Sp := fun _ _ _ _ => False
theorem met_no {m qual : Str} {C : Addr} {st : Stmt} {f : Addr} {N ps : List Str} {k : Nat} (F : ∃ fd, FunD K m qual (defArgs st) (defBody st) (defScope st) [] [] f fd) (c : Cls K C) (me : Meth K C m f) (S : FnScope N ps (defScope st))
    (hb : ∀ (kV doc pm : Value) (an : Option Addr) (cdv ct : Value) (us : List Value), us.length = ps.length → bindArgs (PySem.W.fnOf m qual (defArgs st) (defBody st) (defScope st) .none kV doc pm an cdv ct) ⟨us, []⟩ = pure (ps.zip us)) : C8.Met P w K mg base (k + 1) C m spNo [] :=
  met_mk F c me S hb (fun _ _ _ _ h => h.elim) fun _ _ _ _ _ _ _ _ _ h => h.elim
theorem met_noX {m qual : Str} {C : Addr} {st : Stmt} {f : Addr} {N ps : List Str} {k : Nat} (F : ∃ fd, FunD K m qual (defArgs st) (defBody st) (defScope st) [] [] f fd) (c : Cls K C) (me : Meth K C m f) (S : FnScope N ps (defScope st))
    (hb : ∀ (kV doc pm : Value) (an : Option Addr) (cdv ct : Value) (us : List Value), us.length = ps.length → bindArgs (PySem.W.fnOf m qual (defArgs st) (defBody st) (defScope st) .none kV doc pm an cdv ct) ⟨us, []⟩ = pure (ps.zip us)) : MetX P w K mg base (k + 1) C m spNo :=
  met_mkX F c me S hb (fun _ _ _ _ h => h.elim) fun _ _ _ _ _ _ _ _ _ h => h.elim
end
/-! ### a local that holds a def; a written dict -/
theorem hu {k : Nat} {A : Around} (hr : Room k A) : A.units + 1 < cLine := by have := hr.un; omega
theorem huH {k : Nat} {A : Around} (hr : L2H.RoomH k A) : A.units + 1 < cLine := by have := hr.un; omega
def tCallP (P : Program) (w : World) (K : PySem.W.Frag) (mg : Str → Option Value) (base : Heap) (k : Nat) (i : Nat) (t : TA) : TE := fun σ H Q => ∃ f sp, σ[i]? = some (some (.ref f)) ∧ Held P w K mg base k f sp ∧ t σ H fun vs H1 => sp vs H1 Q (fun _ _ _ => False)
section
variable {X : Cx} {k j i : Nat} {x : Str} {p pos : Pos} {e : Expr} {es : List Expr} {t : TA}
theorem pe_callP (hr : Room j X.A) (hN : X.N[i]? = some x) (hv : Vis X.env.scope x) (ha : PA X (e :: es) t) (hk : k ≤ j := by decide)
    (hdb : (x == ("__debug__" : Str)) = false := by decide) (hcd : (x == ("__classdict__" : Str)) = false := by decide)
    (he : starEach (e :: es) X.env = (false, eval e X.env) :: starEach es X.env := by rfl) (hpl : (backTo pos (starEach es X.env)).any (·.1) = false := by rfl) : PE X (.Call (.Name x p) (e :: es) [] pos) (tCallP X.prog X.w X.K X.mg X.base k i t) := by
  refine ⟨fun pins s σ H Q I h => ?_⟩
  obtain ⟨f, sp, hs, hS, ht⟩ := h
  obtain ⟨fd, ps, F, hkp, hb⟩ := hS.ex
  refine (pe_callL (i := i) (f := f) (sp := sp) (dvs := []) (E := fun _ _ _ => False) F (hr.mono hk) hN hv hkp hb .nil (fun _ _ _ _ _ _ _ z => z.elim) ha hdb hcd he hpl).run pins s σ H Q I ⟨hs, ?_⟩
  have e0 : (fun (vs : List V) (H1 : Hp) => sp (vs ++ []) H1 Q (fun _ _ _ => False)) = fun vs H1 => sp vs H1 Q (fun _ _ _ => False) := by
    funext vs H1
    rw [List.append_nil]
  show t σ H (fun vs H1 => sp (vs ++ []) H1 Q (fun _ _ _ => False))
  rw [e0]
  exact ht
end
section
variable {P : Program} {w : World} {K : PySem.W.Frag} {mg : Str → Option Value} {base : Heap} {k j i : Nat} {f p : Addr} {sp : Sp} {σ : St} {H : Hp} {Q : VK} {t : TA} {v : V} {z : Str} {a : Addr} {xs : List V} {n : Nat}
theorem held_of {x : Str} (c : C8.Cal P w K mg base k x sp []) (g : mg x = some (.ref f)) (hk : k ≤ j) : Held P w K mg base j f sp := by
  obtain ⟨f', fd, ps, ds, F, hm, kp, b, d⟩ := c.ex
  have e := hm.symm.trans g
  cases e
  cases d
  exact ⟨fd, ps, F.mono hk, kp, b⟩
theorem x_callP (hs : σ[i]? = some (some (.ref f))) (h : Held P w K mg base k f sp) (q : t σ H fun vs H1 => sp vs H1 Q (fun _ _ _ => False)) : tCallP P w K mg base k i t σ H Q := ⟨f, sp, hs, h, q⟩
theorem x_kd (h : KDct K w p z v) (q : Q v H) : rIxD K w (.ref p) (.str z) H Q := ⟨p, z, v, rfl, rfl, h, q⟩
theorem kdct_of {kvs : List (Str × He.Dv)} (D : ∃ es n, KDict K w p es n) (h : He.valsB K p kvs = true) {q : Str × He.Dv} (hq : q ∈ kvs) : KDct K w p q.1 (q.2.v K) := by
  obtain ⟨es, n, d⟩ := D
  obtain ⟨u, hu, r⟩ := He.valsB_ok h hq
  exact ⟨es, n, u, d.at_, d.lit, hu, r⟩
/-! a, b = t -/
theorem x_gtup {tg : TGs} {P : St → Hp → Prop} (h : SqT K H a xs) (hl : xs.length = n) (q : tg xs σ H P) : gTup K n tg (.ref a) σ H P := ⟨a, xs, rfl, h, hl, q⟩
end
section
variable {σ : L2.St} {H : Hp} {v : V} {xs : List V} {g : TG} {u : TGs} {P : L2.St → Hp → Prop}
theorem x_gnil (q : P σ H) : gNil [] σ H P := ⟨rfl, q⟩
theorem x_gcons (q : g v σ H fun σ' H' => u xs σ' H' P) : gCons g u (v :: xs) σ H P := ⟨v, xs, rfl, q⟩
end
/-! ### a caught Trap, a raised one -/
/-- an error of the class at C with these fields goes out -/
def Out1 (C : Addr) (fs : List (Str × V)) (H : Hp) (E : XK) : Prop := ∀ d H', H d = none → Same H H' → H' d = some (.xd fs) → E (.ref C) (some d) H'
theorem x_out {C : Addr} {fs : List (Str × V)} {H : Hp} {E : XK} (h : Out1 C fs H E) : ∀ d, H d = none → E (.ref C) (some d) (upd H d (.xd fs)) := fun d hd => h d _ hd (same_new hd) upd_same
/-- a new error of two fields -/
def isE2 (C : Addr) (f0 f1 : Str) (vs : List V) (H : Hp) (E : XK) : Prop := vs.length = 2 ∧ (∀ v ∈ vs, XM.TxtV v) ∧ ∀ d, H d = none → E (.ref C) (some d) (upd H d (.xd (([f0, f1] : List Str).zip vs).reverse))
theorem x_isE2 {C : Addr} {f0 f1 : Str} {v0 v1 : V} {H : Hp} {E : XK} (h0 : XM.TxtV v0) (h1 : XM.TxtV v1) (k : Out1 C [(f1, v1), (f0, v0)] H E) : isE2 C f0 f1 [v0, v1] H E := by
  refine ⟨rfl, ?_, fun d hd => x_out k d hd⟩
  intro v hv
  simp only [List.mem_cons, List.not_mem_nil, or_false] at hv
  rcases hv with rfl | rfl
  · exact h0
  · exact h1
theorem txtI {i : Int} (h : i.natAbs < 1000000000) : XM.TxtV (.int i) := .inl ⟨i, rfl, h⟩
theorem x_mkE2 {C : Addr} {f0 f1 : Str} {σ : L2.St} {H : Hp} {E : XK} {ta : TA} (k : ta σ H fun vs H1 => isE2 C f0 f1 vs H1 E) : XM.tMkE C [f0, f1] ta σ H E := k
/-! ### try: .., except X: .. -/
def tTryO (K : PySem.W.Frag) (c : Value) (tb : WX → TS) (ts : Addr → Value → Option Addr → TS) : TS := fun D σ H => tb (wMany K (fun _ _ _ _ => False) D [(c, ts)]) D σ H
theorem x_tryO {K : PySem.W.Frag} {c : Value} {tb : WX → TS} {ts : Addr → Value → Option Addr → TS} {D : Ends} {σ : L2.St} {H : Hp} (h : tb (wMany K (fun _ _ _ _ => False) D [(c, ts)]) D σ H) : tTryO K c tb ts D σ H := h
theorem ps_tryO {X : Cx} {x : Str} {c : Value} {body suite : List Stmt} {b₀ : Stmt} {np pos pos' : Pos} {tb : WX → TS} {ts : Addr → Value → Option Addr → TS} (hs : X.stack = X.env :: X.outer) (hf : X.env.frame = some X.env.locals) (hg : Gl X x) (hd : (x == ("__debug__" : Str)) = false) (hm : X.mg x = some c)
    (hb : ∀ (W : WX) (pn : List (Addr × Obj)) (xe : Value → Shared → Prop), L2N.Takes (X.tr pn xe) W → PassesOwn (model X.prog X.w) X.A X.env xe → PSs (X.tr pn xe) body (tb W))
    (hsu : ∀ (a : Addr) (oe : Obj) (cls : Value) (d : Option Addr) (pn : List (Addr × Obj)), L2N.Zn cls d oe → (∃ vs, oe.data = .fields vs) → PSs (X.suite a ((a, oe) :: pn)) (b₀ :: suite) (ts a cls d)) :
    PS X (.Try body [.ExceptHandler (some (.Name x np)) none (b₀ :: suite) pos'] [] [] pos) (tTryO X.K c tb ts) := L2N.ps_try_many hs hf takesN0 hb (.cons ⟨hg, hd, .inl hm⟩ hsu .nil)
section
variable {H : Hp} {a b C dx : Addr} {fs : List (Str × V)} {xs : List V} {kvs : List (Key × V)}
theorem ne_ho {o u : HO} (ha : H a = some o) (hb : H b = some u) (d : o ≠ u) : a ≠ b := fun z => by
  rw [z, hb] at ha
  exact d (Option.some.inj ha).symm
theorem ne_il (ha : H a = some (.ins C dx fs)) (hb : H b = some (.lst xs)) : a ≠ b := ne_ho ha hb (fun z => by cases z)
theorem ne_li (ha : H a = some (.lst xs)) (hb : H b = some (.ins C dx fs)) : a ≠ b := ne_ho ha hb (fun z => by cases z)
theorem ne_tl {ys : List V} (ha : H a = some (.tup ys)) (hb : H b = some (.lst xs)) : a ≠ b := ne_ho ha hb (fun z => by cases z)
theorem ne_ti {ys : List V} (ha : H a = some (.tup ys)) (hb : H b = some (.ins C dx fs)) : a ≠ b := ne_ho ha hb (fun z => by cases z)
theorem ne_dl (ha : H a = some (.dK kvs)) (hb : H b = some (.lst xs)) : a ≠ b := ne_ho ha hb (fun z => by cases z)
theorem ne_ld (ha : H a = some (.lst xs)) (hb : H b = some (.dK kvs)) : a ≠ b := ne_ho ha hb (fun z => by cases z)
theorem ne_di (ha : H a = some (.dK kvs)) (hb : H b = some (.ins C dx fs)) : a ≠ b := ne_ho ha hb (fun z => by cases z)
theorem ne_td {ys : List V} (ha : H a = some (.tup ys)) (hb : H b = some (.dK kvs)) : a ≠ b := ne_ho ha hb (fun z => by cases z)
end
section
variable {σ : L2.St} {H : Hp} {Q : VK} {K : PySem.W.Frag} {p : Addr} {ys : List V} {c : TT} {tb : TS} {nx bk ct : L2.St → Hp → Prop} {rt : VK}
/-- a turn of a while -/
def TurnW (Pv : Nat → L2.St → Hp → Prop) (m : Nat) (tb : TS) (rt : VK) (nx : L2.St → Hp → Prop) (σ' : L2.St) (H1 : Hp) : Prop := ∃ N : L2.St → Hp → Prop, (∀ σ' H', N σ' H' → ∃ m', m' < m ∧ Pv m' σ' H') ∧ tb ⟨N, rt, nx, N⟩ σ' H1
theorem x_turn {Pv : Nat → L2.St → Hp → Prop} {m : Nat} (k : tb ⟨fun σ2 H2 => ∃ m', m' < m ∧ Pv m' σ2 H2, rt, nx, fun σ2 H2 => ∃ m', m' < m ∧ Pv m' σ2 H2⟩ σ H) : TurnW Pv m tb rt nx σ H := ⟨_, fun _ _ h => h, k⟩
/-- while: by a measure -/
theorem x_while (Pv : Nat → L2.St → Hp → Prop) (m : Nat) (h0 : Pv m σ H) (hs : ∀ m σ' H', Pv m σ' H' → c σ' H' fun b H1 => ifB b (TurnW Pv m tb rt nx σ' H1) (nx σ' H1)) : tWhile c tb ⟨nx, rt, bk, ct⟩ σ H :=
  ⟨Pv, ⟨m, h0⟩, fun m σ' H' p => hs m σ' H' p⟩
theorem x_listQ (h : SqL K H p ys ∨ SqT K H p ys) (k : ∀ q H2, H q = none → Same H H2 → H2 q = some (.lst ys) → Q (.ref q) H2) : rListQ K [.ref p] H Q := ⟨p, ys, rfl, h, fun q hq => k q _ hq (same_new hq) upd_same⟩
theorem x_rep {k : Int} {xs : List V} (h : H p = some (.lst xs)) (h0 : 0 ≤ k ∧ k < 1000) (hl : xs.length * k.toNat ≤ 100000) (q : ∀ r H2, H r = none → Same H H2 → H2 r = some (.lst (List.replicate k.toNat xs).flatten) → Q (.ref r) H2) : rRep (.ref p) (.int k) H Q :=
  ⟨p, k, xs, rfl, rfl, h, by omega, by omega, sl4 hl, fun r hr => q r _ hr (same_new hr) upd_same⟩
end
section
variable {X : Cx} {K : PySem.W.Frag} {e o value : Expr} {ta tv : TE} {f : Str} {pos pos' : Pos}
theorem pe_fldK (hK : X.K = K) (he : PE X e ta) (hb : attributeBase e f X.env (eval e X.env) = eval e X.env) : PE X (.Attribute e f pos) (tFld K ta f) := hK ▸ pe_fld he hb
theorem ps_fldK (hK : X.K = K) (ha : PE X o ta) (hv : PE X value tv) (hs : swapsWith value (some (.Attribute o f pos')) pos.line X.env = pure false) : PS X (.Assign [.Attribute o f pos'] value pos) (sFld K ta tv f) := hK ▸ ps_fld ha hv hs
end
theorem x_wMany1 {K : PySem.W.Frag} {c cls : Value} {ts : Addr → Value → Option Addr → TS} {D : Ends} {σ : L2.St} {H : Hp} {d : Option Addr} {Wo : WX} (e : PySem.W.exmOne K cls c = some true) (h : ∀ a, H a = none → ts a cls d D σ H) : wMany K Wo D [(c, ts)] cls d σ H := ⟨true, e, fun _ => h, fun q => Bool.noConfusion q⟩
section
variable {H : Hp} {Q : VK} {p : Addr} {xs : List V} {v : V} {l : List Int} {z : Int}
theorem x_append (h : H p = some (.lst xs)) (hl : xs.length ≤ 50000) (k : ∀ H2, Ext [p] H H2 → H2 p = some (.lst (xs ++ [v])) → Q .non H2) : rAppend (.ref p) [v] H Q :=
  ⟨p, xs, v, rfl, rfl, h, by rw [sizeLine_eq]; omega, k _ ext_upd upd_same⟩
theorem x_appendI (h : H p = some (.lst (l.map V.int))) (hl : l.length ≤ 50000) (k : ∀ H2, Ext [p] H H2 → H2 p = some (.lst ((l ++ [z]).map V.int)) → Q .non H2) : rAppend (.ref p) [.int z] H Q :=
  x_append h (by rw [List.length_map]; exact hl) fun H2 e h2 => k H2 e (by rw [h2, List.map_append]; rfl)
end
/-! comprehensions whose values are known up to a property; the heap may grow on the way -/
section
variable {σ : L2.St} {H : Hp} {Q : VK} {ta : TA} {tl te : TE} {g : TG} {vs : List Nat} {K : PySem.W.Frag}
def LcI (R : Nat → V → Prop) (H : Hp) (D : Addr) (i : Nat) (H' : Hp) : Prop := Same H H' ∧ ∃ ys : List V, H' D = some (.lst ys) ∧ ys.length = i ∧ ∀ (j : Nat) (y : V), ys[j]? = some y → R j y
theorem LcI.step {R : Nat → V → Prop} {D : Addr} {i : Nat} {H' H3 : Hp} {y : V} (hD : H D = none) (hi : i ≤ 100000) (p : LcI R H D i H') (e : Same H' H3) (hy : R i y) : ∃ acc, H3 D = some (.lst acc) ∧ acc.length < sizeLine ∧ LcI R H D (i + 1) (upd H3 D (.lst (acc ++ [y]))) := by
  obtain ⟨p1, ys, p2, p3, p4⟩ := p
  refine ⟨ys, e _ _ p2, by rw [sizeLine_eq]; omega, fun b o h => ?_, ys ++ [y], upd_same, by simp [p3], fun j z hz => ?_⟩
  · rw [upd_ne (ne_of_none h hD)]
    exact e _ _ (p1 b o h)
  · by_cases hj : j < ys.length
    · rw [List.getElem?_append_left hj] at hz
      exact p4 j z hz
    · have hj2 : j = ys.length := by
        have := (List.getElem?_eq_some_iff.mp hz).1
        simp at this
        omega
      subst hj2
      simp at hz
      subst hz
      rw [p3]
      exact hy
theorem x_lcRG {n : Int} (R : Nat → V → Prop) (hi : ∀ Q : List V → Hp → Prop, Q [.int n] H → ta σ H Q) (hz : 0 ≤ n ∧ n ≤ 100000)
    (hs : ∀ (i : Nat) (H' : Hp), (i : Int) < n → Same H H' → g (.int (i : Int)) (wipe σ vs) H' fun σ2 H2 => wipe σ2 vs = wipe σ vs ∧ H2 = H' ∧ ∀ C : VK, (∀ y H3, R i y → Same H' H3 → C y H3) → te σ2 H' C)
    (k : ∀ p ys H2, H p = none → Same H H2 → ys.length = n.toNat → (∀ (j : Nat) (y : V), ys[j]? = some y → R j y) → H2 p = some (.lst ys) → Q (.ref p) H2) (hg : ∀ x σ H (P P' : L2.St → Hp → Prop), (∀ σ H, P σ H → P' σ H) → g x σ H P → g x σ H P') : tLc (iRng1 ta) g tYes te vs σ H Q := by
  refine hi _ ⟨n, rfl, by omega, by omega, fun D hD => ?_⟩
  refine lc_range (lo := 0) (n := n.toNat) (LcI R H D) ⟨same_new hD, [], upd_same, rfl, fun j y h => by simp at h⟩ (fun i H' hi p => ?_) (fun H' p => ?_)
  · have e0 : (0 : Int) + (i : Int) = (i : Int) := Int.zero_add _
    rw [e0]
    refine hg _ _ _ _ _ (fun σ2 H2 q => ?_) (hs i H' (by omega) p.1)
    obtain ⟨q1, rfl, q2⟩ := q
    exact ⟨q1, q2 _ fun y H3 hy e => p.step hD (by omega) e hy⟩
  · obtain ⟨p1, ys, p2, p3, p4⟩ := p
    exact k D ys H' hD p1 p3 p4 p2
theorem x_lcLG {a : Addr} {xs : List V} (R : Nat → V → Prop) (hi : ∀ Q : VK, Q (.ref a) H → tl σ H Q) (hx : SqL K H a xs) (hz : xs.length ≤ 100000)
    (hs : ∀ (i : Nat) (x : V) (H' : Hp), xs[i]? = some x → Same H H' → g x (wipe σ vs) H' fun σ2 H2 => wipe σ2 vs = wipe σ vs ∧ H2 = H' ∧ ∀ C : VK, (∀ y H3, R i y → Same H' H3 → C y H3) → te σ2 H' C)
    (k : ∀ p ys H2, H p = none → Same H H2 → ys.length = xs.length → (∀ (j : Nat) (y : V), ys[j]? = some y → R j y) → H2 p = some (.lst ys) → Q (.ref p) H2) (hg : ∀ x σ H (P P' : L2.St → Hp → Prop), (∀ σ H, P σ H → P' σ H) → g x σ H P → g x σ H P') : tLc (iList K tl) g tYes te vs σ H Q := by
  refine hi _ ⟨a, rfl, ⟨xs, hx⟩, fun D hD => ?_⟩
  refine lc_list (K := K) (a := a) (xs := xs) (LcI R H D) ⟨same_new hD, [], upd_same, rfl, fun j y h => by simp at h⟩ (fun i H' _ p => p.1.seq hx) (fun i x H' hi p => ?_) (fun H' p => ?_)
  · have hlt := (List.getElem?_eq_some_iff.mp hi).1
    refine hg _ _ _ _ _ (fun σ2 H2 q => ?_) (hs i x H' hi p.1)
    obtain ⟨q1, rfl, q2⟩ := q
    exact ⟨q1, q2 _ fun y H3 hy e => p.step hD (by omega) e hy⟩
  · obtain ⟨p1, ys, p2, p3, p4⟩ := p
    exact k D ys H' hD p1 p3 p4 p2
end
end M
namespace M
open PySem PySem.Spec PyProof.Rows L2
/-! ## comprehensions over a comprehension; slices; dict displays -/
section
variable {σ : L2.St} {H : Hp} {Q : VK} {tl te tk tv : TE} {g : TG} {vs : List Nat} {K : PySem.W.Frag}
def isLc (K : PySem.W.Frag) (g : TG) (te : TE) (vs : List Nat) (σ : L2.St) (x : V) (H : Hp) (Q : VK) : Prop := tLc (iList K (tC x)) g tYes te vs σ H Q
theorem x_lcI (k : tl σ H fun x H1 => isLc K g te vs σ x H1 Q) : tLc (iList K tl) g tYes te vs σ H Q := k
theorem x_isLcG {a : Addr} {xs : List V} (R : Nat → V → Prop) (hx : SqL K H a xs) (hz : xs.length ≤ 100000)
    (hs : ∀ (i : Nat) (x : V) (H' : Hp), xs[i]? = some x → Same H H' → g x (wipe σ vs) H' fun σ2 H2 => wipe σ2 vs = wipe σ vs ∧ H2 = H' ∧ ∀ C : VK, (∀ y H3, R i y → Same H' H3 → C y H3) → te σ2 H' C)
    (k : ∀ p ys H2, H p = none → Same H H2 → ys.length = xs.length → (∀ (j : Nat) (y : V), ys[j]? = some y → R j y) → H2 p = some (.lst ys) → Q (.ref p) H2) (hg : ∀ x σ H (P P' : L2.St → Hp → Prop), (∀ σ H, P σ H → P' σ H) → g x σ H P → g x σ H P') : isLc K g te vs σ (.ref a) H Q :=
  x_lcLG R (fun Q q => q) hx hz hs k hg
/-- two ways that meet again -/
theorem x_ifJ {b : Bool} {ts tu : TS} {nx bk ct : L2.St → Hp → Prop} {rt : VK} (G : Hp → Prop) (h1 : b = true → ∀ nx' : L2.St → Hp → Prop, (∀ Hx, G Hx → nx' σ Hx) → ts ⟨nx', rt, bk, ct⟩ σ H) (h2 : b = false → ∀ nx' : L2.St → Hp → Prop, (∀ Hx, G Hx → nx' σ Hx) → tu ⟨nx', rt, bk, ct⟩ σ H)
    (J : ∀ Hx, G Hx → nx σ Hx) : ifB b (ts ⟨nx, rt, bk, ct⟩ σ H) (tu ⟨nx, rt, bk, ct⟩ σ H) := x_if (fun e => h1 e nx J) fun e => h2 e nx J
/-! xs[lo:hi] -/
def isOI (x : V) (H : Hp) (Q : Option Int → Hp → Prop) : Prop := ∃ i, x = .int i ∧ Q (some i) H
theorem x_isOI {i : Int} {Q : Option Int → Hp → Prop} (k : Q (some i) H) : isOI (.int i) H Q := ⟨i, rfl, k⟩
theorem x_part {Q : Option Int → Hp → Prop} (k : te σ H fun x H1 => isOI x H1 Q) : tPart te σ H Q := k
theorem x_noPart {Q : Option Int → Hp → Prop} (k : Q none H) : tNoPart σ H Q := k
theorem x_sl {r : V → Option Int → Option Int → Hp → VK → Prop} {lo hi : TO} (k : te σ H fun x H1 => lo σ H1 fun l H2 => hi σ H2 fun u H3 => r x l u H3 Q) : tSl r te lo hi σ H Q := k
theorem x_slL {a : Addr} {xs : List V} {lo hi : Option Int} (h : SqL K H a xs) (k : ∀ p H2, H p = none → Same H H2 → H2 p = some (.lst (cutV xs lo hi)) → Q (.ref p) H2) : rSlL K (.ref a) lo hi H Q :=
  ⟨a, xs, rfl, h, fun p hp => k p _ hp (same_new hp) upd_same⟩
theorem x_slT {a : Addr} {xs : List V} {lo hi : Option Int} (h : SqT K H a xs) (hn : ¬ (HT.sIx xs.length 0 lo = 0 ∧ HT.sIx xs.length xs.length hi = xs.length)) (k : ∀ p H2, H p = none → Same H H2 → H2 p = some (.tup (cutV xs lo hi)) → Q (.ref p) H2) : rSlT K (.ref a) lo hi H Q :=
  ⟨a, xs, rfl, h, hn, fun p hp => k p _ hp (same_new hp) upd_same⟩
theorem cutV_map {l : List Int} {lo hi : Option Int} : cutV (l.map V.int) lo hi = ((l.drop (HT.sIx l.length 0 lo)).take (HT.sIx l.length l.length hi - HT.sIx l.length 0 lo)).map V.int := by
  unfold cutV
  rw [List.length_map, List.map_take, List.map_drop]
theorem cut_first {l : List Int} {n : Nat} (h : n ≤ l.length) : cutV (l.map V.int) none (some (n : Int)) = (l.take n).map V.int := by
  rw [cutV_map]
  have e0 : HT.sIx l.length 0 none = 0 := rfl
  have e1 : HT.sIx l.length l.length (some (n : Int)) = n := by
    rw [HT.sIx_nat]
    omega
  rw [e0, e1, List.drop_zero, Nat.sub_zero]
theorem cut_mid {l : List Int} {m n : Nat} (h : n ≤ l.length) (hm : m ≤ n) : cutV (l.map V.int) (some (m : Int)) (some (n : Int)) = ((l.drop m).take (n - m)).map V.int := by
  rw [cutV_map]
  have e0 : HT.sIx l.length 0 (some (m : Int)) = m := by
    rw [HT.sIx_nat]
    omega
  have e1 : HT.sIx l.length l.length (some (n : Int)) = n := by
    rw [HT.sIx_nat]
    omega
  rw [e0, e1]
/-! {k: v, ..} -/
theorem x_pnil {Q : List (V × V) → Hp → Prop} (k : Q [] H) : tPairs [] σ H Q := k
theorem x_pcons {r : List (TE × TE)} {Q : List (V × V) → Hp → Prop} (k : tk σ H fun x H1 => tv σ H1 fun y H2 => tPairs r σ H2 fun ps H3 => Q ((x, y) :: ps) H3) : tPairs ((tk, tv) :: r) σ H Q := k
def isDisp (p : Addr) (ps : List (V × V)) (H : Hp) (Q : VK) : Prop := H p = some (.dK []) ∧ ∃ kvs : List (Key × V), ps = kvs.map (fun kv => (kV kv.1, kv.2)) ∧ kvs.length ≤ 15 ∧ Q (.ref p) (upd H p (.dK (mergeK [] kvs)))
theorem x_disp {trs : List (TE × TE)} (k : ∀ p H1, H p = none → Same H H1 → H1 p = some (.dK []) → tPairs trs σ H1 fun ps H2 => isDisp p ps H2 Q) : tDisp trs σ H Q := fun p hp => k p _ hp (same_new hp) upd_same
theorem x_isDisp {p : Addr} {ps : List (V × V)} (kvs : List (Key × V)) (h : H p = some (.dK [])) (e : ps = kvs.map (fun kv => (kV kv.1, kv.2))) (hl : kvs.length ≤ 15) (k : ∀ H3, Ext [p] H H3 → H3 p = some (.dK (mergeK [] kvs)) → Q (.ref p) H3) : isDisp p ps H Q :=
  ⟨h, kvs, e, hl, k _ ext_upd upd_same⟩
end
end M
namespace M
open PySem PySem.Spec PyProof.Rows L2
/-! ## data: equal, laid out -/
mutual
theorem eqv_refl : ∀ d : PyData, d.canLay0 = true → PyData.eqv d d = true
  | .none, _ => by simp [PyData.eqv]
  | .bool b, _ => by simp [PyData.eqv]
  | .int i, _ => by simp [PyData.eqv]
  | .str x, _ => by simp [PyData.eqv]
  | .list xs, h => by
    simp only [PyData.eqv]
    exact eqv_reflAll xs (by simpa [PyData.canLay0] using h)
  | .tuple xs, h => by
    simp only [PyData.eqv]
    exact eqv_reflAll xs (by simpa [PyData.canLay0] using h)
  | .dict _, h => by simp [PyData.canLay0] at h
theorem eqv_reflAll : ∀ ds : List PyData, PyData.canLayAll0 ds = true → PyData.eqvAll ds ds = true
  | [], _ => by simp [PyData.eqvAll]
  | d :: ds, h => by
    have h' : d.canLay0 = true ∧ PyData.canLayAll0 ds = true := by simpa [PyData.canLayAll0] using h
    simp [PyData.eqvAll, eqv_refl d h'.1, eqv_reflAll ds h'.2]
end
theorem lay_all : ∀ ds : List PyData, (∀ d ∈ ds, d.canLay0 = true) → PyData.canLayAll0 ds = true
  | [], _ => by simp [PyData.canLayAll0]
  | d :: ds, h => by simp [PyData.canLayAll0, h d (List.mem_cons_self ..), lay_all ds fun e he => h e (List.mem_cons_of_mem _ he)]
theorem dep_all {n : Nat} : ∀ ds : List PyData, (∀ d ∈ ds, d.depth ≤ n) → PyData.depthAll ds ≤ n
  | [], _ => by simp [PyData.depthAll]
  | d :: ds, h => by
    have h1 := h d (List.mem_cons_self ..)
    have h2 := dep_all ds fun e he => h e (List.mem_cons_of_mem _ he)
    simp only [PyData.depthAll]
    omega
/-- data of a depth -/
def ShN (n : Nat) (d : PyData) : Prop := d.canLay0 = true ∧ d.depth ≤ n
theorem ShN.shaped {n : Nat} {d : PyData} (h : ShN n d) (hn : n ≤ 64 := by decide) : SeqAt.shaped d = true := by
  unfold SeqAt.shaped
  rw [h.1, decide_eq_true (Nat.le_trans h.2 hn)]
  rfl
theorem ShN.int {n : Nat} (i : Int) : ShN n (.int i) := ⟨by simp [PyData.canLay0], by simp [PyData.depth]⟩
theorem ShN.bool {n : Nat} (i : Bool) : ShN n (.bool i) := ⟨by simp [PyData.canLay0], by simp [PyData.depth]⟩
theorem ShN.non {n : Nat} : ShN n .none := ⟨by simp [PyData.canLay0], by simp [PyData.depth]⟩
theorem ShN.list {n : Nat} {ds : List PyData} (h : ∀ d ∈ ds, ShN n d) : ShN (n + 1) (.list ds) := ⟨by simp only [PyData.canLay0]; exact lay_all ds fun d hd => (h d hd).1, by have := dep_all (n := n) ds fun d hd => (h d hd).2; simp only [PyData.depth]; omega⟩
theorem ShN.tup {n : Nat} {ds : List PyData} (h : ∀ d ∈ ds, ShN n d) : ShN (n + 1) (.tuple ds) := ⟨by simp only [PyData.canLay0]; exact lay_all ds fun d hd => (h d hd).1, by have := dep_all (n := n) ds fun d hd => (h d hd).2; simp only [PyData.depth]; omega⟩
theorem ShN.ints {n : Nat} (l : List Int) : ShN (n + 1) (.list (l.map PyData.int)) := ShN.list fun d hd => by obtain ⟨i, _, rfl⟩ := List.mem_map.mp hd; exact ShN.int i
theorem ShN.tints {n : Nat} (l : List Int) : ShN (n + 1) (.tuple (l.map PyData.int)) := ShN.tup fun d hd => by obtain ⟨i, _, rfl⟩ := List.mem_map.mp hd; exact ShN.int i
section
variable {K : PySem.W.Frag} {H : Hp} {Q : VK} {x y : V} {d : PyData}
theorem x_neS' {n : Nat} (h1 : Dp K H x d) (h2 : Dp K H y d) (s : ShN n d) (k : Q (.bl false) H) (hn : n ≤ 64 := by decide) : rNeD K x y H Q := ⟨d, d, h1, h2, s.shaped hn, s.shaped hn, by rw [eqv_refl d s.1]; exact k⟩
theorem x_eqS' {n : Nat} (h1 : Dp K H x d) (h2 : Dp K H y d) (s : ShN n d) (k : Q (.bl true) H) (hn : n ≤ 64 := by decide) : rEqD K x y H Q := ⟨d, d, h1, h2, s.shaped hn, s.shaped hn, by rw [eqv_refl d s.1]; exact k⟩
/-! lengths of lists of ints -/
theorem x_lenLI {p : Addr} {l : List Int} (h : SqL K H p (l.map V.int)) (k : Q (.int l.length) H) : rLenQ K [.ref p] H Q := x_lenL h (by rw [List.length_map]; exact k)
theorem x_lenTI {p : Addr} {l : List Int} (h : SqT K H p (l.map V.int)) (k : Q (.int l.length) H) : rLenQ K [.ref p] H Q := x_lenT h (by rw [List.length_map]; exact k)
/-! slices of tuples, tuples many times -/
theorem x_slA {a : Addr} {xs : List V} {lo hi : Option Int} (h : SqT K H a xs) (hn : ¬ (HT.sIx xs.length 0 lo = 0 ∧ HT.sIx xs.length xs.length hi = xs.length)) (k : ∀ p H2, H p = none → Same H H2 → H2 p = some (.tup (cutV xs lo hi)) → Q (.ref p) H2) : rSlA K (.ref a) lo hi H Q :=
  ⟨a, xs, rfl, h, fun q => absurd q hn, fun _ p hp => k p _ hp (same_new hp) upd_same⟩
theorem x_repT {p : Addr} {k : Int} {xs : List V} (h : SqT K H p xs) (h0 : 2 ≤ k ∧ k ≤ 1000) (hx : xs ≠ []) (hl : xs.length ≤ 1000) (q : ∀ r H2, H r = none → Same H H2 → H2 r = some (.tup (List.replicate k.toNat xs).flatten) → Q (.ref r) H2) : rRepT K (.ref p) (.int k) H Q :=
  ⟨p, k, xs, rfl, rfl, h, hx, h0.1, h0.2, hl, fun r hr => q r _ hr (same_new hr) upd_same⟩
theorem cut_last {l : List Int} {z : Int} (hl : l.length < 1000000) : cutV ((l ++ [z]).map V.int) none (some (-1)) = l.map V.int := by
  have e0 : HT.sIx (l ++ [z]).length 0 none = 0 := rfl
  have e1 : HT.sIx (l ++ [z]).length (l ++ [z]).length (some (-1)) = l.length := by
    rw [List.length_append, List.length_singleton]
    unfold HT.sIx
    simp
    try omega
  rw [cutV_map, e0, e1, List.drop_zero, Nat.sub_zero]
  simp
theorem DpAll.map {α : Type} {f : α → V} {g : α → PyData} : ∀ l : List α, (∀ a ∈ l, Dp K H (f a) (g a)) → DpAll K H (l.map f) (l.map g)
  | [], _ => .nil
  | a :: l, h => .cons (h a (List.mem_cons_self ..)) (DpAll.map l fun b hb => h b (List.mem_cons_of_mem _ hb))
theorem DpAll.zip {α β : Type} {f : α → V} {g : β → PyData} : ∀ (l : List α) (m : List β), l.length = m.length → (∀ (i : Nat) (a : α) (b : β), l[i]? = some a → m[i]? = some b → Dp K H (f a) (g b)) → DpAll K H (l.map f) (m.map g)
  | [], [], _, _ => .nil
  | a :: l, b :: m, e, h => .cons (h 0 a b rfl rfl) (DpAll.zip l m (by simpa using e) fun i a b ha hb => h (i + 1) a b ha hb)
  | [], _ :: _, e, _ => by simp at e
  | _ :: _, [], e, _ => by simp at e
theorem Dp.li {p : Addr} {l : List Int} (h : SqL K H p (l.map V.int)) : Dp K H (.ref p) (.list (l.map PyData.int)) := .lst h (DpAll.ints l)
theorem Dp.ti {p : Addr} {l : List Int} (h : SqT K H p (l.map V.int)) : Dp K H (.ref p) (.tuple (l.map PyData.int)) := .tup h (DpAll.ints l)
end
/-! slots: the list stays written out -/
theorem x_gn0 {x : V} {a0 : Option V} {r : L2.St} {H : Hp} {Q : L2.St → Hp → Prop} (k : Q (some x :: r) H) : gName 0 x (a0 :: r) H Q := k
theorem x_gn1 {x : V} {a0 a1 : Option V} {r : L2.St} {H : Hp} {Q : L2.St → Hp → Prop} (k : Q (a0 :: some x :: r) H) : gName 1 x (a0 :: a1 :: r) H Q := k
theorem x_gn2 {x : V} {a0 a1 a2 : Option V} {r : L2.St} {H : Hp} {Q : L2.St → Hp → Prop} (k : Q (a0 :: a1 :: some x :: r) H) : gName 2 x (a0 :: a1 :: a2 :: r) H Q := k
theorem x_gn3 {x : V} {a0 a1 a2 a3 : Option V} {r : L2.St} {H : Hp} {Q : L2.St → Hp → Prop} (k : Q (a0 :: a1 :: a2 :: some x :: r) H) : gName 3 x (a0 :: a1 :: a2 :: a3 :: r) H Q := k
theorem x_gn4 {x : V} {a0 a1 a2 a3 a4 : Option V} {r : L2.St} {H : Hp} {Q : L2.St → Hp → Prop} (k : Q (a0 :: a1 :: a2 :: a3 :: some x :: r) H) : gName 4 x (a0 :: a1 :: a2 :: a3 :: a4 :: r) H Q := k
theorem x_gn5 {x : V} {a0 a1 a2 a3 a4 a5 : Option V} {r : L2.St} {H : Hp} {Q : L2.St → Hp → Prop} (k : Q (a0 :: a1 :: a2 :: a3 :: a4 :: some x :: r) H) : gName 5 x (a0 :: a1 :: a2 :: a3 :: a4 :: a5 :: r) H Q := k
theorem x_gn6 {x : V} {a0 a1 a2 a3 a4 a5 a6 : Option V} {r : L2.St} {H : Hp} {Q : L2.St → Hp → Prop} (k : Q (a0 :: a1 :: a2 :: a3 :: a4 :: a5 :: some x :: r) H) : gName 6 x (a0 :: a1 :: a2 :: a3 :: a4 :: a5 :: a6 :: r) H Q := k
theorem x_gn7 {x : V} {a0 a1 a2 a3 a4 a5 a6 a7 : Option V} {r : L2.St} {H : Hp} {Q : L2.St → Hp → Prop} (k : Q (a0 :: a1 :: a2 :: a3 :: a4 :: a5 :: a6 :: some x :: r) H) : gName 7 x (a0 :: a1 :: a2 :: a3 :: a4 :: a5 :: a6 :: a7 :: r) H Q := k
theorem x_gn8 {x : V} {a0 a1 a2 a3 a4 a5 a6 a7 a8 : Option V} {r : L2.St} {H : Hp} {Q : L2.St → Hp → Prop} (k : Q (a0 :: a1 :: a2 :: a3 :: a4 :: a5 :: a6 :: a7 :: some x :: r) H) : gName 8 x (a0 :: a1 :: a2 :: a3 :: a4 :: a5 :: a6 :: a7 :: a8 :: r) H Q := k
theorem x_gn9 {x : V} {a0 a1 a2 a3 a4 a5 a6 a7 a8 a9 : Option V} {r : L2.St} {H : Hp} {Q : L2.St → Hp → Prop} (k : Q (a0 :: a1 :: a2 :: a3 :: a4 :: a5 :: a6 :: a7 :: a8 :: some x :: r) H) : gName 9 x (a0 :: a1 :: a2 :: a3 :: a4 :: a5 :: a6 :: a7 :: a8 :: a9 :: r) H Q := k
theorem x_gn10 {x : V} {a0 a1 a2 a3 a4 a5 a6 a7 a8 a9 a10 : Option V} {r : L2.St} {H : Hp} {Q : L2.St → Hp → Prop} (k : Q (a0 :: a1 :: a2 :: a3 :: a4 :: a5 :: a6 :: a7 :: a8 :: a9 :: some x :: r) H) : gName 10 x (a0 :: a1 :: a2 :: a3 :: a4 :: a5 :: a6 :: a7 :: a8 :: a9 :: a10 :: r) H Q := k
theorem x_gn11 {x : V} {a0 a1 a2 a3 a4 a5 a6 a7 a8 a9 a10 a11 : Option V} {r : L2.St} {H : Hp} {Q : L2.St → Hp → Prop} (k : Q (a0 :: a1 :: a2 :: a3 :: a4 :: a5 :: a6 :: a7 :: a8 :: a9 :: a10 :: some x :: r) H) : gName 11 x (a0 :: a1 :: a2 :: a3 :: a4 :: a5 :: a6 :: a7 :: a8 :: a9 :: a10 :: a11 :: r) H Q := k
theorem x_gn12 {x : V} {a0 a1 a2 a3 a4 a5 a6 a7 a8 a9 a10 a11 a12 : Option V} {r : L2.St} {H : Hp} {Q : L2.St → Hp → Prop} (k : Q (a0 :: a1 :: a2 :: a3 :: a4 :: a5 :: a6 :: a7 :: a8 :: a9 :: a10 :: a11 :: some x :: r) H) : gName 12 x (a0 :: a1 :: a2 :: a3 :: a4 :: a5 :: a6 :: a7 :: a8 :: a9 :: a10 :: a11 :: a12 :: r) H Q := k
theorem x_gn13 {x : V} {a0 a1 a2 a3 a4 a5 a6 a7 a8 a9 a10 a11 a12 a13 : Option V} {r : L2.St} {H : Hp} {Q : L2.St → Hp → Prop} (k : Q (a0 :: a1 :: a2 :: a3 :: a4 :: a5 :: a6 :: a7 :: a8 :: a9 :: a10 :: a11 :: a12 :: some x :: r) H) : gName 13 x (a0 :: a1 :: a2 :: a3 :: a4 :: a5 :: a6 :: a7 :: a8 :: a9 :: a10 :: a11 :: a12 :: a13 :: r) H Q := k
theorem x_gn14 {x : V} {a0 a1 a2 a3 a4 a5 a6 a7 a8 a9 a10 a11 a12 a13 a14 : Option V} {r : L2.St} {H : Hp} {Q : L2.St → Hp → Prop} (k : Q (a0 :: a1 :: a2 :: a3 :: a4 :: a5 :: a6 :: a7 :: a8 :: a9 :: a10 :: a11 :: a12 :: a13 :: some x :: r) H) : gName 14 x (a0 :: a1 :: a2 :: a3 :: a4 :: a5 :: a6 :: a7 :: a8 :: a9 :: a10 :: a11 :: a12 :: a13 :: a14 :: r) H Q := k
theorem x_gn15 {x : V} {a0 a1 a2 a3 a4 a5 a6 a7 a8 a9 a10 a11 a12 a13 a14 a15 : Option V} {r : L2.St} {H : Hp} {Q : L2.St → Hp → Prop} (k : Q (a0 :: a1 :: a2 :: a3 :: a4 :: a5 :: a6 :: a7 :: a8 :: a9 :: a10 :: a11 :: a12 :: a13 :: a14 :: some x :: r) H) : gName 15 x (a0 :: a1 :: a2 :: a3 :: a4 :: a5 :: a6 :: a7 :: a8 :: a9 :: a10 :: a11 :: a12 :: a13 :: a14 :: a15 :: r) H Q := k
theorem x_gn16 {x : V} {a0 a1 a2 a3 a4 a5 a6 a7 a8 a9 a10 a11 a12 a13 a14 a15 a16 : Option V} {r : L2.St} {H : Hp} {Q : L2.St → Hp → Prop} (k : Q (a0 :: a1 :: a2 :: a3 :: a4 :: a5 :: a6 :: a7 :: a8 :: a9 :: a10 :: a11 :: a12 :: a13 :: a14 :: a15 :: some x :: r) H) : gName 16 x (a0 :: a1 :: a2 :: a3 :: a4 :: a5 :: a6 :: a7 :: a8 :: a9 :: a10 :: a11 :: a12 :: a13 :: a14 :: a15 :: a16 :: r) H Q := k
theorem x_gn17 {x : V} {a0 a1 a2 a3 a4 a5 a6 a7 a8 a9 a10 a11 a12 a13 a14 a15 a16 a17 : Option V} {r : L2.St} {H : Hp} {Q : L2.St → Hp → Prop} (k : Q (a0 :: a1 :: a2 :: a3 :: a4 :: a5 :: a6 :: a7 :: a8 :: a9 :: a10 :: a11 :: a12 :: a13 :: a14 :: a15 :: a16 :: some x :: r) H) : gName 17 x (a0 :: a1 :: a2 :: a3 :: a4 :: a5 :: a6 :: a7 :: a8 :: a9 :: a10 :: a11 :: a12 :: a13 :: a14 :: a15 :: a16 :: a17 :: r) H Q := k
theorem x_gn18 {x : V} {a0 a1 a2 a3 a4 a5 a6 a7 a8 a9 a10 a11 a12 a13 a14 a15 a16 a17 a18 : Option V} {r : L2.St} {H : Hp} {Q : L2.St → Hp → Prop} (k : Q (a0 :: a1 :: a2 :: a3 :: a4 :: a5 :: a6 :: a7 :: a8 :: a9 :: a10 :: a11 :: a12 :: a13 :: a14 :: a15 :: a16 :: a17 :: some x :: r) H) : gName 18 x (a0 :: a1 :: a2 :: a3 :: a4 :: a5 :: a6 :: a7 :: a8 :: a9 :: a10 :: a11 :: a12 :: a13 :: a14 :: a15 :: a16 :: a17 :: a18 :: r) H Q := k
theorem x_gn19 {x : V} {a0 a1 a2 a3 a4 a5 a6 a7 a8 a9 a10 a11 a12 a13 a14 a15 a16 a17 a18 a19 : Option V} {r : L2.St} {H : Hp} {Q : L2.St → Hp → Prop} (k : Q (a0 :: a1 :: a2 :: a3 :: a4 :: a5 :: a6 :: a7 :: a8 :: a9 :: a10 :: a11 :: a12 :: a13 :: a14 :: a15 :: a16 :: a17 :: a18 :: some x :: r) H) : gName 19 x (a0 :: a1 :: a2 :: a3 :: a4 :: a5 :: a6 :: a7 :: a8 :: a9 :: a10 :: a11 :: a12 :: a13 :: a14 :: a15 :: a16 :: a17 :: a18 :: a19 :: r) H Q := k
theorem x_gn20 {x : V} {a0 a1 a2 a3 a4 a5 a6 a7 a8 a9 a10 a11 a12 a13 a14 a15 a16 a17 a18 a19 a20 : Option V} {r : L2.St} {H : Hp} {Q : L2.St → Hp → Prop} (k : Q (a0 :: a1 :: a2 :: a3 :: a4 :: a5 :: a6 :: a7 :: a8 :: a9 :: a10 :: a11 :: a12 :: a13 :: a14 :: a15 :: a16 :: a17 :: a18 :: a19 :: some x :: r) H) : gName 20 x (a0 :: a1 :: a2 :: a3 :: a4 :: a5 :: a6 :: a7 :: a8 :: a9 :: a10 :: a11 :: a12 :: a13 :: a14 :: a15 :: a16 :: a17 :: a18 :: a19 :: a20 :: r) H Q := k
theorem x_gn21 {x : V} {a0 a1 a2 a3 a4 a5 a6 a7 a8 a9 a10 a11 a12 a13 a14 a15 a16 a17 a18 a19 a20 a21 : Option V} {r : L2.St} {H : Hp} {Q : L2.St → Hp → Prop} (k : Q (a0 :: a1 :: a2 :: a3 :: a4 :: a5 :: a6 :: a7 :: a8 :: a9 :: a10 :: a11 :: a12 :: a13 :: a14 :: a15 :: a16 :: a17 :: a18 :: a19 :: a20 :: some x :: r) H) : gName 21 x (a0 :: a1 :: a2 :: a3 :: a4 :: a5 :: a6 :: a7 :: a8 :: a9 :: a10 :: a11 :: a12 :: a13 :: a14 :: a15 :: a16 :: a17 :: a18 :: a19 :: a20 :: a21 :: r) H Q := k
theorem x_gn22 {x : V} {a0 a1 a2 a3 a4 a5 a6 a7 a8 a9 a10 a11 a12 a13 a14 a15 a16 a17 a18 a19 a20 a21 a22 : Option V} {r : L2.St} {H : Hp} {Q : L2.St → Hp → Prop} (k : Q (a0 :: a1 :: a2 :: a3 :: a4 :: a5 :: a6 :: a7 :: a8 :: a9 :: a10 :: a11 :: a12 :: a13 :: a14 :: a15 :: a16 :: a17 :: a18 :: a19 :: a20 :: a21 :: some x :: r) H) : gName 22 x (a0 :: a1 :: a2 :: a3 :: a4 :: a5 :: a6 :: a7 :: a8 :: a9 :: a10 :: a11 :: a12 :: a13 :: a14 :: a15 :: a16 :: a17 :: a18 :: a19 :: a20 :: a21 :: a22 :: r) H Q := k
theorem x_gn23 {x : V} {a0 a1 a2 a3 a4 a5 a6 a7 a8 a9 a10 a11 a12 a13 a14 a15 a16 a17 a18 a19 a20 a21 a22 a23 : Option V} {r : L2.St} {H : Hp} {Q : L2.St → Hp → Prop} (k : Q (a0 :: a1 :: a2 :: a3 :: a4 :: a5 :: a6 :: a7 :: a8 :: a9 :: a10 :: a11 :: a12 :: a13 :: a14 :: a15 :: a16 :: a17 :: a18 :: a19 :: a20 :: a21 :: a22 :: some x :: r) H) : gName 23 x (a0 :: a1 :: a2 :: a3 :: a4 :: a5 :: a6 :: a7 :: a8 :: a9 :: a10 :: a11 :: a12 :: a13 :: a14 :: a15 :: a16 :: a17 :: a18 :: a19 :: a20 :: a21 :: a22 :: a23 :: r) H Q := k
theorem x_gn24 {x : V} {a0 a1 a2 a3 a4 a5 a6 a7 a8 a9 a10 a11 a12 a13 a14 a15 a16 a17 a18 a19 a20 a21 a22 a23 a24 : Option V} {r : L2.St} {H : Hp} {Q : L2.St → Hp → Prop} (k : Q (a0 :: a1 :: a2 :: a3 :: a4 :: a5 :: a6 :: a7 :: a8 :: a9 :: a10 :: a11 :: a12 :: a13 :: a14 :: a15 :: a16 :: a17 :: a18 :: a19 :: a20 :: a21 :: a22 :: a23 :: some x :: r) H) : gName 24 x (a0 :: a1 :: a2 :: a3 :: a4 :: a5 :: a6 :: a7 :: a8 :: a9 :: a10 :: a11 :: a12 :: a13 :: a14 :: a15 :: a16 :: a17 :: a18 :: a19 :: a20 :: a21 :: a22 :: a23 :: a24 :: r) H Q := k
theorem x_gn25 {x : V} {a0 a1 a2 a3 a4 a5 a6 a7 a8 a9 a10 a11 a12 a13 a14 a15 a16 a17 a18 a19 a20 a21 a22 a23 a24 a25 : Option V} {r : L2.St} {H : Hp} {Q : L2.St → Hp → Prop} (k : Q (a0 :: a1 :: a2 :: a3 :: a4 :: a5 :: a6 :: a7 :: a8 :: a9 :: a10 :: a11 :: a12 :: a13 :: a14 :: a15 :: a16 :: a17 :: a18 :: a19 :: a20 :: a21 :: a22 :: a23 :: a24 :: some x :: r) H) : gName 25 x (a0 :: a1 :: a2 :: a3 :: a4 :: a5 :: a6 :: a7 :: a8 :: a9 :: a10 :: a11 :: a12 :: a13 :: a14 :: a15 :: a16 :: a17 :: a18 :: a19 :: a20 :: a21 :: a22 :: a23 :: a24 :: a25 :: r) H Q := k
theorem x_st {N : List Str} {vs : List V} {σ0 : L2.St} {ts : TS} {D : Ends} {H : Hp} (h : start N vs = σ0) (k : ts D σ0 H) : ts D (start N vs) H := h ▸ k
end M
namespace M
open PySem PySem.Spec PyProof.Rows L2
/-! ## [f(a) for a in xs if p(a)], values at hand -/
section
variable {α : Type} {σ : L2.St} {H : Hp} {Q : VK} {K : PySem.W.Frag} {tl te : TE} {tt : TT} {ta : TA} {g : TG} {vs : List Nat}
def LcT (H : Hp) (D : Addr) (acc : List V) (H' : Hp) : Prop := Same H H' ∧ H' D = some (.lst acc)
/-- one turn: the test's answer, the value -/
def TurnT (tt : TT) (te : TE) (b : Bool) (y : V) (σ2 : L2.St) (H' : Hp) : Prop :=
  ∀ R : Bool → Hp → Prop, (∀ H3, Same H' H3 → (b = true → ∀ C : VK, (∀ H4, Same H3 H4 → C y H4) → te σ2 H3 C) → R b H3) → tt σ2 H' R
theorem lct_step {D : Addr} {acc : List V} {b : Bool} {y : V} {H' : Hp} {σ2 : L2.St} (hD : H D = none) (hz : acc.length ≤ 100000) (p : LcT H D acc H') (h : TurnT tt te b y σ2 H') :
    tt σ2 H' fun b H3 => if b = true then te σ2 H3 fun y H4 => ∃ acc, H4 D = some (.lst acc) ∧ acc.length < sizeLine ∧ (fun Hx => LcT H D (if b then acc ++ [y] else acc) Hx) (upd H4 D (.lst (acc ++ [y]))) else LcT H D acc H3 := by
  refine h _ fun H3 e3 q => ?_
  cases b with
  | false => exact ⟨p.1.trans e3, e3 _ _ p.2⟩
  | true =>
    refine q rfl _ fun H4 e4 => ⟨acc, e4 _ _ (e3 _ _ p.2), by rw [sizeLine_eq]; omega, fun c o e => ?_, upd_same⟩
    rw [upd_ne (ne_of_none e hD)]
    exact e4 _ _ (e3 _ _ (p.1 c o e))
theorem x_lcT {a : Addr} (l : List α) (enc f : α → V) (p : α → Bool) (hi : ∀ Q : VK, Q (.ref a) H → tl σ H Q) (hx : SqL K H a (l.map enc)) (hz : l.length ≤ 100000)
    (hs : ∀ (i : Nat) (x : α) (H' : Hp), l[i]? = some x → Same H H' → g (enc x) (wipe σ vs) H' fun σ2 H2 => wipe σ2 vs = wipe σ vs ∧ H2 = H' ∧ TurnT tt te (p x) (f x) σ2 H')
    (k : ∀ p' H2, H p' = none → Same H H2 → H2 p' = some (.lst ((l.filter p).map f)) → Q (.ref p') H2) (hg : ∀ x σ H (P P' : L2.St → Hp → Prop), (∀ σ H, P σ H → P' σ H) → g x σ H P → g x σ H P') : tLc (iList K tl) g tt te vs σ H Q := by
  refine hi _ ⟨a, rfl, ⟨_, hx⟩, fun D hD => ?_⟩
  refine lc_list (K := K) (a := a) (xs := l.map enc) (fun i H' => LcT H D (((l.take i).filter p).map f) H') ⟨same_new hD, upd_same⟩ (fun i H' _ q => q.1.seq hx) (fun i x H' hi q => ?_) (fun H' q => ?_)
  · rw [List.getElem?_map] at hi
    cases e : l[i]? with
    | none => rw [e] at hi; cases hi
    | some x =>
      rw [e] at hi
      cases hi
      have hlt := (List.getElem?_eq_some_iff.mp e).1
      have e1 : l.take (i + 1) = l.take i ++ [x] := by
        rw [← List.take_append_getElem hlt]
        congr 2
        exact (List.getElem?_eq_some_iff.mp e).2
      refine hg _ _ _ _ _ (fun σ2 H2 z => ?_) (hs i x H' e q.1)
      obtain ⟨z1, rfl, z2⟩ := z
      refine ⟨z1, ?_⟩
      have hlen : (((l.take i).filter p).map f).length ≤ 100000 := by
        rw [List.length_map]
        have h1 := List.length_filter_le p (l.take i)
        have h2 := List.length_take_le i l
        have h3 : (l.take i).length ≤ l.length := by rw [List.length_take]; omega
        omega
      refine z2 _ fun H3 e3 w => ?_
      rw [e1, List.filter_append, List.map_append]
      cases hp : p x with
      | false =>
        rw [if_neg (by decide)]
        have e0 : List.filter p [x] = [] := by simp [hp]
        rw [e0, List.map_nil, List.append_nil]
        exact ⟨q.1.trans e3, e3 _ _ q.2⟩
      | true =>
        rw [if_pos rfl]
        have e0 : List.filter p [x] = [x] := by simp [hp]
        rw [e0]
        refine w hp _ fun H4 e4 => ⟨_, e4 _ _ (e3 _ _ q.2), by rw [sizeLine_eq]; omega, fun c o z => ?_, upd_same⟩
        rw [upd_ne (ne_of_none z hD)]
        exact e4 _ _ (e3 _ _ (q.1 c o z))
  · rw [List.length_map, List.take_length] at q
    exact k D H' hD q.1 q.2
theorem x_isLcT' {a : Addr} (l : List α) (enc f : α → V) (p : α → Bool) (hi : ∀ Q : VK, Q (.ref a) H → tl σ H Q) (hx : SqL K H a (l.map enc)) (hz : l.length ≤ 100000)
    (hs : ∀ (i : Nat) (x : α) (H' : Hp), l[i]? = some x → Same H H' → g (enc x) (wipe σ vs) H' fun σ2 H2 => wipe σ2 vs = wipe σ vs ∧ H2 = H' ∧ TurnT tt te (p x) (f x) σ2 H')
    (k : ∀ p' H2, H p' = none → Same H H2 → H2 p' = some (.lst ((l.filter p).map f)) → Q (.ref p') H2) (hg : ∀ x σ H (P P' : L2.St → Hp → Prop), (∀ σ H, P σ H → P' σ H) → g x σ H P → g x σ H P') : tLc (iList K tl) g tt te vs σ H Q := x_lcT l enc f p hi hx hz hs k hg
theorem x_neNil {a b : Addr} {l : List Int} (h1 : H a = some (.lst (l.map V.int))) (h2 : H b = some (.lst [])) (k : Q (.bl (!l.isEmpty)) H) : rNeD K (.ref a) (.ref b) H Q :=
  ⟨_, _, Dp.li (SqL.of h1), Dp.li (l := []) (SqL.of h2), (ShN.ints (n := 0) l).shaped (by decide), (ShN.ints (n := 0) []).shaped (by decide), by
    have e : PyData.eqv (.list (l.map PyData.int)) (.list (([] : List Int).map PyData.int)) = l.isEmpty := by cases l <;> simp [PyData.eqv, PyData.eqvAll]
    rw [e]; exact k⟩
/-- the turn's test and value -/
theorem turnT {b : Bool} {y : V} {σ2 : L2.St} {H' : Hp} (h : ∀ R : Bool → Hp → Prop, (∀ H3, Same H' H3 → R b H3) → tt σ2 H' R) (h2 : ∀ H3, Same H' H3 → b = true → ∀ C : VK, (∀ H4, Same H3 H4 → C y H4) → te σ2 H3 C) : TurnT tt te b y σ2 H' := fun R k => h R fun H3 e3 => k H3 e3 (h2 H3 e3)
theorem turnY {y : V} {σ2 : L2.St} {H' : Hp} (h2 : ∀ C : VK, (∀ H4, Same H' H4 → C y H4) → te σ2 H' C) : TurnT tYes te true y σ2 H' := fun R k => k H' (Same.refl _) fun _ C c => h2 C c
end
/-! ## [new object for ..]: the elements are new objects -/
section
variable {α : Type} {σ : L2.St} {H : Hp} {Q : VK} {K : PySem.W.Frag} {tl te : TE} {ta : TA} {g : TG} {vs : List Nat}
def LcN (ob : Nat → HO) (H : Hp) (D : Addr) (i : Nat) (H' : Hp) : Prop := Same H H' ∧ ∃ ps : List Addr, H' D = some (.lst (ps.map V.ref)) ∧ ps.length = i ∧ ∀ (j : Nat) (q : Addr), ps[j]? = some q → H' q = some (ob j) ∧ q ≠ D
theorem LcN.step {ob : Nat → HO} {D q : Addr} {i : Nat} {H' H3 : Hp} (hD : H D = none) (hi : i ≤ 100000) (p : LcN ob H D i H') (hq : H' q = none) (e : Same H' H3) (ho : H3 q = some (ob i)) : ∃ acc, H3 D = some (.lst acc) ∧ acc.length < sizeLine ∧ LcN ob H D (i + 1) (upd H3 D (.lst (acc ++ [.ref q]))) := by
  obtain ⟨p1, ps, p2, p3, p4⟩ := p
  have nq : q ≠ D := fun z => by rw [z, p2] at hq; cases hq
  refine ⟨ps.map V.ref, e _ _ p2, by rw [sizeLine_eq, List.length_map]; omega, fun b o h => ?_, ps ++ [q], by rw [upd_same, List.map_append]; rfl, by simp [p3], fun j z hz => ?_⟩
  · rw [upd_ne (ne_of_none h hD)]
    exact e _ _ (p1 b o h)
  · by_cases hj : j < ps.length
    · rw [List.getElem?_append_left hj] at hz
      obtain ⟨w1, w2⟩ := p4 j z hz
      exact ⟨by rw [upd_ne w2]; exact e _ _ w1, w2⟩
    · have hj2 : j = ps.length := by
        have := (List.getElem?_eq_some_iff.mp hz).1
        simp at this
        omega
      subst hj2
      simp at hz
      subst hz
      exact ⟨by rw [upd_ne nq, p3]; exact ho, nq⟩
theorem x_lcNR {n : Int} (ob : Nat → HO) (hi : ∀ Q : List V → Hp → Prop, Q [.int n] H → ta σ H Q) (hz : 0 ≤ n ∧ n ≤ 100000)
    (hs : ∀ (i : Nat) (H' : Hp), (i : Int) < n → Same H H' → g (.int (i : Int)) (wipe σ vs) H' fun σ2 H2 => wipe σ2 vs = wipe σ vs ∧ H2 = H' ∧ ∀ C : VK, (∀ q H3, H' q = none → Same H' H3 → H3 q = some (ob i) → C (.ref q) H3) → te σ2 H' C)
    (k : ∀ (p : Addr) (ps : List Addr) (H2 : Hp), H p = none → Same H H2 → ps.length = n.toNat → (∀ (j : Nat) (q : Addr), ps[j]? = some q → H2 q = some (ob j)) → H2 p = some (.lst (ps.map V.ref)) → Q (.ref p) H2) (hg : ∀ x σ H (P P' : L2.St → Hp → Prop), (∀ σ H, P σ H → P' σ H) → g x σ H P → g x σ H P') : tLc (iRng1 ta) g tYes te vs σ H Q := by
  refine hi _ ⟨n, rfl, by omega, by omega, fun D hD => ?_⟩
  refine lc_range (lo := 0) (n := n.toNat) (LcN ob H D) ⟨same_new hD, [], upd_same, rfl, fun j y h => by simp at h⟩ (fun i H' hi p => ?_) (fun H' p => ?_)
  · have e0 : (0 : Int) + (i : Int) = (i : Int) := Int.zero_add _
    rw [e0]
    refine hg _ _ _ _ _ (fun σ2 H2 q => ?_) (hs i H' (by omega) p.1)
    obtain ⟨q1, rfl, q2⟩ := q
    exact ⟨q1, q2 _ fun q H3 hq e ho => p.step hD (by omega) hq e ho⟩
  · obtain ⟨p1, ps, p2, p3, p4⟩ := p
    exact k D ps H' hD p1 p3 (fun j q h => (p4 j q h).1) p2
theorem x_lcNL {a : Addr} (l : List α) (enc : α → V) (ob : Nat → HO) (hi : ∀ Q : VK, Q (.ref a) H → tl σ H Q) (hx : SqL K H a (l.map enc)) (hz : l.length ≤ 100000)
    (hs : ∀ (i : Nat) (x : α) (H' : Hp), l[i]? = some x → Same H H' → g (enc x) (wipe σ vs) H' fun σ2 H2 => wipe σ2 vs = wipe σ vs ∧ H2 = H' ∧ ∀ C : VK, (∀ q H3, H' q = none → Same H' H3 → H3 q = some (ob i) → C (.ref q) H3) → te σ2 H' C)
    (k : ∀ (p : Addr) (ps : List Addr) (H2 : Hp), H p = none → Same H H2 → ps.length = l.length → (∀ (j : Nat) (q : Addr), ps[j]? = some q → H2 q = some (ob j)) → H2 p = some (.lst (ps.map V.ref)) → Q (.ref p) H2) (hg : ∀ x σ H (P P' : L2.St → Hp → Prop), (∀ σ H, P σ H → P' σ H) → g x σ H P → g x σ H P') : tLc (iList K tl) g tYes te vs σ H Q := by
  refine hi _ ⟨a, rfl, ⟨_, hx⟩, fun D hD => ?_⟩
  refine lc_list (K := K) (a := a) (xs := l.map enc) (LcN ob H D) ⟨same_new hD, [], upd_same, rfl, fun j y h => by simp at h⟩ (fun i H' _ p => p.1.seq hx) (fun i x H' hi p => ?_) (fun H' p => ?_)
  · rw [List.getElem?_map] at hi
    cases e : l[i]? with
    | none => rw [e] at hi; cases hi
    | some y =>
      rw [e] at hi
      cases hi
      have hlt := (List.getElem?_eq_some_iff.mp e).1
      refine hg _ _ _ _ _ (fun σ2 H2 q => ?_) (hs i y H' e p.1)
      obtain ⟨q1, rfl, q2⟩ := q
      exact ⟨q1, q2 _ fun q H3 hq e ho => p.step hD (by omega) hq e ho⟩
  · obtain ⟨p1, ps, p2, p3, p4⟩ := p
    rw [List.length_map] at p3
    exact k D ps H' hD p1 p3 (fun j q h => (p4 j q h).1) p2
end
end M
namespace M
open PySem PySem.Spec PyProof.Rows L2
/-! ## == and != by an own __eq__; in over tuples of data; tuples of instances and data -/
section
variable {prog : Program} {w : World} {A : Around} {E : Value → Shared → Prop} {s : Shared} {K : PySem.W.Frag} {x C L f : Addr} {h₀ : Heap} {m : Str → Option Value} {ox : Obj} {od : Option Obj} {b tb : Value}
theorem ne_slot_bind (self : Value) : bindSpecial (.builtin "object.__ne__") self = pure (.builtin "object.__ne__", [self]) := PySem.F.slot_object_ne.bind self
theorem ne_args (a b : Value) : argsOk "object.__ne__" ⟨[a, b], []⟩ := by unfold argsOk; kernel_rfl
theorem ne_own {Q : Value → Shared → Prop} (hu : A.units + 1 < cLine) (X : K.In s.heap) (I : PySem.W.InstAt s.heap x ox C od) (hb : PySem.W.Looks (model prog w) s.heap (typeOf b) tb) (hn : PySem.W.notFirst K C tb = true)
    (hs : PySem.W.findIn K (.ref C) "__ne__" = some (some (.builtin "object.__ne__"))) (he : PySem.W.findIn K (.ref C) "__eq__" = some (some (.ref f))) (hf : PySem.W.isFn K (.ref f) = true) (ho : PySem.W.subIn K (.ref C) (.type "object") = some true)
    (h : wpAny (model prog w) A.in1 (call (.ref f) [.ref x, b]) (fun v s' => ∃ k, v = .bool k ∧ Q (.bool (!k)) s') E s) : wpAny (model prog w) A (richCompare .NotEq (.ref x) b) Q E s := by
  have io : PySem.W.Looks (model prog w) s.heap (isInstance (.ref x) (.type "object")) true := I.type.andThen (PySem.W.looks_subIn X ho)
  have body : wpAny (model prog w) A (call (.builtin "object.__ne__") [.ref x, b]) (fun v s' => ∃ k, v = .bool k ∧ Q v s') E s := by
    refine wpAny_call (codeAny_call_builtin PySem.F.slot_object_ne.plain PySem.F.entry_object_ne (@PySem.W.check_slot (model prog w) _ _ s "object.__ne__" "object" "__ne__" (.ref x) [b] [] _ (by decide +kernel) (by decide +kernel) io (ne_args _ _) ?_))
    unfold Builtin.«object.__ne__»
    repeat (first
      | with_reducible refine wpAny_cRoomFor (by show A.units + 1 < cLine; omega) ?_
      | (refine wpAny_bind (m := callSpecialIfBound? (.ref x) "__eq__" [b]) (PySem.W.ifBound_K X I he hf (wpAny_mono h (fun v s' hv => ?_) fun _ _ e => e)))
      | wp_step)
    obtain ⟨k, rfl, q⟩ := hv
    repeat (first | exact ⟨_, rfl, q⟩ | exact wpAny_pure q | (refine wpAny_bind (m := truthy (.bool _)) (wpAny_truthy_bool ?_)) | wp_step)
    all_goals exact ⟨_, rfl, q⟩
  have one : wpAny (model prog w) A (tryCompare (.ref x) "__ne__" b) (fun r s' => ∃ k, r = some (.bool k) ∧ Q (.bool k) s') E s := by
    unfold tryCompare
    simp only [callSpecialIfBound?, bindSpecialIfBound?]
    refine wpAny_bind (wpAny_holding (wpAny_bind (wpAny_bind (wpAny_bind (I.type.here ((PySem.W.looks_findIn X hs).here ?_))))))
    refine wpAny_bind (wpAny_askSetting (wpAny_ite ?_))
    have fin : wpAny (model prog w) A (call (.builtin "object.__ne__") ([.ref x] ++ [b]) >>= fun v => pure (some v)) (fun r s' => wpAny (model prog w) A (match r with | some .notImplemented | none => pure none | some v => pure (some v)) (fun r s' => ∃ k, r = some (.bool k) ∧ Q (.bool k) s') E s') E s :=
      wpAny_bind (wpAny_mono body (fun v s' h' => by
        obtain ⟨k, rfl, q⟩ := h'
        exact wpAny_pure (wpAny_pure ⟨k, rfl, q⟩)) fun _ _ h' => h')
    split
    · exact wpAny_bind (by rw [ne_slot_bind]; exact wpAny_pure (wpAny_pure fin))
    · exact wpAny_tryCatch (wpAny_bind (by rw [ne_slot_bind]; exact wpAny_pure (wpAny_pure fin)))
  unfold richCompare
  simp only [oneThing_ref]
  refine wpAny_holding (wpAny_bind (wpAny_cRoomFor (Nat.lt_of_succ_lt hu) ?_))
  rw [cmpInfo_NotEq]
  dsimp only
  refine wpAny_bind (I.type.here (wpAny_bind (hb.here ?_)))
  have fin2 : wpAny (model prog w) A (tryCompare (.ref x) "__ne__" b) (fun r s' => ∃ k, r = some (.bool k) ∧ Q (.bool k) s') E s := one
  split
  · rename_i q
    have e : PySem.W.subIn K tb (.ref C) = some false := by
      rcases Bool.or_eq_true_iff.mp hn with e | e
      · rw [beq_iff_eq.mp e] at q; simp at q
      · exact beq_iff_eq.mp e
    refine wpAny_bind ((PySem.W.looks_subIn X e).here ?_)
    simp only [Bool.false_eq_true, if_false]
    refine wpAny_bind (wpAny_mono one (fun r s' z => ?_) fun _ _ e => e)
    obtain ⟨v, rfl, hq⟩ := z
    exact wpAny_pure hq
  · refine wpAny_bind (wpAny_pure ?_)
    simp only [Bool.false_eq_true, if_false]
    refine wpAny_bind (wpAny_mono one (fun r s' z => ?_) fun _ _ e => e)
    obtain ⟨v, rfl, hq⟩ := z
    exact wpAny_pure hq
end
section
variable {X : Cx} {pins : List (Addr × Obj)} {σ : L2.St} {H : Hp} {s : Shared} {n k j : Nat} {C : Addr} {sp : Sp}
/-- the other one of a comparison: an instance of the same class, or a number -/
def YOk (C : Addr) (H : Hp) (y : V) : Prop := (∃ b dy gs, y = .ref b ∧ H b = some (.ins C dy gs)) ∨ ∃ i, y = .int i
theorem YOk.look {y : V} {u : Value} (I : Inv X pins σ H s) (h : YOk C H y) (r : RelV y u) : ∃ tb, PySem.W.Looks (model X.prog X.w) s.heap (typeOf u) tb ∧ PySem.W.notFirst X.K C tb = true := by
  rcases h with ⟨b, dy, gs, rfl, hb⟩ | ⟨i, rfl⟩
  · cases r
    obtain ⟨mB, J', _⟩ := ins_get I.hok hb
    obtain ⟨od', J', _⟩ := J'.look
    exact ⟨_, J'.type, by simp [PySem.W.notFirst]⟩
  · obtain ⟨t, rfl⟩ := (show ∃ t, u = Value.int i t from r)
    exact ⟨.type "int", PySem.W.Looks.of_pure rfl, Bool.or_eq_true_iff.mpr (.inr rfl)⟩
theorem run_sub {f : Addr} {fd : FuncData} {ps : List Str} {A : Around} {Q : VK} {us : List Value} {ws : List V} (sb : Sub X n A) (F : FnOk X.prog X.w X.K X.mg X.base CX0 n f fd ps sp) (hb : Binds X.K fd ps []) (I : Inv X pins σ H s) (r : Vals ws us) (h : sp ws H Q C8.E0) :
    wpAny (model X.prog X.w) A (call (.ref f) us) (fun v s' => ∃ z H', Inv X pins σ H' s' ∧ RelV z v ∧ Q z H') X.xe s := by
  have e0 : Env0 X.prog X.w X.K X.mg X.base A X.stack s H := by
    have e := I.env0
    exact ⟨by rw [sb.fr]; exact e.frames, e.mod, e.bs, e.bsz, e.funs, e.frf, e.hok, e.bare⟩
  have hl := F.len _ _ _ _ h
  refine wpAny_call (codeAny_mono (F.run A X.stack s H ⟨us, []⟩ us ws _ C8.E0 sb.room e0 (by
    have := hb s us I.kIn (by simpa [← r.length] using hl)
    simpa using this) r h) fun q s' hq => ?_)
  cases q with
  | error e => exact C8.pass0 (E := C8.E0) pins σ H s e s' I hq
  | ok fl =>
    cases fl with
    | ret w =>
      obtain ⟨z, H', I', rz, q⟩ := I.after hq
      exact ⟨z, H', I', rz, q⟩
    | next => exact False.elim hq
    | brk => exact False.elim hq
    | cont => exact False.elim hq
def rOwnQ (C : Addr) (sp : Sp) (neg : Bool) : R2 := fun x y H Q => ∃ a dx fs, x = .ref a ∧ H a = some (.ins C dx fs) ∧ YOk C H y ∧ sp [x, y] H (fun z H' => ∃ k, z = .bl k ∧ Q (.bl (if neg then !k else k)) H') C8.E0
theorem op_eqO (c : C8.Met X.prog X.w X.K X.mg X.base k C "__eq__" sp []) (hr : Room j X.A) (hk : k ≤ j := by decide) : OpR X (compareOp .Eq) (rOwnQ C sp false) := by
  intro pins s σ H x y v u Q I rx ry h
  obtain ⟨f, fd, ps, ds, hc, hm, F, b, d⟩ := c.ex
  cases d
  obtain ⟨a, dx, fs, rfl, ha, hy, q⟩ := h
  obtain ⟨tb, lt, nf⟩ := hy.look I ry
  cases rx
  obtain ⟨mA, J, _⟩ := ins_get I.hok ha
  obtain ⟨od, J, _⟩ := J.look
  obtain ⟨m, hF⟩ := I.fr
  show wpAny (model X.prog X.w) X.A (richCompare .Eq (.ref a) u) (EP X pins σ Q) X.xe s
  refine PySem.W.cmp_K (op := .Eq) hr.units0 hF I.ok.mod.kin J lt nf hm.at_ hm.fn ?_
  refine wpAny_mono (run_sub ⟨hr.mono hk, rfl⟩ F b I (ws := [V.ref a, y]) (.cons rfl (.cons ry .nil)) q) (fun w s' z => ?_) fun _ _ x => x
  obtain ⟨z, H', I', rz, k', rfl, q⟩ := z
  cases (show w = Value.bool k' from rz)
  exact ⟨.bl k', H', I', rfl, q⟩
theorem op_neO (c : C8.Met X.prog X.w X.K X.mg X.base k C "__eq__" sp []) (hn : PySem.W.findIn X.K (.ref C) "__ne__" = some (some (.builtin "object.__ne__"))) (ho : PySem.W.subIn X.K (.ref C) (.type "object") = some true) (hr : Room j X.A) (hk : k + 1 ≤ j := by decide) : OpR X (compareOp .NotEq) (rOwnQ C sp true) := by
  intro pins s σ H x y v u Q I rx ry h
  obtain ⟨f, fd, ps, ds, hc, hm, F, b, d⟩ := c.ex
  cases d
  obtain ⟨a, dx, fs, rfl, ha, hy, q⟩ := h
  obtain ⟨tb, lt, nf⟩ := hy.look I ry
  cases rx
  obtain ⟨mA, J, _⟩ := ins_get I.hok ha
  obtain ⟨od, J, _⟩ := J.look
  show wpAny (model X.prog X.w) X.A (richCompare .NotEq (.ref a) u) (EP X pins σ Q) X.xe s
  have r1 : Room (k + 1) X.A := hr.mono hk
  refine ne_own (hu_of r1) I.kIn J lt nf hn hm.at_ hm.fn ho ?_
  refine wpAny_mono (run_sub (⟨r1, rfl⟩ : Sub X (k + 1) X.A).in1 F b I (ws := [V.ref a, y]) (.cons rfl (.cons ry .nil)) q) (fun w s' z => ?_) fun _ _ x => x
  obtain ⟨z, H', I', rz, k', rfl, q⟩ := z
  cases (show w = Value.bool k' from rz)
  exact ⟨k', rfl, .bl (!k'), H', I', rfl, q⟩
/-! in over tuples of data -/
def rInDT (K : PySem.W.Frag) (neg : Bool) : R2 := fun x y H Q => ∃ d ds, Dp K H x d ∧ Dp K H y (.tuple ds) ∧ SeqAt.shaped d = true ∧ SeqAt.shaped (.tuple ds) = true ∧ Q (.bl (if neg then !(ds.any fun z => PyData.eqv z d) else ds.any fun z => PyData.eqv z d)) H
theorem op_inDT (hu : X.A.units + 65 < cLine) : OpR X (compareOp .In) (rInDT X.K false) := by
  intro pins s σ H x y v u Q I rx ry h
  obtain ⟨d, ds, hd, he, sd, se, q⟩ := h
  obtain ⟨as, r1⟩ := Dp.reads I d x v hd rx
  obtain ⟨bs, r2⟩ := Dp.reads I (.tuple ds) y u he ry
  exact SeqAt.in_tuple_reads r2 r1 (SeqAt.canLay_of_shaped se) (SeqAt.canLay_of_shaped sd) (room_in_shaped sd hu) ⟨.bl _, H, I, rfl, q⟩
/-! tuples of the same instances and of data -/
inductive EqB (K : PySem.W.Frag) (H : Hp) : Nat → V → V → Bool → Prop where
  | same {n : Nat} (a : Addr) : EqB K H n (.ref a) (.ref a) true
  | dat {n : Nat} {x y : V} {d e : PyData} (h1 : Dp K H x d) (h2 : Dp K H y e) (s1 : ShN n d) (s2 : ShN n e) : EqB K H n x y (PyData.eqv d e)
  | tup {n : Nat} {a b : Addr} {xs ys : List V} {e : Nat → Bool} (h1 : SqT K H a xs) (h2 : SqT K H b ys) (hn : a ≠ b) (hp : ∀ (i : Nat) (x y : V), xs[i]? = some x → ys[i]? = some y → EqB K H n x y (e i)) : EqB K H (n + 1) (.ref a) (.ref b) ((List.range (min xs.length ys.length)).all e && xs.length == ys.length)
  | len {n : Nat} {a b : Addr} {xs ys : List V} {e : Nat → Bool} (h1 : SqT K H a xs) (h2 : SqT K H b ys) (hn : xs.length ≠ ys.length) (hp : ∀ (i : Nat) (x y : V), xs[i]? = some x → ys[i]? = some y → EqB K H n x y (e i)) : EqB K H (n + 1) (.ref a) (.ref b) false
theorem vals_at {xs : List V} {us : List Value} (r : Vals xs us) {i : Nat} (h : i < us.toArray.size) : ∃ x, xs[i]? = some x ∧ RelV x us.toArray[i] := by
  have h1 : i < us.length := by simpa using h
  have h2 : i < xs.length := by rw [r.length]; exact h1
  refine ⟨xs[i], List.getElem?_eq_getElem h2, ?_⟩
  obtain ⟨w, hw, rw'⟩ := r.get (i := i) (x := xs[i]) (List.getElem?_eq_getElem h2)
  have e := (List.getElem?_eq_some_iff.mp hw).2
  simpa [e] using rw'
theorem EqB.run (I : Inv X pins σ H s) {n : Nat} {x y : V} {b : Bool} (h : EqB X.K H n x y b) : ∀ (A : Around) (v u : Value), A.units + n < cLine → RelV x v → RelV y u → SeqAt.EqAt A s v u b := by
  induction h with
  | same a =>
    intro A v u hu rx ry
    cases (show v = Value.ref a from rx)
    cases (show u = Value.ref a from ry)
    exact SeqAt.EqAt.same _
  | dat h1 h2 s1 s2 =>
    intro A v u hu rx ry
    obtain ⟨as, r1⟩ := Dp.reads I _ _ _ h1 rx
    obtain ⟨bs, r2⟩ := Dp.reads I _ _ _ h2 ry
    exact SeqAt.eqAt_reads _ _ A s v u as bs r1 r2 s1.1 s2.1 (by have := s1.2; have := s2.2; omega)
  | @tup n a b xs ys e h1 h2 hn hp ih =>
    intro A v u hu rx ry
    cases (show v = Value.ref a from rx)
    cases (show u = Value.ref b from ry)
    obtain ⟨us, q1, p1, _⟩ := I.tuple h1
    obtain ⟨ws, q2, p2, _⟩ := I.tuple h2
    refine SeqAt.EqAt.of_refs hn ?_
    have g := SeqAt.RcAt.tuples (A := A) (s := s) (e := e) p1 p2 (by omega) fun i hi1 hi2 => ?_
    · rw [List.size_toArray, List.size_toArray, ← q1.length, ← q2.length] at g
      exact g
    · obtain ⟨x, hx, rx⟩ := vals_at q1 hi1
      obtain ⟨y, hy, ry⟩ := vals_at q2 hi2
      exact ih i x y hx hy A.in1 _ _ (by show A.units + 1 + n < cLine; omega) rx ry
  | @len n a b xs ys e h1 h2 hn hp ih =>
    intro A v u hu rx ry
    cases (show v = Value.ref a from rx)
    cases (show u = Value.ref b from ry)
    obtain ⟨us, q1, p1, _⟩ := I.tuple h1
    obtain ⟨ws, q2, p2, _⟩ := I.tuple h2
    have hab : a ≠ b := fun z => by
      subst z
      exact hn (congrArg List.length (I.tuple_inj h1 h2))
    refine SeqAt.EqAt.of_refs hab ?_
    have g := SeqAt.RcAt.tuples (A := A) (s := s) (e := e) p1 p2 (by omega) fun i hi1 hi2 => ?_
    · rw [List.size_toArray, List.size_toArray, ← q1.length, ← q2.length] at g
      rw [show (xs.length == ys.length) = false from beq_eq_false_iff_ne.mpr hn, Bool.and_false] at g
      exact g
    · obtain ⟨x, hx, rx⟩ := vals_at q1 hi1
      obtain ⟨y, hy, ry⟩ := vals_at q2 hi2
      exact ih i x y hx hy A.in1 _ _ (by show A.units + 1 + n < cLine; omega) rx ry
def rEqM (K : PySem.W.Frag) (neg : Bool) : R2 := fun x y H Q => ∃ n a b xs ys e, n ≤ 60 ∧ x = .ref a ∧ y = .ref b ∧ SqT K H a xs ∧ SqT K H b ys ∧ (∀ (i : Nat) (x y : V), xs[i]? = some x → ys[i]? = some y → EqB K H n x y (e i)) ∧
  Q (.bl (if neg then !((List.range (min xs.length ys.length)).all e && xs.length == ys.length) else ((List.range (min xs.length ys.length)).all e && xs.length == ys.length))) H
theorem op_eqM (hu : X.A.units + 64 < cLine) : OpR X (compareOp .Eq) (rEqM X.K false) := by
  intro pins s σ H x y v u Q I rx ry h
  obtain ⟨n, a, b, xs, ys, e, hn, rfl, rfl, h1, h2, hp, q⟩ := h
  cases (show v = Value.ref a from rx)
  cases (show u = Value.ref b from ry)
  obtain ⟨us, q1, p1, _⟩ := I.tuple h1
  obtain ⟨ws, q2, p2, _⟩ := I.tuple h2
  have g := SeqAt.RcAt.tuples (A := X.A) (s := s) (e := e) p1 p2 (by omega) fun i hi1 hi2 => by
    obtain ⟨x, hx, rx⟩ := vals_at q1 hi1
    obtain ⟨y, hy, ry⟩ := vals_at q2 hi2
    exact (hp i x y hx hy).run I X.A.in1 _ _ (by show X.A.units + 1 + n < cLine; omega) rx ry
  rw [List.size_toArray, List.size_toArray, ← q1.length, ← q2.length] at g
  exact g _ _ _ _ ⟨.bl _, H, I, rfl, q⟩
theorem op_neM (hu : X.A.units + 64 < cLine) : OpR X (compareOp .NotEq) (rEqM X.K true) := by
  intro pins s σ H x y v u Q I rx ry h
  obtain ⟨n, a, b, xs, ys, e, hn, rfl, rfl, h1, h2, hp, q⟩ := h
  cases (show v = Value.ref a from rx)
  cases (show u = Value.ref b from ry)
  obtain ⟨us, q1, p1, _⟩ := I.tuple h1
  obtain ⟨ws, q2, p2, _⟩ := I.tuple h2
  have g := SeqAt.RcNeAt.tuples (A := X.A) (s := s) (e := e) p1 p2 (by omega) fun i hi1 hi2 => by
    obtain ⟨x, hx, rx⟩ := vals_at q1 hi1
    obtain ⟨y, hy, ry⟩ := vals_at q2 hi2
    exact (hp i x y hx hy).run I X.A.in1 _ _ (by show X.A.units + 1 + n < cLine; omega) rx ry
  rw [List.size_toArray, List.size_toArray, ← q1.length, ← q2.length] at g
  exact g _ _ _ _ ⟨.bl _, H, I, rfl, q⟩
/-! isinstance of own classes -/
theorem x_isiO {Q : VK} {b C : Addr} {dy : Addr} {gs : List (Str × V)} (c : C8.InsC X.K C) (h : H b = some (.ins C dy gs)) (q : Q (.bl true) H) : rIsi X.K [.ref b, .ref C] H Q := ⟨_, _, .ref C, .ref C, true, rfl, .own C, .base (TyOf.ins h c.cl c.ha c.hn c.htk c.hm), c.me, q⟩
end
section
variable {K : PySem.W.Frag} {H : Hp} {Q : VK}
theorem x_isiOI {C : Addr} {i : Int} (c : PySem.W.kitOne K (.type "int") (.ref C) = some false) (q : Q (.bl false) H) : rIsi K [.int i, .ref C] H Q := ⟨_, _, .type "int", .ref C, false, rfl, .own C, .base (.int i), c, q⟩
theorem x_eqO {a dx : Addr} {fs : List (Str × V)} {C : Addr} {sp : Sp} {y : V} (h : H a = some (.ins C dx fs)) (hy : YOk C H y) (k : sp [.ref a, y] H (fun z H' => ∃ k, z = .bl k ∧ Q (.bl k) H') C8.E0) : rOwnQ C sp false (.ref a) y H Q := ⟨a, dx, fs, rfl, h, hy, k⟩
theorem x_neO {a dx : Addr} {fs : List (Str × V)} {C : Addr} {sp : Sp} {y : V} (h : H a = some (.ins C dx fs)) (hy : YOk C H y) (k : sp [.ref a, y] H (fun z H' => ∃ k, z = .bl k ∧ Q (.bl (!k)) H') C8.E0) : rOwnQ C sp true (.ref a) y H Q := ⟨a, dx, fs, rfl, h, hy, k⟩
theorem x_inDT {x : V} {a : Addr} {d : PyData} {ds : List PyData} (h1 : Dp K H x d) (h2 : Dp K H (.ref a) (.tuple ds)) (s1 : ShN 8 d) (s2 : ShN 9 (.tuple ds)) (k : Q (.bl (ds.any fun z => PyData.eqv z d)) H) : rInDT K false x (.ref a) H Q := ⟨d, ds, h1, h2, s1.shaped, s2.shaped, k⟩
end
/-! index of a number in a tuple -/
def rTIdxI (K : PySem.W.Frag) : V → List V → Hp → VK → Prop := fun x xs H Q => ∃ p, ∃ ys : List Int, ∃ z : Int, x = .ref p ∧ xs = [.int z] ∧ SqT K H p (ys.map V.int) ∧ z ∈ ys ∧ Q (.int (ys.idxOf z : Nat)) H
theorem mt_tindexI {X : Cx} : MtR X "tuple.index" (rTIdxI X.K) := by
  intro pins s σ H x xs v us Q I rx rs h
  obtain ⟨p, ys, z, rfl, rfl, hq, hz, q⟩ := h
  cases rx
  obtain ⟨u, rfl, t, rfl⟩ := vals1 rs
  obtain ⟨its, r, pl, _⟩ := I.tuple hq
  exact PySem.SeqAt.tuple_index_ints (vs := its) pl r.ints hz ⟨.int _, H, I.tok _, ⟨_, rfl⟩, q⟩
end M
namespace M
open PySem PySem.Spec PyProof.Rows L2
theorem hu64 {k : Nat} {A : Around} (hr : Room k A) : A.units + 64 < cLine := by have := hr.un; omega
theorem hu65 {k : Nat} {A : Around} (hr : Room k A) : A.units + 65 < cLine := by have := hr.un; omega
/-! ## what never changes: tuples, instances of the configuration's classes -/
def Fz : HO → Prop
  | .tup _ => True
  | .frz _ _ => True
  | .ins _ _ ((f, _) :: _) => f = "partitions" ∨ f = "image"
  | _ => False
def Kp (H H' : Hp) : Prop := ∀ b o, H b = some o → Fz o → H' b = some o
theorem Kp.refl (H : Hp) : Kp H H := fun _ _ e _ => e
theorem Kp.trans {H H1 H2 : Hp} (a : Kp H H1) (b : Kp H1 H2) : Kp H H2 := fun x o e f => b x o (a x o e f) f
theorem Kp.same {H H1 : Hp} (a : Same H H1) : Kp H H1 := fun x o e _ => a x o e
theorem Kp.ext {S : List Addr} {H H1 : Hp} (a : Ext S H H1) (h : ∀ b ∈ S, ∀ o, H b = some o → ¬ Fz o) : Kp H H1 := fun x o e f => a x o (fun hx => h x hx o e f) e
theorem Kp.lst {p : Addr} {xs : List V} {H H1 : Hp} (a : Ext [p] H H1) (h : H p = some (.lst xs)) : Kp H H1 := Kp.ext a fun b hb o e f => by
  rw [List.mem_singleton.mp hb, h] at e
  cases e
  exact f
mutual
def tupD : PyData → Bool
  | .none => true
  | .bool _ => true
  | .int _ => true
  | .str _ => true
  | .tuple ds => tupDs ds
  | _ => false
def tupDs : List PyData → Bool
  | [] => true
  | d :: ds => tupD d && tupDs ds
end
section
variable {K : PySem.W.Frag} {H H' : Hp}
theorem Rd.kp {a : Addr} {xs : List V} (e : Kp H H') (h : Rd H a (.tup xs)) : Rd H' a (.tup xs) := by
  rcases h with h | ⟨o, h⟩
  · exact .inl (e _ _ h trivial)
  · exact .inr ⟨o, e _ _ h trivial⟩
theorem SqT.kp {a : Addr} {xs : List V} (e : Kp H H') (h : SqT K H a xs) : SqT K H' a xs := by
  rcases h with h | h
  · exact .inl (Rd.kp e h)
  · exact .inr h
mutual
theorem Dp.kp (e : Kp H H') : ∀ (d : PyData) (x : V), tupD d = true → Dp K H x d → Dp K H' x d
  | .none, _, _, h => by cases h; exact .non
  | .bool b, _, _, h => by cases h; exact .bl b
  | .int b, _, _, h => by cases h; exact .int b
  | .str b, _, _, h => by cases h; exact .str b
  | .tuple ds, _, t, h => by
    cases h with
    | tup h1 h2 => exact .tup (SqT.kp e h1) (DpAll.kp e ds _ (by simpa only [tupD] using t) h2)
  | .list ds, _, t, h => by simp [tupD] at t
  | .dict ds, _, t, h => by simp [tupD] at t
theorem DpAll.kp (e : Kp H H') : ∀ (ds : List PyData) (xs : List V), tupDs ds = true → DpAll K H xs ds → DpAll K H' xs ds
  | [], _, _, h => by cases h; exact .nil
  | d :: ds, _, t, h => by
    have t' : tupD d = true ∧ tupDs ds = true := by simpa [tupDs] using t
    cases h with
    | cons h1 h2 => exact .cons (Dp.kp e d _ t'.1 h1) (DpAll.kp e ds _ t'.2 h2)
end
theorem DpAll.app {xs ys : List V} {ds es : List PyData} (h1 : DpAll K H xs ds) (h2 : DpAll K H ys es) : DpAll K H (xs ++ ys) (ds ++ es) := by
  induction xs generalizing ds with
  | nil => cases h1; exact h2
  | cons x xs ih => cases h1 with | cons a b => exact .cons a (ih b)
theorem DpAll.len {xs : List V} {ds : List PyData} (h : DpAll K H xs ds) : xs.length = ds.length := by
  induction xs generalizing ds with
  | nil => cases h; rfl
  | cons x xs ih => cases h with | cons a b => simp [ih b]
theorem DpAll.get {xs : List V} {ds : List PyData} (h : DpAll K H xs ds) {i : Nat} {d : PyData} (hd : ds[i]? = some d) : ∃ x, xs[i]? = some x ∧ Dp K H x d := by
  induction xs generalizing ds i with
  | nil => cases h; simp at hd
  | cons x xs ih =>
    cases h with
    | cons a b =>
      cases i with
      | zero => simp at hd; subst hd; exact ⟨x, rfl, a⟩
      | succ i => simpa using ih b (by simpa using hd)
theorem DpAll.getx {xs : List V} {ds : List PyData} (h : DpAll K H xs ds) {i : Nat} {x : V} (hx : xs[i]? = some x) : ∃ d, ds[i]? = some d ∧ Dp K H x d := by
  induction xs generalizing ds i with
  | nil => simp at hx
  | cons y xs ih =>
    cases h with
    | cons a b =>
      cases i with
      | zero => simp at hx; subst hx; exact ⟨_, rfl, a⟩
      | succ i => simpa using ih b (by simpa using hx)
theorem tupDs_all : ∀ {ds : List PyData}, (∀ d ∈ ds, tupD d = true) → tupDs ds = true
  | [], _ => rfl
  | d :: ds, h => by simp only [tupDs, h d (List.mem_cons_self ..), tupDs_all fun e he => h e (List.mem_cons_of_mem _ he)]; rfl
theorem tupDs_map {α : Type} {f : α → PyData} {l : List α} (h : ∀ a, tupD (f a) = true) : tupDs (l.map f) = true := tupDs_all fun d hd => by obtain ⟨a, _, rfl⟩ := List.mem_map.mp hd; exact h a
/-- a tuple of data: its items -/
theorem Dp.tupE {x : V} {ds : List PyData} (h : Dp K H x (.tuple ds)) : ∃ a xs, x = .ref a ∧ SqT K H a xs ∧ DpAll K H xs ds := by
  cases h with | tup h1 h2 => exact ⟨_, _, rfl, h1, h2⟩
theorem Dp.intE {x : V} {i : Int} (h : Dp K H x (.int i)) : x = .int i := by cases h; rfl
theorem Dp.blE {x : V} {i : Bool} (h : Dp K H x (.bool i)) : x = .bl i := by cases h; rfl
theorem Dp.strE {x : V} {i : Str} (h : Dp K H x (.str i)) : x = .str i := by cases h; rfl
theorem Dp.nonE {x : V} (h : Dp K H x .none) : x = .non := by cases h; rfl
theorem DpAll.ints_eq : ∀ {xs : List V} {l : List Int}, DpAll K H xs (l.map PyData.int) → xs = l.map V.int
  | [], [], _ => rfl
  | x :: xs, i :: l, .cons h1 h2 => by cases h1; rw [DpAll.ints_eq h2]; rfl
/-- a tuple of numbers -/
theorem Dp.tints {x : V} {l : List Int} (h : Dp K H x (.tuple (l.map PyData.int))) : ∃ a, x = .ref a ∧ SqT K H a (l.map V.int) := by
  obtain ⟨a, xs, rfl, h1, h2⟩ := Dp.tupE h
  rw [DpAll.ints_eq h2] at h1
  exact ⟨a, rfl, h1⟩
end
/-! ## comprehensions with a word of their own; walks over tuples -/
def LcPut (Pv : Nat → List V → Hp → Prop) (D : Addr) (i : Nat) (y : V) (H : Hp) : Prop := ∃ acc, H D = some (.lst acc) ∧ acc.length < sizeLine ∧ ∃ acc', acc'.length ≤ i + 1 ∧ upd H D (.lst (acc ++ [y])) D = some (.lst acc') ∧ Pv (i + 1) acc' (upd H D (.lst (acc ++ [y])))
def LcNo (Pv : Nat → List V → Hp → Prop) (D : Addr) (i : Nat) (H : Hp) : Prop := ∃ acc, acc.length ≤ i + 1 ∧ H D = some (.lst acc) ∧ Pv (i + 1) acc H
theorem x_lcPut {Pv : Nat → List V → Hp → Prop} {D : Addr} {acc : List V} {i : Nat} {y : V} {H : Hp} (h : H D = some (.lst acc)) (hl : acc.length ≤ i) (hi : i ≤ 200000) (k : ∀ H5, Ext [D] H H5 → H5 D = some (.lst (acc ++ [y])) → Pv (i + 1) (acc ++ [y]) H5) : LcPut Pv D i y H :=
  ⟨acc, h, by rw [sizeLine_eq]; omega, acc ++ [y], by simp; omega, upd_same, k _ ext_upd upd_same⟩
theorem x_lcNo {Pv : Nat → List V → Hp → Prop} {D : Addr} {acc : List V} {i : Nat} {H : Hp} (h : H D = some (.lst acc)) (hl : acc.length ≤ i) (k : Pv (i + 1) acc H) : LcNo Pv D i H := ⟨acc, by omega, h, k⟩
theorem x_tYes {σ : L2.St} {H : Hp} {Q : Bool → Hp → Prop} (k : Q true H) : tYes σ H Q := k
section
variable {σ : L2.St} {H : Hp} {Q : VK} {K : PySem.W.Frag} {tl te : TE} {ta : TA} {tt : TT} {g : TG} {vs : List Nat}
/-- one turn of a comprehension -/
def LcTurn (g : TG) (tt : TT) (te : TE) (vs : List Nat) (σ : L2.St) (Pv : Nat → List V → Hp → Prop) (D : Addr) (i : Nat) (x : V) (H' : Hp) : Prop :=
  g x (wipe σ vs) H' fun σ2 H2 => wipe σ2 vs = wipe σ vs ∧ tt σ2 H2 fun b H3 => ifB b (te σ2 H3 fun y H4 => LcPut Pv D i y H4) (LcNo Pv D i H3)
theorem x_lcRP {n : Int} (Pv : Addr → Nat → List V → Hp → Prop) (hi : ∀ Q : List V → Hp → Prop, Q [.int n] H → ta σ H Q) (hz : 0 ≤ n ∧ n ≤ 100000)
    (h0 : ∀ D H1, H D = none → Same H H1 → H1 D = some (.lst []) → Pv D 0 [] H1)
    (hs : ∀ D (i : Nat) acc H', H D = none → (i : Int) < n → acc.length ≤ i → H' D = some (.lst acc) → Pv D i acc H' → LcTurn g tt te vs σ (Pv D) D i (.int (i : Int)) H')
    (k : ∀ D acc H', H D = none → acc.length ≤ n.toNat → H' D = some (.lst acc) → Pv D n.toNat acc H' → Q (.ref D) H') : tLc (iRng1 ta) g tt te vs σ H Q := by
  refine hi _ ⟨n, rfl, by omega, by omega, fun D hD => ?_⟩
  refine lc_range (lo := 0) (n := n.toNat) (fun i H' => ∃ acc, acc.length ≤ i ∧ H' D = some (.lst acc) ∧ Pv D i acc H') ⟨[], Nat.le_refl _, upd_same, h0 D _ hD (same_new hD) upd_same⟩ (fun i H' hlt p => ?_) (fun H' p => ?_)
  · obtain ⟨acc, p1, p2, p3⟩ := p
    have e0 : (0 : Int) + (i : Int) = (i : Int) := Int.zero_add _
    rw [e0]
    exact hs D i acc H' hD (by omega) p1 p2 p3
  · obtain ⟨acc, p1, p2, p3⟩ := p
    exact k D acc H' hD p1 p2 p3
theorem x_lcLP {a : Addr} {xs : List V} (Pv : Addr → Nat → List V → Hp → Prop) (hi : ∀ Q : VK, Q (.ref a) H → tl σ H Q) (hx : SqL K H a xs) (hz : xs.length ≤ 100000)
    (h0 : ∀ D H1, H D = none → Same H H1 → H1 D = some (.lst []) → Pv D 0 [] H1) (hl : ∀ D i acc H', H D = none → i ≤ xs.length → H' D = some (.lst acc) → Pv D i acc H' → SqL K H' a xs)
    (hs : ∀ D (i : Nat) x acc H', H D = none → xs[i]? = some x → acc.length ≤ i → H' D = some (.lst acc) → Pv D i acc H' → LcTurn g tt te vs σ (Pv D) D i x H')
    (k : ∀ D acc H', H D = none → acc.length ≤ xs.length → H' D = some (.lst acc) → Pv D xs.length acc H' → Q (.ref D) H') : tLc (iList K tl) g tt te vs σ H Q := by
  refine hi _ ⟨a, rfl, ⟨xs, hx⟩, fun D hD => ?_⟩
  refine lc_list (K := K) (a := a) (xs := xs) (fun i H' => ∃ acc, acc.length ≤ i ∧ H' D = some (.lst acc) ∧ Pv D i acc H') ⟨[], Nat.le_refl _, upd_same, h0 D _ hD (same_new hD) upd_same⟩ (fun i H' hi p => ?_) (fun i x H' hx p => ?_) (fun H' p => ?_)
  · obtain ⟨acc, p1, p2, p3⟩ := p
    exact hl D i acc H' hD hi p2 p3
  · obtain ⟨acc, p1, p2, p3⟩ := p
    exact hs D i x acc H' hD hx p1 p2 p3
  · obtain ⟨acc, p1, p2, p3⟩ := p
    exact k D acc H' hD p1 p2 p3
theorem x_lcTP {a : Addr} {xs : List V} (Pv : Addr → Nat → List V → Hp → Prop) (hi : ∀ Q : VK, Q (.ref a) H → tl σ H Q) (hx : SqT K H a xs) (hz : xs.length ≤ 100000)
    (h0 : ∀ D H1, H D = none → Same H H1 → H1 D = some (.lst []) → Pv D 0 [] H1) (hl : ∀ D i acc H', H D = none → i ≤ xs.length → H' D = some (.lst acc) → Pv D i acc H' → SqT K H' a xs)
    (hs : ∀ D (i : Nat) x acc H', H D = none → xs[i]? = some x → acc.length ≤ i → H' D = some (.lst acc) → Pv D i acc H' → LcTurn g tt te vs σ (Pv D) D i x H')
    (k : ∀ D acc H', H D = none → acc.length ≤ xs.length → H' D = some (.lst acc) → Pv D xs.length acc H' → Q (.ref D) H') : tLc (iTup K tl) g tt te vs σ H Q := by
  refine hi _ ⟨a, rfl, ⟨xs, hx⟩, fun D hD => ?_⟩
  refine lc_tup (K := K) (a := a) (xs := xs) (fun i H' => ∃ acc, acc.length ≤ i ∧ H' D = some (.lst acc) ∧ Pv D i acc H') ⟨[], Nat.le_refl _, upd_same, h0 D _ hD (same_new hD) upd_same⟩ (fun i H' hi p => ?_) (fun i x H' hx p => ?_) (fun H' p => ?_)
  · obtain ⟨acc, p1, p2, p3⟩ := p
    exact hl D i acc H' hD hi p2 p3
  · obtain ⟨acc, p1, p2, p3⟩ := p
    exact hs D i x acc H' hD hx p1 p2 p3
  · obtain ⟨acc, p1, p2, p3⟩ := p
    exact k D acc H' hD p1 p2 p3
end
section
variable {σ : L2.St} {H : Hp} {nx bk ct : L2.St → Hp → Prop} {rt : VK} {tb : TS} {g : TG} {K : PySem.W.Frag} {tl : TE}
theorem x_forT {a : Addr} {xs : List V} (hi : ∀ Q : VK, Q (.ref a) H → tl σ H Q) (hx : SqT K H a xs) (Pv : Nat → L2.St → Hp → Prop) (h0 : Pv 0 σ H) (hl : ∀ i σ' H', i ≤ xs.length → Pv i σ' H' → SqT K H' a xs)
    (hs : ∀ i x σ' H', xs[i]? = some x → Pv i σ' H' → g x σ' H' fun σ2 H2 => tb ⟨Pv (i + 1), rt, nx, Pv (i + 1)⟩ σ2 H2) (hd : ∀ σ' H', Pv xs.length σ' H' → nx σ' H') : tFor (iTup K tl) g tb ⟨nx, rt, bk, ct⟩ σ H := by
  refine hi _ ⟨a, rfl, ⟨xs, hx⟩, ?_⟩
  exact for_tup (K := K) (a := a) (xs := xs) (D := ⟨nx, rt, bk, ct⟩) Pv h0 hl hs hd
end
/-! what is walked, worked out first -/
section
variable {σ : L2.St} {H : Hp} {D : Ends} {nx bk ct : L2.St → Hp → Prop} {rt : VK} {tb : TS} {g : TG} {K : PySem.W.Frag} {tl te : TE} {ta : TA} {tt : TT} {vs : List Nat} {Q : VK}
def isForR (g : TG) (tb : TS) (D : Ends) (σ : L2.St) (xs : List V) (H : Hp) : Prop := tFor (iRng1 fun _ H Q => Q xs H) g tb D σ H
def isForL (K : PySem.W.Frag) (g : TG) (tb : TS) (D : Ends) (σ : L2.St) (x : V) (H : Hp) : Prop := tFor (iList K (tC x)) g tb D σ H
def isForT (K : PySem.W.Frag) (g : TG) (tb : TS) (D : Ends) (σ : L2.St) (x : V) (H : Hp) : Prop := tFor (iTup K (tC x)) g tb D σ H
def isLcR (g : TG) (tt : TT) (te : TE) (vs : List Nat) (σ : L2.St) (Q : VK) (xs : List V) (H : Hp) : Prop := tLc (iRng1 fun _ H Q => Q xs H) g tt te vs σ H Q
def isLcL (K : PySem.W.Frag) (g : TG) (tt : TT) (te : TE) (vs : List Nat) (σ : L2.St) (Q : VK) (x : V) (H : Hp) : Prop := tLc (iList K (tC x)) g tt te vs σ H Q
def isLcT (K : PySem.W.Frag) (g : TG) (tt : TT) (te : TE) (vs : List Nat) (σ : L2.St) (Q : VK) (x : V) (H : Hp) : Prop := tLc (iTup K (tC x)) g tt te vs σ H Q
theorem x_forRI (k : ta σ H fun xs H1 => isForR g tb D σ xs H1) : tFor (iRng1 ta) g tb D σ H := k
theorem x_forLI (k : tl σ H fun x H1 => isForL K g tb D σ x H1) : tFor (iList K tl) g tb D σ H := k
theorem x_forTI (k : tl σ H fun x H1 => isForT K g tb D σ x H1) : tFor (iTup K tl) g tb D σ H := k
theorem x_lcRI (k : ta σ H fun xs H1 => isLcR g tt te vs σ Q xs H1) : tLc (iRng1 ta) g tt te vs σ H Q := k
theorem x_lcLI (k : tl σ H fun x H1 => isLcL K g tt te vs σ Q x H1) : tLc (iList K tl) g tt te vs σ H Q := k
theorem x_lcTI (k : tl σ H fun x H1 => isLcT K g tt te vs σ Q x H1) : tLc (iTup K tl) g tt te vs σ H Q := k
theorem x_isForR {n : Int} (h : 0 ≤ n ∧ n < 2 ^ 62) (Pv : Nat → L2.St → Hp → Prop) (h0 : Pv 0 σ H)
    (hs : ∀ (i : Nat) σ' H', (i : Int) < n → Pv i σ' H' → g (.int (i : Int)) σ' H' fun σ2 H2 => tb ⟨Pv (i + 1), rt, nx, Pv (i + 1)⟩ σ2 H2) (hd : ∀ σ' H', Pv n.toNat σ' H' → nx σ' H') : isForR g tb ⟨nx, rt, bk, ct⟩ σ [.int n] H := x_for1 (fun _ q => q) h Pv h0 hs hd
theorem x_isForL {a : Addr} {xs : List V} (hx : SqL K H a xs) (Pv : Nat → L2.St → Hp → Prop) (h0 : Pv 0 σ H) (hl : ∀ i σ' H', i ≤ xs.length → Pv i σ' H' → SqL K H' a xs)
    (hs : ∀ i x σ' H', xs[i]? = some x → Pv i σ' H' → g x σ' H' fun σ2 H2 => tb ⟨Pv (i + 1), rt, nx, Pv (i + 1)⟩ σ2 H2) (hd : ∀ σ' H', Pv xs.length σ' H' → nx σ' H') : isForL K g tb ⟨nx, rt, bk, ct⟩ σ (.ref a) H := x_forL (fun _ q => q) hx Pv h0 hl hs hd
theorem x_isForT {a : Addr} {xs : List V} (hx : SqT K H a xs) (Pv : Nat → L2.St → Hp → Prop) (h0 : Pv 0 σ H) (hl : ∀ i σ' H', i ≤ xs.length → Pv i σ' H' → SqT K H' a xs)
    (hs : ∀ i x σ' H', xs[i]? = some x → Pv i σ' H' → g x σ' H' fun σ2 H2 => tb ⟨Pv (i + 1), rt, nx, Pv (i + 1)⟩ σ2 H2) (hd : ∀ σ' H', Pv xs.length σ' H' → nx σ' H') : isForT K g tb ⟨nx, rt, bk, ct⟩ σ (.ref a) H := x_forT (fun _ q => q) hx Pv h0 hl hs hd
theorem x_isLcR {n : Int} (Pv : Addr → Nat → List V → Hp → Prop) (hz : 0 ≤ n ∧ n ≤ 100000)
    (h0 : ∀ D H1, H D = none → Same H H1 → H1 D = some (.lst []) → Pv D 0 [] H1)
    (hs : ∀ D (i : Nat) acc H', H D = none → (i : Int) < n → acc.length ≤ i → H' D = some (.lst acc) → Pv D i acc H' → LcTurn g tt te vs σ (Pv D) D i (.int (i : Int)) H')
    (k : ∀ D acc H', H D = none → acc.length ≤ n.toNat → H' D = some (.lst acc) → Pv D n.toNat acc H' → Q (.ref D) H') : isLcR g tt te vs σ Q [.int n] H := x_lcRP Pv (fun _ q => q) hz h0 hs k
theorem x_isLcL {a : Addr} {xs : List V} (Pv : Addr → Nat → List V → Hp → Prop) (hx : SqL K H a xs) (hz : xs.length ≤ 100000)
    (h0 : ∀ D H1, H D = none → Same H H1 → H1 D = some (.lst []) → Pv D 0 [] H1) (hl : ∀ D i acc H', H D = none → i ≤ xs.length → H' D = some (.lst acc) → Pv D i acc H' → SqL K H' a xs)
    (hs : ∀ D (i : Nat) x acc H', H D = none → xs[i]? = some x → acc.length ≤ i → H' D = some (.lst acc) → Pv D i acc H' → LcTurn g tt te vs σ (Pv D) D i x H')
    (k : ∀ D acc H', H D = none → acc.length ≤ xs.length → H' D = some (.lst acc) → Pv D xs.length acc H' → Q (.ref D) H') : isLcL K g tt te vs σ Q (.ref a) H := x_lcLP Pv (fun _ q => q) hx hz h0 hl hs k
theorem x_isLcT {a : Addr} {xs : List V} (Pv : Addr → Nat → List V → Hp → Prop) (hx : SqT K H a xs) (hz : xs.length ≤ 100000)
    (h0 : ∀ D H1, H D = none → Same H H1 → H1 D = some (.lst []) → Pv D 0 [] H1) (hl : ∀ D i acc H', H D = none → i ≤ xs.length → H' D = some (.lst acc) → Pv D i acc H' → SqT K H' a xs)
    (hs : ∀ D (i : Nat) x acc H', H D = none → xs[i]? = some x → acc.length ≤ i → H' D = some (.lst acc) → Pv D i acc H' → LcTurn g tt te vs σ (Pv D) D i x H')
    (k : ∀ D acc H', H D = none → acc.length ≤ xs.length → H' D = some (.lst acc) → Pv D xs.length acc H' → Q (.ref D) H') : isLcT K g tt te vs σ Q (.ref a) H := x_lcTP Pv (fun _ q => q) hx hz h0 hl hs k
end
/-! in over lists of data -/
theorem x_inDL {K : PySem.W.Frag} {H : Hp} {Q : VK} {x : V} {a : Addr} {d : PyData} {ds : List PyData} (h1 : Dp K H x d) (h2 : Dp K H (.ref a) (.list ds)) (s1 : ShN 8 d) (s2 : ShN 9 (.list ds)) (k : Q (.bl (ds.any fun z => PyData.eqv z d)) H) : rInD K x (.ref a) H Q := ⟨d, ds, h1, h2, s1.shaped, s2.shaped, k⟩
end M
namespace K30
open PySem PySem.Spec PyProof.Rows L2
def top (i : Nat) : Stmt := PySem.Challenge.pw_merestone_k30_configurations.main.body.getD i (.Pass ⟨0, 0, 0, 0⟩)
abbrev inClass (s : Stmt) (j : Nat) : Stmt := match s with | .ClassDef (body := b) .. => b.getD j (.Pass ⟨0, 0, 0, 0⟩) | _ => .Pass ⟨0, 0, 0, 0⟩
abbrev s_Partition___init__ : Stmt := (inClass (top 8) 0)
abbrev s_Partition_fields : Stmt := (inClass (top 8) 1)
abbrev s_Partition___eq__ : Stmt := (inClass (top 8) 2)
abbrev s_Config___init__ : Stmt := (inClass (top 9) 0)
abbrev s_Config_fields : Stmt := (inClass (top 9) 1)
abbrev s_Config___eq__ : Stmt := (inClass (top 9) 2)
abbrev s_page_map : Stmt := (top 10)
abbrev s_round_length : Stmt := (top 11)
abbrev s_frame_start : Stmt := (top 12)
abbrev s_may_flow : Stmt := (top 13)
abbrev s_sources_of : Stmt := (top 14)
abbrev s__law_draw : Stmt := (top 16)
abbrev s__law_word : Stmt := (top 17)
abbrev s__law_line : Stmt := (top 18)
abbrev s__law_image : Stmt := (top 19)
abbrev s__law_parts : Stmt := (top 20)
abbrev s__law_partition : Stmt := (top 21)
abbrev s__law_config : Stmt := (top 22)
abbrev s__law_inputs : Stmt := (top 23)
abbrev s__law_pages : Stmt := (top 24)
abbrev s__law_reach : Stmt := (top 25)
abbrev s_law : Stmt := (top 26)
structure Tx (K : PySem.W.Frag) (mg : Str → Option Value) : Prop where
  f_Partition___init__ : ∃ fd, FunD K "__init__" "Partition.__init__" (defArgs s_Partition___init__) (defBody s_Partition___init__) (defScope s_Partition___init__) [] [] (He.ma K (He.ga K "Partition") "__init__") fd
  k_Partition : Mk K (He.ga K "Partition") (He.ma K (He.ga K "Partition") "__init__")
  m_Partition___init__ : Meth K (He.ga K "Partition") "__init__" (He.ma K (He.ga K "Partition") "__init__")
  f_Partition_fields : ∃ fd, FunD K "fields" "Partition.fields" (defArgs s_Partition_fields) (defBody s_Partition_fields) (defScope s_Partition_fields) [] [] (He.ma K (He.ga K "Partition") "fields") fd
  m_Partition_fields : Meth K (He.ga K "Partition") "fields" (He.ma K (He.ga K "Partition") "fields")
  f_Partition___eq__ : ∃ fd, FunD K "__eq__" "Partition.__eq__" (defArgs s_Partition___eq__) (defBody s_Partition___eq__) (defScope s_Partition___eq__) [] [] (He.ma K (He.ga K "Partition") "__eq__") fd
  m_Partition___eq__ : Meth K (He.ga K "Partition") "__eq__" (He.ma K (He.ga K "Partition") "__eq__")
  f_Config___init__ : ∃ fd, FunD K "__init__" "Config.__init__" (defArgs s_Config___init__) (defBody s_Config___init__) (defScope s_Config___init__) [] [] (He.ma K (He.ga K "Config") "__init__") fd
  k_Config : Mk K (He.ga K "Config") (He.ma K (He.ga K "Config") "__init__")
  m_Config___init__ : Meth K (He.ga K "Config") "__init__" (He.ma K (He.ga K "Config") "__init__")
  f_Config_fields : ∃ fd, FunD K "fields" "Config.fields" (defArgs s_Config_fields) (defBody s_Config_fields) (defScope s_Config_fields) [] [] (He.ma K (He.ga K "Config") "fields") fd
  m_Config_fields : Meth K (He.ga K "Config") "fields" (He.ma K (He.ga K "Config") "fields")
  f_Config___eq__ : ∃ fd, FunD K "__eq__" "Config.__eq__" (defArgs s_Config___eq__) (defBody s_Config___eq__) (defScope s_Config___eq__) [] [] (He.ma K (He.ga K "Config") "__eq__") fd
  m_Config___eq__ : Meth K (He.ga K "Config") "__eq__" (He.ma K (He.ga K "Config") "__eq__")
  f_page_map : ∃ fd, FunD K "page_map" "page_map" (defArgs s_page_map) (defBody s_page_map) (defScope s_page_map) [] [] (He.ga K "page_map") fd
  g_page_map : mg "page_map" = some (.ref (He.ga K "page_map"))
  f_round_length : ∃ fd, FunD K "round_length" "round_length" (defArgs s_round_length) (defBody s_round_length) (defScope s_round_length) [] [] (He.ga K "round_length") fd
  g_round_length : mg "round_length" = some (.ref (He.ga K "round_length"))
  f_frame_start : ∃ fd, FunD K "frame_start" "frame_start" (defArgs s_frame_start) (defBody s_frame_start) (defScope s_frame_start) [] [] (He.ga K "frame_start") fd
  g_frame_start : mg "frame_start" = some (.ref (He.ga K "frame_start"))
  f_may_flow : ∃ fd, FunD K "may_flow" "may_flow" (defArgs s_may_flow) (defBody s_may_flow) (defScope s_may_flow) [] [] (He.ga K "may_flow") fd
  g_may_flow : mg "may_flow" = some (.ref (He.ga K "may_flow"))
  f_sources_of : ∃ fd, FunD K "sources_of" "sources_of" (defArgs s_sources_of) (defBody s_sources_of) (defScope s_sources_of) [] [] (He.ga K "sources_of") fd
  g_sources_of : mg "sources_of" = some (.ref (He.ga K "sources_of"))
  f__law_draw : ∃ fd, FunD K "_law_draw" "_law_draw" (defArgs s__law_draw) (defBody s__law_draw) (defScope s__law_draw) [] [] (He.ga K "_law_draw") fd
  g__law_draw : mg "_law_draw" = some (.ref (He.ga K "_law_draw"))
  f__law_word : ∃ fd, FunD K "_law_word" "_law_word" (defArgs s__law_word) (defBody s__law_word) (defScope s__law_word) [] [] (He.ga K "_law_word") fd
  g__law_word : mg "_law_word" = some (.ref (He.ga K "_law_word"))
  f__law_line : ∃ fd, FunD K "_law_line" "_law_line" (defArgs s__law_line) (defBody s__law_line) (defScope s__law_line) [] [] (He.ga K "_law_line") fd
  g__law_line : mg "_law_line" = some (.ref (He.ga K "_law_line"))
  f__law_image : ∃ fd, FunD K "_law_image" "_law_image" (defArgs s__law_image) (defBody s__law_image) (defScope s__law_image) [] [] (He.ga K "_law_image") fd
  g__law_image : mg "_law_image" = some (.ref (He.ga K "_law_image"))
  f__law_parts : ∃ fd, FunD K "_law_parts" "_law_parts" (defArgs s__law_parts) (defBody s__law_parts) (defScope s__law_parts) [] [] (He.ga K "_law_parts") fd
  g__law_parts : mg "_law_parts" = some (.ref (He.ga K "_law_parts"))
  f__law_partition : ∃ fd, FunD K "_law_partition" "_law_partition" (defArgs s__law_partition) (defBody s__law_partition) (defScope s__law_partition) [] [] (He.ga K "_law_partition") fd
  g__law_partition : mg "_law_partition" = some (.ref (He.ga K "_law_partition"))
  f__law_config : ∃ fd, FunD K "_law_config" "_law_config" (defArgs s__law_config) (defBody s__law_config) (defScope s__law_config) [] [] (He.ga K "_law_config") fd
  g__law_config : mg "_law_config" = some (.ref (He.ga K "_law_config"))
  f__law_inputs : ∃ fd, FunD K "_law_inputs" "_law_inputs" (defArgs s__law_inputs) (defBody s__law_inputs) (defScope s__law_inputs) [] [] (He.ga K "_law_inputs") fd
  g__law_inputs : mg "_law_inputs" = some (.ref (He.ga K "_law_inputs"))
  f__law_pages : ∃ fd, FunD K "_law_pages" "_law_pages" (defArgs s__law_pages) (defBody s__law_pages) (defScope s__law_pages) [] [] (He.ga K "_law_pages") fd
  g__law_pages : mg "_law_pages" = some (.ref (He.ga K "_law_pages"))
  f__law_reach : ∃ fd, FunD K "_law_reach" "_law_reach" (defArgs s__law_reach) (defBody s__law_reach) (defScope s__law_reach) [] [] (He.ga K "_law_reach") fd
  g__law_reach : mg "_law_reach" = some (.ref (He.ga K "_law_reach"))
  f_law : ∃ fd, FunD K "law" "law" (defArgs s_law) (defBody s_law) (defScope s_law) [] [] (He.ga K "law") fd
  g_law : mg "law" = some (.ref (He.ga K "law"))
  c_Partition : Cls K (He.ga K "Partition")
  g_Partition : mg "Partition" = some (.ref (He.ga K "Partition"))
  n_Partition_image : NoAttr K (He.ga K "Partition") "image"
  n_Partition_pages : NoAttr K (He.ga K "Partition") "pages"
  n_Partition_start : NoAttr K (He.ga K "Partition") "start"
  c_Config : Cls K (He.ga K "Config")
  g_Config : mg "Config" = some (.ref (He.ga K "Config"))
  n_Config_partitions : NoAttr K (He.ga K "Config") "partitions"
  n_Config_frames : NoAttr K (He.ga K "Config") "frames"
  n_Config_channels : NoAttr K (He.ga K "Config") "channels"
  n_Config_shares : NoAttr K (He.ga K "Config") "shares"
  n_Config_devices : NoAttr K (He.ga K "Config") "devices"
  n_Config_flows : NoAttr K (He.ga K "Config") "flows"
  g_PAGE : ∃ u, mg "PAGE" = some u ∧ RelV (.int 16) u
  g_VIRTUAL : ∃ u, mg "VIRTUAL" = some u ∧ RelV (.int 8) u
  g_GAP : ∃ u, mg "GAP" = some u ∧ RelV (.int 256) u
  g_CALL : ∃ u, mg "CALL" = some u ∧ RelV (.int 96) u
  g_READ : ∃ u, mg "READ" = some u ∧ RelV (.int 1) u
  g_WRITE : ∃ u, mg "WRITE" = some u ∧ RelV (.int 2) u
  g_EXECUTE : ∃ u, mg "EXECUTE" = some u ∧ RelV (.int 4) u
  b_int : mg "int" = none
  b_len : mg "len" = none
  b_range : mg "range" = none
  b_isinstance : mg "isinstance" = none
  b_list : mg "list" = none
  b_tuple : mg "tuple" = none
  b_sum : mg "sum" = none
  b_any : mg "any" = none
  b_sorted : mg "sorted" = none
  nn_Partition : PySem.W.findIn K (.ref (He.ga K "Partition")) "__ne__" = some (some (.builtin "object.__ne__"))
  so_Partition : PySem.W.subIn K (.ref (He.ga K "Partition")) (.type "object") = some true
  ha_Partition : PySem.W.findIn K (.ref (He.ga K "Partition")) "__class__" = some (some (.builtin "object.__class__"))
  hm_Partition : PySem.W.mroIn K (He.ga K "Partition") (.type "object") = some true
  ik_Partition : PySem.W.kitOne K (.ref (He.ga K "Partition")) (.ref (He.ga K "Partition")) = some true
  ii_Partition : PySem.W.kitOne K (.type "int") (.ref (He.ga K "Partition")) = some false
  hn_ : PySem.W.specialIn K (.builtin "object.__class__") "__get__" = some (some (.builtin "getset_descriptor.__get__"))
  ht_ : PySem.W.takesIn K (.builtin "object.__class__") = some true
  nn_Config : PySem.W.findIn K (.ref (He.ga K "Config")) "__ne__" = some (some (.builtin "object.__ne__"))
  so_Config : PySem.W.subIn K (.ref (He.ga K "Config")) (.type "object") = some true
  ha_Config : PySem.W.findIn K (.ref (He.ga K "Config")) "__class__" = some (some (.builtin "object.__class__"))
  hm_Config : PySem.W.mroIn K (He.ga K "Config") (.type "object") = some true
  ik_Config : PySem.W.kitOne K (.ref (He.ga K "Config")) (.ref (He.ga K "Config")) = some true
  ii_Config : PySem.W.kitOne K (.type "int") (.ref (He.ga K "Config")) = some false
end K30
namespace K30
open PySem PySem.Spec PyProof.Rows L2
def fnD0 : He.DefD := ⟨("Partition", some "__init__"), "__init__", "Partition.__init__", defArgs s_Partition___init__, defBody s_Partition___init__, defScope s_Partition___init__, [], []⟩
def fnD1 : He.DefD := ⟨("Partition", some "fields"), "fields", "Partition.fields", defArgs s_Partition_fields, defBody s_Partition_fields, defScope s_Partition_fields, [], []⟩
def fnD2 : He.DefD := ⟨("Partition", some "__eq__"), "__eq__", "Partition.__eq__", defArgs s_Partition___eq__, defBody s_Partition___eq__, defScope s_Partition___eq__, [], []⟩
def fnD3 : He.DefD := ⟨("Config", some "__init__"), "__init__", "Config.__init__", defArgs s_Config___init__, defBody s_Config___init__, defScope s_Config___init__, [], []⟩
def fnD4 : He.DefD := ⟨("Config", some "fields"), "fields", "Config.fields", defArgs s_Config_fields, defBody s_Config_fields, defScope s_Config_fields, [], []⟩
def fnD5 : He.DefD := ⟨("Config", some "__eq__"), "__eq__", "Config.__eq__", defArgs s_Config___eq__, defBody s_Config___eq__, defScope s_Config___eq__, [], []⟩
def fnD6 : He.DefD := ⟨("page_map", none), "page_map", "page_map", defArgs s_page_map, defBody s_page_map, defScope s_page_map, [], []⟩
def fnD7 : He.DefD := ⟨("round_length", none), "round_length", "round_length", defArgs s_round_length, defBody s_round_length, defScope s_round_length, [], []⟩
def fnD8 : He.DefD := ⟨("frame_start", none), "frame_start", "frame_start", defArgs s_frame_start, defBody s_frame_start, defScope s_frame_start, [], []⟩
def fnD9 : He.DefD := ⟨("may_flow", none), "may_flow", "may_flow", defArgs s_may_flow, defBody s_may_flow, defScope s_may_flow, [], []⟩
def fnD10 : He.DefD := ⟨("sources_of", none), "sources_of", "sources_of", defArgs s_sources_of, defBody s_sources_of, defScope s_sources_of, [], []⟩
def fnD11 : He.DefD := ⟨("_law_draw", none), "_law_draw", "_law_draw", defArgs s__law_draw, defBody s__law_draw, defScope s__law_draw, [], []⟩
def fnD12 : He.DefD := ⟨("_law_word", none), "_law_word", "_law_word", defArgs s__law_word, defBody s__law_word, defScope s__law_word, [], []⟩
def fnD13 : He.DefD := ⟨("_law_line", none), "_law_line", "_law_line", defArgs s__law_line, defBody s__law_line, defScope s__law_line, [], []⟩
def fnD14 : He.DefD := ⟨("_law_image", none), "_law_image", "_law_image", defArgs s__law_image, defBody s__law_image, defScope s__law_image, [], []⟩
def fnD15 : He.DefD := ⟨("_law_parts", none), "_law_parts", "_law_parts", defArgs s__law_parts, defBody s__law_parts, defScope s__law_parts, [], []⟩
def fnD16 : He.DefD := ⟨("_law_partition", none), "_law_partition", "_law_partition", defArgs s__law_partition, defBody s__law_partition, defScope s__law_partition, [], []⟩
def fnD17 : He.DefD := ⟨("_law_config", none), "_law_config", "_law_config", defArgs s__law_config, defBody s__law_config, defScope s__law_config, [], []⟩
def fnD18 : He.DefD := ⟨("_law_inputs", none), "_law_inputs", "_law_inputs", defArgs s__law_inputs, defBody s__law_inputs, defScope s__law_inputs, [], []⟩
def fnD19 : He.DefD := ⟨("_law_pages", none), "_law_pages", "_law_pages", defArgs s__law_pages, defBody s__law_pages, defScope s__law_pages, [], []⟩
def fnD20 : He.DefD := ⟨("_law_reach", none), "_law_reach", "_law_reach", defArgs s__law_reach, defBody s__law_reach, defScope s__law_reach, [], []⟩
def fnD21 : He.DefD := ⟨("law", none), "law", "law", defArgs s_law, defBody s_law, defScope s_law, [], []⟩
def fn : List He.DefD := [fnD0, fnD1, fnD2, fnD3, fnD4, fnD5, fnD6, fnD7, fnD8, fnD9, fnD10, fnD11, fnD12, fnD13, fnD14, fnD15, fnD16, fnD17, fnD18, fnD19, fnD20, fnD21]
def fa : List He.Fa := [.mkr "Partition",
  .meth "Partition" "__init__",
  .meth "Partition" "fields",
  .meth "Partition" "__eq__",
  .mkr "Config",
  .meth "Config" "__init__",
  .meth "Config" "fields",
  .meth "Config" "__eq__",
  .glo "page_map",
  .glo "round_length",
  .glo "frame_start",
  .glo "may_flow",
  .glo "sources_of",
  .glo "_law_draw",
  .glo "_law_word",
  .glo "_law_line",
  .glo "_law_image",
  .glo "_law_parts",
  .glo "_law_partition",
  .glo "_law_config",
  .glo "_law_inputs",
  .glo "_law_pages",
  .glo "_law_reach",
  .glo "law",
  .cls "Partition",
  .glo "Partition",
  .noat "Partition" "image",
  .noat "Partition" "pages",
  .noat "Partition" "start",
  .cls "Config",
  .glo "Config",
  .noat "Config" "partitions",
  .noat "Config" "frames",
  .noat "Config" "channels",
  .noat "Config" "shares",
  .noat "Config" "devices",
  .noat "Config" "flows",
  .int "PAGE" 16,
  .int "VIRTUAL" 8,
  .int "GAP" 256,
  .int "CALL" 96,
  .int "READ" 1,
  .int "WRITE" 2,
  .int "EXECUTE" 4,
  .free "int",
  .free "len",
  .free "range",
  .free "isinstance",
  .free "list",
  .free "tuple",
  .free "sum",
  .free "any",
  .free "sorted"]
abbrev R : PySem.W.OpenRow := PySem.W.OpenLaw.row PySem.Challenge.rw_merestone_k30_configurations
def exs : List (PySem.W.Frag → Bool) := [fun K => decide (PySem.W.findIn K (.ref (He.ga K "Partition")) "__ne__" = some (some (.builtin "object.__ne__"))),
  fun K => decide (PySem.W.subIn K (.ref (He.ga K "Partition")) (.type "object") = some true),
  fun K => decide (PySem.W.findIn K (.ref (He.ga K "Partition")) "__class__" = some (some (.builtin "object.__class__"))),
  fun K => decide (PySem.W.mroIn K (He.ga K "Partition") (.type "object") = some true),
  fun K => decide (PySem.W.kitOne K (.ref (He.ga K "Partition")) (.ref (He.ga K "Partition")) = some true),
  fun K => decide (PySem.W.kitOne K (.type "int") (.ref (He.ga K "Partition")) = some false),
  fun K => decide (PySem.W.specialIn K (.builtin "object.__class__") "__get__" = some (some (.builtin "getset_descriptor.__get__"))),
  fun K => decide (PySem.W.takesIn K (.builtin "object.__class__") = some true),
  fun K => decide (PySem.W.findIn K (.ref (He.ga K "Config")) "__ne__" = some (some (.builtin "object.__ne__"))),
  fun K => decide (PySem.W.subIn K (.ref (He.ga K "Config")) (.type "object") = some true),
  fun K => decide (PySem.W.findIn K (.ref (He.ga K "Config")) "__class__" = some (some (.builtin "object.__class__"))),
  fun K => decide (PySem.W.mroIn K (He.ga K "Config") (.type "object") = some true),
  fun K => decide (PySem.W.kitOne K (.ref (He.ga K "Config")) (.ref (He.ga K "Config")) = some true),
  fun K => decide (PySem.W.kitOne K (.type "int") (.ref (He.ga K "Config")) = some false)]
def ex (K : PySem.W.Frag) : Bool := exs.all fun f => f K
def ts : List He.Tab := []
def names : List Str := (["PAGE", "VIRTUAL", "GAP", "CALL", "READ", "WRITE", "EXECUTE", "Partition", "Config", "page_map", "round_length", "frame_start", "may_flow", "sources_of", "_law_draw", "_law_word", "_law_line", "_law_image", "_law_parts", "_law_partition", "_law_config", "_law_inputs", "_law_pages", "_law_reach"] : List Str)
abbrev hk : PySem.W.Hook := He.hookX 6 fa fn ts [] ex
def ob (s : PySem.W.SharedT) : He.AlX := He.obsX 6 fa fn ts [] ex (HandSHeadRun.getT s)
theorem ob_eq (s : PySem.W.SharedT) : ob s = hk.obs s.abs := He.obsX_eq (HandSHeadRun.getT_eq s)
theorem run0 (w : World) : HandSHeadRun.RunEq R (PySem.W.view R.prog [26]) hk ob 40000 names (w.withFollow "special-get-raises" false) := by
  intro os
  kernel_rfl
theorem run1 (w : World) : HandSHeadRun.RunEq R (PySem.W.view R.prog [26]) hk ob 40000 names (w.withFollow "special-get-raises" true) := by
  intro os
  kernel_rfl
theorem run (w : World) : HandSHeadRun.RunEq R (PySem.W.view R.prog [26]) hk ob 40000 names w := PySem.W.byRow2 "special-get-raises" (P := fun w => HandSHeadRun.RunEq R (PySem.W.view R.prog [26]) hk ob 40000 names w) run0 run1 w
theorem tx_mk {w : World} {K : PySem.W.Frag} {h : Heap} {mg : Str → Option Value} (X : K.In h) (G : h.Ns mainGlobals mg) (c : He.SaysX fa fn ts [] ex w h K) : Tx K mg where
    f_Partition___init__ := c.t.d.def_ 0 (d := fnD0) rfl
    k_Partition := He.mkr_ok (c.t.d.fact 0 (f := .mkr "Partition") rfl)
    m_Partition___init__ := He.meth_ok (c.t.d.fact 1 (f := .meth "Partition" "__init__") rfl)
    f_Partition_fields := c.t.d.def_ 1 (d := fnD1) rfl
    m_Partition_fields := He.meth_ok (c.t.d.fact 2 (f := .meth "Partition" "fields") rfl)
    f_Partition___eq__ := c.t.d.def_ 2 (d := fnD2) rfl
    m_Partition___eq__ := He.meth_ok (c.t.d.fact 3 (f := .meth "Partition" "__eq__") rfl)
    f_Config___init__ := c.t.d.def_ 3 (d := fnD3) rfl
    k_Config := He.mkr_ok (c.t.d.fact 4 (f := .mkr "Config") rfl)
    m_Config___init__ := He.meth_ok (c.t.d.fact 5 (f := .meth "Config" "__init__") rfl)
    f_Config_fields := c.t.d.def_ 4 (d := fnD4) rfl
    m_Config_fields := He.meth_ok (c.t.d.fact 6 (f := .meth "Config" "fields") rfl)
    f_Config___eq__ := c.t.d.def_ 5 (d := fnD5) rfl
    m_Config___eq__ := He.meth_ok (c.t.d.fact 7 (f := .meth "Config" "__eq__") rfl)
    f_page_map := c.t.d.def_ 6 (d := fnD6) rfl
    g_page_map := He.glo_ok X G (c.t.d.fact 8 (f := .glo "page_map") rfl)
    f_round_length := c.t.d.def_ 7 (d := fnD7) rfl
    g_round_length := He.glo_ok X G (c.t.d.fact 9 (f := .glo "round_length") rfl)
    f_frame_start := c.t.d.def_ 8 (d := fnD8) rfl
    g_frame_start := He.glo_ok X G (c.t.d.fact 10 (f := .glo "frame_start") rfl)
    f_may_flow := c.t.d.def_ 9 (d := fnD9) rfl
    g_may_flow := He.glo_ok X G (c.t.d.fact 11 (f := .glo "may_flow") rfl)
    f_sources_of := c.t.d.def_ 10 (d := fnD10) rfl
    g_sources_of := He.glo_ok X G (c.t.d.fact 12 (f := .glo "sources_of") rfl)
    f__law_draw := c.t.d.def_ 11 (d := fnD11) rfl
    g__law_draw := He.glo_ok X G (c.t.d.fact 13 (f := .glo "_law_draw") rfl)
    f__law_word := c.t.d.def_ 12 (d := fnD12) rfl
    g__law_word := He.glo_ok X G (c.t.d.fact 14 (f := .glo "_law_word") rfl)
    f__law_line := c.t.d.def_ 13 (d := fnD13) rfl
    g__law_line := He.glo_ok X G (c.t.d.fact 15 (f := .glo "_law_line") rfl)
    f__law_image := c.t.d.def_ 14 (d := fnD14) rfl
    g__law_image := He.glo_ok X G (c.t.d.fact 16 (f := .glo "_law_image") rfl)
    f__law_parts := c.t.d.def_ 15 (d := fnD15) rfl
    g__law_parts := He.glo_ok X G (c.t.d.fact 17 (f := .glo "_law_parts") rfl)
    f__law_partition := c.t.d.def_ 16 (d := fnD16) rfl
    g__law_partition := He.glo_ok X G (c.t.d.fact 18 (f := .glo "_law_partition") rfl)
    f__law_config := c.t.d.def_ 17 (d := fnD17) rfl
    g__law_config := He.glo_ok X G (c.t.d.fact 19 (f := .glo "_law_config") rfl)
    f__law_inputs := c.t.d.def_ 18 (d := fnD18) rfl
    g__law_inputs := He.glo_ok X G (c.t.d.fact 20 (f := .glo "_law_inputs") rfl)
    f__law_pages := c.t.d.def_ 19 (d := fnD19) rfl
    g__law_pages := He.glo_ok X G (c.t.d.fact 21 (f := .glo "_law_pages") rfl)
    f__law_reach := c.t.d.def_ 20 (d := fnD20) rfl
    g__law_reach := He.glo_ok X G (c.t.d.fact 22 (f := .glo "_law_reach") rfl)
    f_law := c.t.d.def_ 21 (d := fnD21) rfl
    g_law := He.glo_ok X G (c.t.d.fact 23 (f := .glo "law") rfl)
    c_Partition := He.cls_ok (c.t.d.fact 24 (f := .cls "Partition") rfl)
    g_Partition := He.glo_ok X G (c.t.d.fact 25 (f := .glo "Partition") rfl)
    n_Partition_image := He.noat_ok (c.t.d.fact 26 (f := .noat "Partition" "image") rfl)
    n_Partition_pages := He.noat_ok (c.t.d.fact 27 (f := .noat "Partition" "pages") rfl)
    n_Partition_start := He.noat_ok (c.t.d.fact 28 (f := .noat "Partition" "start") rfl)
    c_Config := He.cls_ok (c.t.d.fact 29 (f := .cls "Config") rfl)
    g_Config := He.glo_ok X G (c.t.d.fact 30 (f := .glo "Config") rfl)
    n_Config_partitions := He.noat_ok (c.t.d.fact 31 (f := .noat "Config" "partitions") rfl)
    n_Config_frames := He.noat_ok (c.t.d.fact 32 (f := .noat "Config" "frames") rfl)
    n_Config_channels := He.noat_ok (c.t.d.fact 33 (f := .noat "Config" "channels") rfl)
    n_Config_shares := He.noat_ok (c.t.d.fact 34 (f := .noat "Config" "shares") rfl)
    n_Config_devices := He.noat_ok (c.t.d.fact 35 (f := .noat "Config" "devices") rfl)
    n_Config_flows := He.noat_ok (c.t.d.fact 36 (f := .noat "Config" "flows") rfl)
    g_PAGE := M.gc_int X G (c.t.d.fact 37 (f := .int "PAGE" 16) rfl)
    g_VIRTUAL := M.gc_int X G (c.t.d.fact 38 (f := .int "VIRTUAL" 8) rfl)
    g_GAP := M.gc_int X G (c.t.d.fact 39 (f := .int "GAP" 256) rfl)
    g_CALL := M.gc_int X G (c.t.d.fact 40 (f := .int "CALL" 96) rfl)
    g_READ := M.gc_int X G (c.t.d.fact 41 (f := .int "READ" 1) rfl)
    g_WRITE := M.gc_int X G (c.t.d.fact 42 (f := .int "WRITE" 2) rfl)
    g_EXECUTE := M.gc_int X G (c.t.d.fact 43 (f := .int "EXECUTE" 4) rfl)
    b_int := He.free_ok X G (c.t.d.fact 44 (f := .free "int") rfl)
    b_len := He.free_ok X G (c.t.d.fact 45 (f := .free "len") rfl)
    b_range := He.free_ok X G (c.t.d.fact 46 (f := .free "range") rfl)
    b_isinstance := He.free_ok X G (c.t.d.fact 47 (f := .free "isinstance") rfl)
    b_list := He.free_ok X G (c.t.d.fact 48 (f := .free "list") rfl)
    b_tuple := He.free_ok X G (c.t.d.fact 49 (f := .free "tuple") rfl)
    b_sum := He.free_ok X G (c.t.d.fact 50 (f := .free "sum") rfl)
    b_any := He.free_ok X G (c.t.d.fact 51 (f := .free "any") rfl)
    b_sorted := He.free_ok X G (c.t.d.fact 52 (f := .free "sorted") rfl)
    nn_Partition := of_decide_eq_true (M.ex_at c.more 0 rfl)
    so_Partition := of_decide_eq_true (M.ex_at c.more 1 rfl)
    ha_Partition := of_decide_eq_true (M.ex_at c.more 2 rfl)
    hm_Partition := of_decide_eq_true (M.ex_at c.more 3 rfl)
    ik_Partition := of_decide_eq_true (M.ex_at c.more 4 rfl)
    ii_Partition := of_decide_eq_true (M.ex_at c.more 5 rfl)
    hn_ := of_decide_eq_true (M.ex_at c.more 6 rfl)
    ht_ := of_decide_eq_true (M.ex_at c.more 7 rfl)
    nn_Config := of_decide_eq_true (M.ex_at c.more 8 rfl)
    so_Config := of_decide_eq_true (M.ex_at c.more 9 rfl)
    ha_Config := of_decide_eq_true (M.ex_at c.more 10 rfl)
    hm_Config := of_decide_eq_true (M.ex_at c.more 11 rfl)
    ik_Config := of_decide_eq_true (M.ex_at c.more 12 rfl)
    ii_Config := of_decide_eq_true (M.ex_at c.more 13 rfl)
end K30
namespace K30
open PySem PySem.Spec PyProof.Rows L2
local macro_rules | `(tactic| walk_at "s") => `(tactic| first
  | ((with_reducible refine' M.x_var ?xv ?_); (case xv => exact rfl))
  | with_reducible refine M.x_c ?_
  | with_reducible refine M.x_op ?_
  | with_reducible refine M.x_seq ?_
  | with_reducible refine M.x_asg ?_
  | with_reducible refine M.x_gname ?_
  | with_reducible refine M.x_rI0 ?_
  | ((with_reducible refine' M.x_rI ?xc ?_); (case xc => walk_at "side"))
  | with_reducible refine M.x_call ?_
  | with_reducible refine M.x_callB ?_
  | with_reducible refine M.x_cons ?_
  | with_reducible refine M.x_nil ?_
  | with_reducible refine M.x_int ?_
  | with_reducible refine M.x_intB ?_
  | with_reducible refine M.x_ifS ?_
  | with_reducible refine M.x_test ?_
  | with_reducible refine M.x_tB ?_
  | with_reducible refine M.x_isB ?_
  | with_reducible refine M.x_ret ?_
  | with_reducible refine M.x_retN ?_
  | with_reducible refine M.x_next ?_
  | with_reducible refine M.x_brk ?_
  | with_reducible refine M.x_cont ?_
  | with_reducible refine M.x_drop ?_
  | with_reducible refine M.x_eqI ?_
  | with_reducible refine M.x_neI ?_
  | with_reducible refine M.x_eqS ?_
  | with_reducible refine M.x_neS ?_
  | with_reducible refine M.x_eqB ?_
  | with_reducible refine M.x_neB ?_
  | with_reducible refine M.x_ifT ?_
  | with_reducible refine M.x_ifF ?_
  | with_reducible refine M.x_and ?_
  | with_reducible refine M.x_or ?_
  | with_reducible refine M.x_not ?_
  | with_reducible refine M.x_ifNB ?_
  | with_reducible refine M.x_andV ?_
  | with_reducible refine M.x_orV ?_
  | with_reducible refine M.x_notV ?_
  | with_reducible refine M.x_ifE ?_
  | with_reducible refine M.x_chain ?_
  | with_reducible refine M.x_isN ?_
  | with_reducible refine M.x_notN ?_
  | with_reducible refine M.x_un ?_
  | with_reducible refine M.x_rU ?_
  | with_reducible refine M.x_max2 ?_
  | with_reducible refine M.x_min2 ?_
  | with_reducible refine M.x_isiII ?_
  | with_reducible refine M.x_isiIB ?_
  | with_reducible refine M.x_isiBB ?_
  | with_reducible refine M.x_isiSS ?_
  | ((with_reducible refine' M.x_ifTD ?xp ?_); (case xp => first | exact rfl | decide | omega))
  | ((with_reducible refine' M.x_ifFD ?xp ?_); (case xp => first | exact rfl | decide | omega))
  | with_reducible refine M.x_lst' ?_
  | with_reducible refine M.x_tup' ?_)
local macro_rules | `(tactic| walk_at "side") => `(tactic| first
  | decide
  | (show (0 : Int) < _; decide)
  | (show (0 : Int) < _; omega)
  | (show (0 : Int) ≤ _; omega)
  | (exact ⟨by decide, by decide⟩)
  | (exact ⟨by omega, by omega⟩)
  | (exact Or.inr ⟨by decide, by decide⟩)
  | (exact Or.inl ⟨by decide, by decide⟩)
  | (exact Or.inr ⟨by omega, by omega⟩)
  | (exact Or.inl ⟨by omega, by omega⟩)
  | (exact ⟨by decide, by decide, by decide⟩)
  | (exact ⟨by omega, by omega, by omega⟩))
local macro_rules | `(tactic| walk_at "go") => `(tactic| (repeat walk_at "s"))
local macro_rules | `(tactic| walk_at "hp") => `(tactic| first
  | assumption
  | exact upd_same
  | ((refine' M.same_hp ?xe ?xq); (case xe => assumption); (case xq => walk_at "hp")))
local macro_rules | `(tactic| walk_at "seq") => `(tactic| first
  | assumption
  | exact SqL.of (by assumption)
  | ((refine' Same.seq ?xe ?xq); (case xe => assumption); (case xq => walk_at "seq")))
local macro_rules | `(tactic| walk_at "sqt") => `(tactic| first
  | assumption
  | exact SqT.of (by assumption)
  | ((refine' M.Same.st ?xe ?xq); (case xe => assumption); (case xq => walk_at "sqt")))
local macro_rules | `(tactic| walk_at "at") => `(tactic| first
  | with_reducible exact M.atI_ints (by first | decide | omega) (by omega)
  | with_reducible exact M.atI_ints (by first | decide | omega) (by simp; omega)
  | exact rfl)
local macro_rules | `(tactic| walk_at "s") => `(tactic| first
  | with_reducible refine M.x_truV ?_
  | ((with_reducible refine' M.x_truL ?xh ?_); (case xh => walk_at "seq"))
  | with_reducible refine M.x_truI ?_
  | with_reducible refine M.x_isBl ?_
  | with_reducible refine M.x_notBl ?_
  | ((with_reducible refine' M.x_ixL ?xh ?xa ?_); (case xh => walk_at "seq"); (case xa => walk_at "at"))
  | ((with_reducible refine' M.x_ixT ?xh ?xa ?_); (case xh => walk_at "sqt"); (case xa => walk_at "at"))
  | ((with_reducible refine' M.x_lenL ?xh ?_); (case xh => walk_at "seq"))
  | ((with_reducible refine' M.x_lenT ?xh ?_); (case xh => walk_at "sqt"))
  | ((with_reducible refine' M.x_listL ?xh ?_); (case xh => walk_at "seq"))
  | ((with_reducible refine' M.x_newL ?xz ?_); (case xz => exact M.sl4 (by first | decide | (simp; done) | (simp; omega))))
  | ((with_reducible refine' M.x_newT ?xz ?_); (case xz => exact M.sl4 (by first | decide | (simp; done) | (simp; omega))))
  | ((with_reducible refine' M.x_cat ?xh ?xi ?xz ?_); (case xh => walk_at "hp"); (case xi => walk_at "hp"); (case xz => exact M.sl4 (by first | decide | (simp; done) | (simp; omega)))))

local macro_rules | `(tactic| walk_at "s") => `(tactic| first
  | ((with_reducible refine' M.x_inL ?xh ?xf ?xg ?_); (case xh => walk_at "seq"); (case xf => exact rfl); (case xg => first | exact rfl | exact M.flat_strsV _))
  | ((with_reducible refine' M.x_inT ?xh ?xf ?xg ?_); (case xh => walk_at "sqt"); (case xf => exact rfl); (case xg => first | exact rfl | exact M.flat_strsV _))
  | ((with_reducible refine' M.x_notInL ?xh ?xf ?xg ?_); (case xh => walk_at "seq"); (case xf => exact rfl); (case xg => first | exact rfl | exact M.flat_strsV _))
  | ((with_reducible refine' M.x_notInT ?xh ?xf ?xg ?_); (case xh => walk_at "sqt"); (case xf => exact rfl); (case xg => first | exact rfl | exact M.flat_strsV _))
  | with_reducible refine M.x_bm ?_
  | ((with_reducible refine' M.x_tyL ?xh ?_); (case xh => walk_at "seq"))
  | ((with_reducible refine' M.x_tyK ?xh ?_); (case xh => walk_at "tyk"))
  | with_reducible refine M.x_m1 ?_
  | with_reducible refine M.x_txt ?_
  | ((with_reducible refine' M.x_split ?xh ?xi ?_); (case xh => decide +kernel); (case xi => decide +kernel))
  | ((with_reducible refine' M.x_addZ ?xh ?_); (case xh => decide +kernel))
  | ((with_reducible refine' M.x_tupL ?xh ?_); (case xh => walk_at "seq"))
  | ((with_reducible refine' M.x_isiTT ?xh ?_); (case xh => walk_at "hp"))
  | with_reducible refine M.x_rz ?_
  | with_reducible refine M.x_mkE ?_
  | with_reducible refine M.x_tryAs ?_
  | with_reducible refine M.x_callS ?_
  | with_reducible refine M.x_xf ?_)
local macro_rules | `(tactic| walk_at "s") => `(tactic| first
  | with_reducible refine M.x_isN0 ?_
  | with_reducible refine M.x_isNr ?_
  | with_reducible refine M.x_isNi ?_
  | with_reducible refine M.x_isNs ?_
  | with_reducible refine M.x_notN0 ?_
  | with_reducible refine M.x_notNr ?_
  | with_reducible refine M.x_notNi ?_
  | with_reducible refine M.x_notNs ?_)
local macro_rules | `(tactic| walk_at "split") => `(tactic| (walk_at "go"; first | done | ((refine M.x_ifD (fun _ => ?_) (fun _ => ?_)) <;> walk_at "split") | ((refine M.x_if (fun _ => ?_) (fun _ => ?_)) <;> walk_at "split") | skip))
local macro_rules | `(tactic| walk_at "sqt") => `(tactic| first
  | fail
)

local macro_rules | `(tactic| walk_at "cls") => `(tactic| first
  | exact Tx.c_Partition (by assumption)
  | exact Tx.c_Config (by assumption))
local macro_rules | `(tactic| walk_at "noat") => `(tactic| first
  | exact Tx.n_Partition_image (by assumption)
  | exact Tx.n_Partition_pages (by assumption)
  | exact Tx.n_Partition_start (by assumption)
  | exact Tx.n_Config_partitions (by assumption)
  | exact Tx.n_Config_frames (by assumption)
  | exact Tx.n_Config_channels (by assumption)
  | exact Tx.n_Config_shares (by assumption)
  | exact Tx.n_Config_devices (by assumption)
  | exact Tx.n_Config_flows (by assumption))
local macro_rules | `(tactic| walk_at "ne") => `(tactic| first
  | assumption
  | exact Ne.symm (by assumption)
  | exact M.ne_il (by assumption) (by assumption)
  | exact M.ne_li (by assumption) (by assumption))
local macro_rules | `(tactic| walk_at "hp0") => `(tactic| assumption)
local macro_rules | `(tactic| walk_at "s") => `(tactic| first
  | with_reducible refine M.x_gsub ?_
  | with_reducible refine M.x_gnil ?_
  | with_reducible refine M.x_gcons ?_
  | ((with_reducible refine' M.x_gtup ?xh ?xl ?_); (case xh => walk_at "sqt"); (case xl => exact rfl))
  | with_reducible refine M.x_fld ?_
  | ((with_reducible refine' M.x_isFld ?xh ?xc ?xn ?xl ?_); (case xh => walk_at "hp"); (case xc => walk_at "cls"); (case xn => walk_at "noat"); (case xl => exact rfl))
  | with_reducible refine M.x_sfld ?_
  | with_reducible refine M.x_meth ?_
  | with_reducible refine M.x_methS ?_
  | ((with_reducible refine' M.x_isMeth ?xh ?xl ?_); (case xh => walk_at "hp"); (case xl => exact rfl))
  | with_reducible refine M.x_make ?_
  | with_reducible refine M.x_dget ?_
  | ((with_reducible refine' M.x_isDG ?xh ?xl ?_); (case xh => walk_at "hp"); (case xl => exact rfl))
  | with_reducible refine M.x_dput ?_
  | with_reducible refine M.x_mkE2 ?_
  | with_reducible refine M.x_tryO ?_
  | with_reducible refine M.x_fldaug ?_
  | with_reducible refine M.x_turn ?_)
local macro_rules | `(tactic| walk_at "hp") => `(tactic| first
  | assumption
  | exact upd_same
  | ((refine' M.Ext.at1 ?xe ?xn ?xq); (case xe => assumption); (case xn => walk_at "ne"); (case xq => walk_at "hp"))
  | ((refine' M.same_hp ?xe ?xq); (case xe => assumption); (case xq => walk_at "hp")))
local macro_rules | `(tactic| walk_at "seq") => `(tactic| first
  | assumption
  | ((refine' SqL.of ?xq); (case xq => walk_at "hp")))
local macro_rules | `(tactic| walk_at "at") => `(tactic| first
  | assumption
  | with_reducible exact M.atI_ints (by first | decide | omega) (by omega)
  | with_reducible exact M.atI_ints (by first | decide | omega) (by simp; omega)
  | exact rfl)
local macro_rules | `(tactic| walk_at "s") => `(tactic| ((with_reducible refine' M.x_setI ?xh ?x0 ?x1 ?_); (case xh => walk_at "hp"); (case x0 => omega); (case x1 => first | omega | (simp only [List.length_set]; omega))))

local macro_rules | `(tactic| walk_at "s") => `(tactic| first
  | ((with_reducible refine' M.x_lenLI ?xh ?_); (case xh => walk_at "seq"))
  | ((with_reducible refine' M.x_lenTI ?xh ?_); (case xh => walk_at "sqt")))
local macro_rules | `(tactic| walk_at "gn") => `(tactic| first
  | with_reducible refine M.x_gn0 ?_
  | with_reducible refine M.x_gn1 ?_
  | with_reducible refine M.x_gn2 ?_
  | with_reducible refine M.x_gn3 ?_
  | with_reducible refine M.x_gn4 ?_
  | with_reducible refine M.x_gn5 ?_
  | with_reducible refine M.x_gn6 ?_
  | with_reducible refine M.x_gn7 ?_
  | with_reducible refine M.x_gn8 ?_
  | with_reducible refine M.x_gn9 ?_
  | with_reducible refine M.x_gn10 ?_
  | with_reducible refine M.x_gn11 ?_
  | with_reducible refine M.x_gn12 ?_
  | with_reducible refine M.x_gn13 ?_
  | with_reducible refine M.x_gn14 ?_
  | with_reducible refine M.x_gn15 ?_
  | with_reducible refine M.x_gn16 ?_
  | with_reducible refine M.x_gn17 ?_
  | with_reducible refine M.x_gn18 ?_
  | with_reducible refine M.x_gn19 ?_
  | with_reducible refine M.x_gn20 ?_
  | with_reducible refine M.x_gn21 ?_
  | with_reducible refine M.x_gn22 ?_
  | with_reducible refine M.x_gn23 ?_
  | with_reducible refine M.x_gn24 ?_
  | with_reducible refine M.x_gn25 ?_)
local macro_rules | `(tactic| walk_at "s") => `(tactic| walk_at "gn")

local macro_rules | `(tactic| walk_at "s") => `(tactic| first
  | with_reducible refine M.x_lcI ?_
  | with_reducible refine M.x_isOI ?_
  | with_reducible refine M.x_part ?_
  | with_reducible refine M.x_noPart ?_
  | with_reducible refine M.x_sl ?_
  | ((with_reducible refine' M.x_slL ?xh ?_); (case xh => walk_at "seq"))
  | with_reducible refine M.x_pnil ?_
  | with_reducible refine M.x_pcons ?_
  | with_reducible refine M.x_disp ?_)

local macro_rules | `(tactic| walk_at "s") => `(tactic| first
  | ((with_reducible refine' M.x_setI ?xh ?x0 ?x1 ?_); (case xh => walk_at "hp"); (case x0 => first | decide | omega); (case x1 => first | decide | (simp only [List.length_set, List.length_cons, List.length_nil]; omega)))
  | with_reducible refine M.x_tYes ?_
  | with_reducible refine M.x_forRI ?_
  | with_reducible refine M.x_forLI ?_
  | with_reducible refine M.x_forTI ?_
  | with_reducible refine M.x_lcRI ?_
  | with_reducible refine M.x_lcLI ?_
  | with_reducible refine M.x_lcTI ?_)

section conf0
/-! ## the state of the draws -/
def SqKc (K : PySem.W.Frag) (a : Addr) (xs : List V) : Prop := ∃ (o : Obj) (its : Array Value) (n : Nat), K.lookup a = some o ∧ o.cls = .type "list" ∧ o.dict = none ∧ o.data = .seq its n ∧ its.size ≤ sizeLine ∧ Vals xs its.toList
/-- an address that the draws do not read -/
def Off (K : PySem.W.Frag) (st a : Addr) (ns : List Int) (D : Addr) : Prop := D ≠ st ∧ (D ≠ a ∨ SqKc K a (ns.map V.int))
structure Dr (K : PySem.W.Frag) (st a : Addr) (ns : List Int) (H : Hp) : Prop where
  stt : ∃ p v : Int, 0 ≤ p ∧ 0 ≤ v ∧ H st = some (.lst (([p, v] : List Int).map V.int))
  sc : SqL K H a (ns.map V.int)
  nea : a ≠ st ∨ SqKc K a (ns.map V.int)
  len : ns.length ≤ 63
theorem Dr.same {K : PySem.W.Frag} {st a : Addr} {ns : List Int} {H H' : Hp} (d : Dr K st a ns H) (e : Same H H') : Dr K st a ns H' := by
  obtain ⟨p, v, h0, h1, h2⟩ := d.stt
  exact ⟨⟨p, v, h0, h1, e _ _ h2⟩, e.seq d.sc, d.nea, d.len⟩
theorem Dr.off {K : PySem.W.Frag} {st a D : Addr} {ns : List Int} {H : Hp} (d : Dr K st a ns H) (h : H D = none) : Off K st a ns D := by
  obtain ⟨p, v, _, _, h2⟩ := d.stt
  refine ⟨fun q => by (subst q; rw [h] at h2; cases h2), ?_⟩
  rcases d.sc with (q | ⟨o, q⟩) | q
  · exact .inl fun z => by subst z; rw [h] at q; cases q
  · exact .inl fun z => by subst z; rw [h] at q; cases q
  · exact .inr q
theorem Dr.ext {K : PySem.W.Frag} {st a D : Addr} {ns : List Int} {H H' : Hp} (d : Dr K st a ns H) (e : M.Ext [D] H H') (o : Off K st a ns D) : Dr K st a ns H' := by
  obtain ⟨p, v, h0, h1, h2⟩ := d.stt
  refine ⟨⟨p, v, h0, h1, e.at1 (Ne.symm o.1) h2⟩, ?_, d.nea, d.len⟩
  rcases o.2 with q | q
  · exact e.seq (by simpa using Ne.symm q) d.sc
  · exact .inr q
theorem Dr.put {K : PySem.W.Frag} {st a : Addr} {ns : List Int} {H H' : Hp} {p v : Int} (d : Dr K st a ns H) (e : M.Ext [st] H H') (h0 : 0 ≤ p) (h1 : 0 ≤ v) (h : H' st = some (.lst (([p, v] : List Int).map V.int))) : Dr K st a ns H' := by
  refine ⟨⟨p, v, h0, h1, h⟩, ?_, d.nea, d.len⟩
  rcases d.nea with q | q
  · exact e.seq (by simpa using q) d.sc
  · exact .inr q
theorem Dr.kp {K : PySem.W.Frag} {st a : Addr} {ns : List Int} {H H' : Hp} (d : Dr K st a ns H) (e : M.Ext [st] H H') : M.Kp H H' := by
  obtain ⟨p, v, _, _, h⟩ := d.stt
  exact M.Kp.lst e h
theorem Dr.new {K : PySem.W.Frag} {st a : Addr} {ns : List Int} {H H0 : Hp} (h : H st = some (.lst (([0, 0] : List Int).map V.int))) (h0 : H0 st = none) (e : Same H0 H) (hs : SqL K H0 a (ns.map V.int)) (hl : ns.length ≤ 63) : Dr K st a ns H := by
  refine ⟨⟨0, 0, by decide, by decide, h⟩, e.seq hs, ?_, hl⟩
  rcases hs with (q | ⟨o, q⟩) | q
  · exact .inl fun z => by subst z; rw [h0] at q; cases q
  · exact .inl fun z => by subst z; rw [h0] at q; cases q
  · exact .inr q
variable {P : Program} {w : World} {K : PySem.W.Frag} {mg : Str → Option Value} {base : Heap}
/-- a number drawn -/
def sp__law_draw (K : PySem.W.Frag) : Sp := fun vs H Q _ => ∃ (st a : Addr) (ns : List Int) (z : Int), vs = [.ref st, .ref a, .int z] ∧ Dr K st a ns H ∧ 0 < z ∧ z ≤ 1000000 ∧ ∀ (d : Int) (H' : Hp), 0 ≤ d → d < z → M.Ext [st] H H' → Dr K st a ns H' → M.Kp H H' → Q (.int d) H'
theorem go__law_draw {st a : Addr} {ns : List Int} {z : Int} {H : Hp} {Q : VK} {E : XK} (d : Dr K st a ns H) (hz : 0 < z ∧ z ≤ 1000000) (k : ∀ (d : Int) (H' : Hp), 0 ≤ d → d < z → M.Ext [st] H H' → Dr K st a ns H' → M.Kp H H' → Q (.int d) H') : sp__law_draw K [.ref st, .ref a, .int z] H Q E := ⟨st, a, ns, z, rfl, d, hz.1, hz.2, k⟩
abbrev M.N__law_draw : List Str := ["state", "script", "size", "cell", "mixed", "digit"]
theorem sc__law_draw : FnScope M.N__law_draw ["state", "script", "size"] (defScope s__law_draw) := ⟨rfl, rfl, rfl, by decide +kernel, rfl, by decide +kernel, by decide +kernel⟩
theorem ok__law_draw (T : Tx K mg) : C8.Cal P w K mg base 1 "_law_draw" (sp__law_draw K) [] := by
  refine M.cal_mk T.f__law_draw T.g__law_draw sc__law_draw (fun _ _ _ _ _ _ us hl => match us, hl with | [_, _, _], _ => rfl) (by rintro vs H Q E ⟨st, a, ns, z, rfl, _⟩; rfl) fun cdv A outer s H vs Q E hr h => ?_
  obtain ⟨st, a, ns, z, rfl, D, hz, hz2, k⟩ := h
  refine ⟨_, (C8.pss_cut (ps_if (pt_cmpR op_eq (pe_ix ix_list (pv 0) pe_int (fun _ _ => rfl)) pe_int (nomark _)) (pss_cons (ps_set (i := 3) sc__law_draw.nd rfl (Or.inl rfl) pe_int) (C8.pss_cut (ps_if (pt_cmpR op_gt (pe_callB M.call_len (by rfl) T.b_len (by decide +kernel) (pa_cons (pv 1) pa_nil)) pe_int (nomark _)) (pss_one (ps_set (i := 3) sc__law_draw.nd rfl (Or.inl rfl) (pe_ix ix_list (pv 1) (pe_op op_mod (pe_ix ix_list (pv 0) pe_int (fun _ _ => rfl)) (pe_callB M.call_len (by rfl) T.b_len (by decide +kernel) (pa_cons (pv 1) pa_nil))) (fun _ _ => rfl)))) pss_nil) (C8.pss_cut (ps_if (pt_cmpR op_lt (pv 3) pe_int (nomark _)) (pss_one (ps_set (i := 3) sc__law_draw.nd rfl (Or.inl rfl) (pe_op op_sub pe_int (pe_op op_mul pe_int (pv 3))))) pss_nil) (pss_cons (ps_set (i := 4) sc__law_draw.nd rfl (Or.inl rfl) (pe_op op_mod (pe_callTy M.call_int (by rfl) T.b_int (by decide +kernel) (pa_cons (pe_op op_mul (pe_op op_add (pe_op op_add (pv 3) (pe_op op_mul (pe_ix ix_list (pv 0) pe_int (fun _ _ => rfl)) pe_int)) pe_int) pe_int) pa_nil)) pe_int)) (pss_cons (ps_asg (pe_op op_mod (pe_callTy M.call_int (by rfl) T.b_int (by decide +kernel) (pa_cons (pe_op op_add (pe_op op_mul (pv 4) pe_int) (pe_op op_mul (pe_ix ix_list (pv 0) pe_int (fun _ _ => rfl)) pe_int)) pa_nil)) pe_int) (pg_sub (pv 0) pe_int set_list)) (C8.pss_cut (ps_if (PW.pt (pw_and (pt_cmpR op_ge (pv 3) (pe_op op_pow pe_int pe_int) (nomark _)) (pw_and1 (pt_cmpR op_lt (pe_ix ix_list (pv 0) pe_int (fun _ _ => rfl)) (pe_callB M.call_len (by rfl) T.b_len (by decide +kernel) (pa_cons (pv 1) pa_nil)) (nomark _))))) (pss_one (ps_asg (pv 3) (pg_sub (pv 0) pe_int set_list))) pss_nil) (pss_one (ps_asg (pe_op op_add (pe_ix ix_list (pv 0) pe_int (fun _ _ => rfl)) pe_int) (pg_sub (pv 0) pe_int set_list))))))))) pss_nil) (pss_cons (ps_set (i := 5) sc__law_draw.nd rfl (Or.inl rfl) (pe_op op_mod (pe_callTy M.call_int (by rfl) T.b_int (by decide +kernel) (pa_cons (pe_ix ix_list (pv 0) pe_int (fun _ _ => rfl)) pa_nil)) (pv 2))) (pss_cons (ps_asg (pe_op op_fdiv (pe_ix ix_list (pv 0) pe_int (fun _ _ => rfl)) (pv 2)) (pg_sub (pv 0) pe_int set_list)) (pss_one (ps_ret (pv 5)))))), ?_⟩
  refine M.x_st (σ0 := [some _, some _, some _, none, none, none]) rfl ?_
  have sc := D.sc
  have hlen := D.len
  have put := fun (H' : Hp) p v => D.put (H' := H') (p := p) (v := v)
  obtain ⟨p, v, hp, hv, hst⟩ := D.stt
  walk_at "go"
  refine M.x_cut (fun σ' H' => ∃ (v3 v4 : Option V) (p v : Int), σ' = [some (.ref st), some (.ref a), some (.int z), v3, v4, none] ∧ 0 ≤ p ∧ 0 ≤ v ∧ M.Ext [st] H H' ∧ H' st = some (.lst (([p, v] : List Int).map V.int))) ?_ ?_
  · walk_at "go"
    refine M.x_ifD (fun c0 => ?_) (fun c0 => ?_)
    · walk_at "go"
      refine M.x_cut (fun σ' H' => ∃ c : Int, σ' = [some (.ref st), some (.ref a), some (.int z), some (.int c), none, none] ∧ H' = H) ?_ ?_
      · walk_at "go"
        refine M.x_ifD (fun c1 => ?_) (fun c1 => ?_)
        · walk_at "go"
          refine M.x_ixL sc (M.atI_ints (by show (0 : Int) ≤ p % _; exact Int.emod_nonneg _ (by omega)) (by show p % _ < _; exact Int.emod_lt_of_pos _ (by omega))) ?_
          walk_at "go"
          exact ⟨_, rfl, rfl⟩
        · walk_at "go"
          exact ⟨_, rfl, rfl⟩
      rintro σ' H' ⟨c, rfl, rfl⟩
      walk_at "go"
      refine M.x_cut (fun σ' H'' => ∃ c : Int, 0 ≤ c ∧ σ' = [some (.ref st), some (.ref a), some (.int z), some (.int c), none, none] ∧ H'' = H') ?_ ?_
      · walk_at "go"
        refine M.x_ifD (fun c1 => ?_) (fun c1 => ?_)
        · walk_at "go"
          exact ⟨_, by omega, rfl, rfl⟩
        · walk_at "go"
          exact ⟨_, by omega, rfl, rfl⟩
      rintro σ' H'' ⟨c, hc, rfl, rfl⟩
      walk_at "go"
      generalize hm : ((c + p * 7919 + 1) * 48271) % 2147483647 = m
      intro H1 e1 h1
      have h1 : H1 st = some (.lst (([p, (m * 69621 + p * 104729) % 4294967291] : List Int).map V.int)) := h1
      have sc1 := (put H1 _ _ e1 hp (Int.emod_nonneg _ (by decide)) h1).sc
      walk_at "go"
      refine M.x_cut (fun σ' H' => ∃ v : Int, σ' = [some (.ref st), some (.ref a), some (.int z), some (.int c), some (.int m), none] ∧ 0 ≤ v ∧ M.Ext [st] H1 H' ∧ H' st = some (.lst (([p, v] : List Int).map V.int))) ?_ ?_
      · walk_at "go"
        refine M.x_ifD (fun c1 => ?_) (fun c1 => ?_)
        · walk_at "go"
          refine M.x_ifD (fun c2 => ?_) (fun c2 => ?_)
          · walk_at "go"
            intro H2 e2 h2
            exact ⟨c, rfl, hc, e2, h2⟩
          · walk_at "go"
            exact ⟨_, rfl, Int.emod_nonneg _ (by decide), M.Ext.refl _ _, h1⟩
        · walk_at "go"
          exact ⟨_, rfl, Int.emod_nonneg _ (by decide), M.Ext.refl _ _, h1⟩
      rintro σ' H2 ⟨v2, rfl, hv2, e2, h2⟩
      walk_at "go"
      intro H3 e3 h3
      exact ⟨_, _, p + 1, v2, rfl, by omega, hv2, e1.trans (e2.trans e3), h3⟩
    · walk_at "go"
      exact ⟨_, _, p, v, rfl, hp, hv, M.Ext.refl _ _, hst⟩
  · rintro σ' H1 ⟨v3, v4, p1, v1, rfl, hp1, hv1, e1, h1⟩
    walk_at "go"
    intro H2 e2 h2
    have h2 : H2 st = some (.lst (([p1, v1 / z] : List Int).map V.int)) := h2
    have D2 := put H2 p1 (v1 / z) (e1.trans e2) hp1 (Int.ediv_nonneg hv1 (by omega)) h2
    walk_at "go"
    exact k _ H2 (Int.emod_nonneg _ (by omega)) (Int.emod_lt_of_pos _ hz) (e1.trans e2) D2 (D.kp (e1.trans e2))
end conf0

end K30
namespace K30
open PySem PySem.Spec PyProof.Rows L2
local macro_rules | `(tactic| walk_at "s") => `(tactic| first
  | ((with_reducible refine' M.x_var ?xv ?_); (case xv => exact rfl))
  | with_reducible refine M.x_c ?_
  | with_reducible refine M.x_op ?_
  | with_reducible refine M.x_seq ?_
  | with_reducible refine M.x_asg ?_
  | with_reducible refine M.x_gname ?_
  | with_reducible refine M.x_rI0 ?_
  | ((with_reducible refine' M.x_rI ?xc ?_); (case xc => walk_at "side"))
  | with_reducible refine M.x_call ?_
  | with_reducible refine M.x_callB ?_
  | with_reducible refine M.x_cons ?_
  | with_reducible refine M.x_nil ?_
  | with_reducible refine M.x_int ?_
  | with_reducible refine M.x_intB ?_
  | with_reducible refine M.x_ifS ?_
  | with_reducible refine M.x_test ?_
  | with_reducible refine M.x_tB ?_
  | with_reducible refine M.x_isB ?_
  | with_reducible refine M.x_ret ?_
  | with_reducible refine M.x_retN ?_
  | with_reducible refine M.x_next ?_
  | with_reducible refine M.x_brk ?_
  | with_reducible refine M.x_cont ?_
  | with_reducible refine M.x_drop ?_
  | with_reducible refine M.x_eqI ?_
  | with_reducible refine M.x_neI ?_
  | with_reducible refine M.x_eqS ?_
  | with_reducible refine M.x_neS ?_
  | with_reducible refine M.x_eqB ?_
  | with_reducible refine M.x_neB ?_
  | with_reducible refine M.x_ifT ?_
  | with_reducible refine M.x_ifF ?_
  | with_reducible refine M.x_and ?_
  | with_reducible refine M.x_or ?_
  | with_reducible refine M.x_not ?_
  | with_reducible refine M.x_ifNB ?_
  | with_reducible refine M.x_andV ?_
  | with_reducible refine M.x_orV ?_
  | with_reducible refine M.x_notV ?_
  | with_reducible refine M.x_ifE ?_
  | with_reducible refine M.x_chain ?_
  | with_reducible refine M.x_isN ?_
  | with_reducible refine M.x_notN ?_
  | with_reducible refine M.x_un ?_
  | with_reducible refine M.x_rU ?_
  | with_reducible refine M.x_max2 ?_
  | with_reducible refine M.x_min2 ?_
  | with_reducible refine M.x_isiII ?_
  | with_reducible refine M.x_isiIB ?_
  | with_reducible refine M.x_isiBB ?_
  | with_reducible refine M.x_isiSS ?_
  | ((with_reducible refine' M.x_ifTD ?xp ?_); (case xp => first | exact rfl | decide | omega))
  | ((with_reducible refine' M.x_ifFD ?xp ?_); (case xp => first | exact rfl | decide | omega))
  | with_reducible refine M.x_lst' ?_
  | with_reducible refine M.x_tup' ?_)
local macro_rules | `(tactic| walk_at "side") => `(tactic| first
  | decide
  | (show (0 : Int) < _; decide)
  | (show (0 : Int) < _; omega)
  | (show (0 : Int) ≤ _; omega)
  | (exact ⟨by decide, by decide⟩)
  | (exact ⟨by omega, by omega⟩)
  | (exact Or.inr ⟨by decide, by decide⟩)
  | (exact Or.inl ⟨by decide, by decide⟩)
  | (exact Or.inr ⟨by omega, by omega⟩)
  | (exact Or.inl ⟨by omega, by omega⟩)
  | (exact ⟨by decide, by decide, by decide⟩)
  | (exact ⟨by omega, by omega, by omega⟩))
local macro_rules | `(tactic| walk_at "go") => `(tactic| (repeat walk_at "s"))
local macro_rules | `(tactic| walk_at "hp") => `(tactic| first
  | assumption
  | exact upd_same
  | ((refine' M.same_hp ?xe ?xq); (case xe => assumption); (case xq => walk_at "hp")))
local macro_rules | `(tactic| walk_at "seq") => `(tactic| first
  | assumption
  | exact SqL.of (by assumption)
  | ((refine' Same.seq ?xe ?xq); (case xe => assumption); (case xq => walk_at "seq")))
local macro_rules | `(tactic| walk_at "sqt") => `(tactic| first
  | assumption
  | exact SqT.of (by assumption)
  | ((refine' M.Same.st ?xe ?xq); (case xe => assumption); (case xq => walk_at "sqt")))
local macro_rules | `(tactic| walk_at "at") => `(tactic| first
  | with_reducible exact M.atI_ints (by first | decide | omega) (by omega)
  | with_reducible exact M.atI_ints (by first | decide | omega) (by simp; omega)
  | exact rfl)
local macro_rules | `(tactic| walk_at "s") => `(tactic| first
  | with_reducible refine M.x_truV ?_
  | ((with_reducible refine' M.x_truL ?xh ?_); (case xh => walk_at "seq"))
  | with_reducible refine M.x_truI ?_
  | with_reducible refine M.x_isBl ?_
  | with_reducible refine M.x_notBl ?_
  | ((with_reducible refine' M.x_ixL ?xh ?xa ?_); (case xh => walk_at "seq"); (case xa => walk_at "at"))
  | ((with_reducible refine' M.x_ixT ?xh ?xa ?_); (case xh => walk_at "sqt"); (case xa => walk_at "at"))
  | ((with_reducible refine' M.x_lenL ?xh ?_); (case xh => walk_at "seq"))
  | ((with_reducible refine' M.x_lenT ?xh ?_); (case xh => walk_at "sqt"))
  | ((with_reducible refine' M.x_listL ?xh ?_); (case xh => walk_at "seq"))
  | ((with_reducible refine' M.x_newL ?xz ?_); (case xz => exact M.sl4 (by first | decide | (simp; done) | (simp; omega))))
  | ((with_reducible refine' M.x_newT ?xz ?_); (case xz => exact M.sl4 (by first | decide | (simp; done) | (simp; omega))))
  | ((with_reducible refine' M.x_cat ?xh ?xi ?xz ?_); (case xh => walk_at "hp"); (case xi => walk_at "hp"); (case xz => exact M.sl4 (by first | decide | (simp; done) | (simp; omega)))))

local macro_rules | `(tactic| walk_at "s") => `(tactic| first
  | ((with_reducible refine' M.x_inL ?xh ?xf ?xg ?_); (case xh => walk_at "seq"); (case xf => exact rfl); (case xg => first | exact rfl | exact M.flat_strsV _))
  | ((with_reducible refine' M.x_inT ?xh ?xf ?xg ?_); (case xh => walk_at "sqt"); (case xf => exact rfl); (case xg => first | exact rfl | exact M.flat_strsV _))
  | ((with_reducible refine' M.x_notInL ?xh ?xf ?xg ?_); (case xh => walk_at "seq"); (case xf => exact rfl); (case xg => first | exact rfl | exact M.flat_strsV _))
  | ((with_reducible refine' M.x_notInT ?xh ?xf ?xg ?_); (case xh => walk_at "sqt"); (case xf => exact rfl); (case xg => first | exact rfl | exact M.flat_strsV _))
  | with_reducible refine M.x_bm ?_
  | ((with_reducible refine' M.x_tyL ?xh ?_); (case xh => walk_at "seq"))
  | ((with_reducible refine' M.x_tyK ?xh ?_); (case xh => walk_at "tyk"))
  | with_reducible refine M.x_m1 ?_
  | with_reducible refine M.x_txt ?_
  | ((with_reducible refine' M.x_split ?xh ?xi ?_); (case xh => decide +kernel); (case xi => decide +kernel))
  | ((with_reducible refine' M.x_addZ ?xh ?_); (case xh => decide +kernel))
  | ((with_reducible refine' M.x_tupL ?xh ?_); (case xh => walk_at "seq"))
  | ((with_reducible refine' M.x_isiTT ?xh ?_); (case xh => walk_at "hp"))
  | with_reducible refine M.x_rz ?_
  | with_reducible refine M.x_mkE ?_
  | with_reducible refine M.x_tryAs ?_
  | with_reducible refine M.x_callS ?_
  | with_reducible refine M.x_xf ?_)
local macro_rules | `(tactic| walk_at "s") => `(tactic| first
  | with_reducible refine M.x_isN0 ?_
  | with_reducible refine M.x_isNr ?_
  | with_reducible refine M.x_isNi ?_
  | with_reducible refine M.x_isNs ?_
  | with_reducible refine M.x_notN0 ?_
  | with_reducible refine M.x_notNr ?_
  | with_reducible refine M.x_notNi ?_
  | with_reducible refine M.x_notNs ?_)
local macro_rules | `(tactic| walk_at "split") => `(tactic| (walk_at "go"; first | done | ((refine M.x_ifD (fun _ => ?_) (fun _ => ?_)) <;> walk_at "split") | ((refine M.x_if (fun _ => ?_) (fun _ => ?_)) <;> walk_at "split") | skip))
local macro_rules | `(tactic| walk_at "sqt") => `(tactic| first
  | fail
)

local macro_rules | `(tactic| walk_at "cls") => `(tactic| first
  | exact Tx.c_Partition (by assumption)
  | exact Tx.c_Config (by assumption))
local macro_rules | `(tactic| walk_at "noat") => `(tactic| first
  | exact Tx.n_Partition_image (by assumption)
  | exact Tx.n_Partition_pages (by assumption)
  | exact Tx.n_Partition_start (by assumption)
  | exact Tx.n_Config_partitions (by assumption)
  | exact Tx.n_Config_frames (by assumption)
  | exact Tx.n_Config_channels (by assumption)
  | exact Tx.n_Config_shares (by assumption)
  | exact Tx.n_Config_devices (by assumption)
  | exact Tx.n_Config_flows (by assumption))
local macro_rules | `(tactic| walk_at "ne") => `(tactic| first
  | assumption
  | exact Ne.symm (by assumption)
  | exact M.ne_il (by assumption) (by assumption)
  | exact M.ne_li (by assumption) (by assumption))
local macro_rules | `(tactic| walk_at "hp0") => `(tactic| assumption)
local macro_rules | `(tactic| walk_at "s") => `(tactic| first
  | with_reducible refine M.x_gsub ?_
  | with_reducible refine M.x_gnil ?_
  | with_reducible refine M.x_gcons ?_
  | ((with_reducible refine' M.x_gtup ?xh ?xl ?_); (case xh => walk_at "sqt"); (case xl => exact rfl))
  | with_reducible refine M.x_fld ?_
  | ((with_reducible refine' M.x_isFld ?xh ?xc ?xn ?xl ?_); (case xh => walk_at "hp"); (case xc => walk_at "cls"); (case xn => walk_at "noat"); (case xl => exact rfl))
  | with_reducible refine M.x_sfld ?_
  | with_reducible refine M.x_meth ?_
  | with_reducible refine M.x_methS ?_
  | ((with_reducible refine' M.x_isMeth ?xh ?xl ?_); (case xh => walk_at "hp"); (case xl => exact rfl))
  | with_reducible refine M.x_make ?_
  | with_reducible refine M.x_dget ?_
  | ((with_reducible refine' M.x_isDG ?xh ?xl ?_); (case xh => walk_at "hp"); (case xl => exact rfl))
  | with_reducible refine M.x_dput ?_
  | with_reducible refine M.x_mkE2 ?_
  | with_reducible refine M.x_tryO ?_
  | with_reducible refine M.x_fldaug ?_
  | with_reducible refine M.x_turn ?_)
local macro_rules | `(tactic| walk_at "hp") => `(tactic| first
  | assumption
  | exact upd_same
  | ((refine' M.Ext.at1 ?xe ?xn ?xq); (case xe => assumption); (case xn => walk_at "ne"); (case xq => walk_at "hp"))
  | ((refine' M.same_hp ?xe ?xq); (case xe => assumption); (case xq => walk_at "hp")))
local macro_rules | `(tactic| walk_at "seq") => `(tactic| first
  | assumption
  | ((refine' SqL.of ?xq); (case xq => walk_at "hp")))
local macro_rules | `(tactic| walk_at "at") => `(tactic| first
  | assumption
  | with_reducible exact M.atI_ints (by first | decide | omega) (by omega)
  | with_reducible exact M.atI_ints (by first | decide | omega) (by simp; omega)
  | exact rfl)
local macro_rules | `(tactic| walk_at "s") => `(tactic| ((with_reducible refine' M.x_setI ?xh ?x0 ?x1 ?_); (case xh => walk_at "hp"); (case x0 => omega); (case x1 => first | omega | (simp only [List.length_set]; omega))))

local macro_rules | `(tactic| walk_at "s") => `(tactic| first
  | ((with_reducible refine' M.x_lenLI ?xh ?_); (case xh => walk_at "seq"))
  | ((with_reducible refine' M.x_lenTI ?xh ?_); (case xh => walk_at "sqt")))
local macro_rules | `(tactic| walk_at "gn") => `(tactic| first
  | with_reducible refine M.x_gn0 ?_
  | with_reducible refine M.x_gn1 ?_
  | with_reducible refine M.x_gn2 ?_
  | with_reducible refine M.x_gn3 ?_
  | with_reducible refine M.x_gn4 ?_
  | with_reducible refine M.x_gn5 ?_
  | with_reducible refine M.x_gn6 ?_
  | with_reducible refine M.x_gn7 ?_
  | with_reducible refine M.x_gn8 ?_
  | with_reducible refine M.x_gn9 ?_
  | with_reducible refine M.x_gn10 ?_
  | with_reducible refine M.x_gn11 ?_
  | with_reducible refine M.x_gn12 ?_
  | with_reducible refine M.x_gn13 ?_
  | with_reducible refine M.x_gn14 ?_
  | with_reducible refine M.x_gn15 ?_
  | with_reducible refine M.x_gn16 ?_
  | with_reducible refine M.x_gn17 ?_
  | with_reducible refine M.x_gn18 ?_
  | with_reducible refine M.x_gn19 ?_
  | with_reducible refine M.x_gn20 ?_
  | with_reducible refine M.x_gn21 ?_
  | with_reducible refine M.x_gn22 ?_
  | with_reducible refine M.x_gn23 ?_
  | with_reducible refine M.x_gn24 ?_
  | with_reducible refine M.x_gn25 ?_)
local macro_rules | `(tactic| walk_at "s") => `(tactic| walk_at "gn")

local macro_rules | `(tactic| walk_at "s") => `(tactic| first
  | with_reducible refine M.x_lcI ?_
  | with_reducible refine M.x_isOI ?_
  | with_reducible refine M.x_part ?_
  | with_reducible refine M.x_noPart ?_
  | with_reducible refine M.x_sl ?_
  | ((with_reducible refine' M.x_slL ?xh ?_); (case xh => walk_at "seq"))
  | with_reducible refine M.x_pnil ?_
  | with_reducible refine M.x_pcons ?_
  | with_reducible refine M.x_disp ?_)

local macro_rules | `(tactic| walk_at "s") => `(tactic| first
  | ((with_reducible refine' M.x_setI ?xh ?x0 ?x1 ?_); (case xh => walk_at "hp"); (case x0 => first | decide | omega); (case x1 => first | decide | (simp only [List.length_set, List.length_cons, List.length_nil]; omega)))
  | with_reducible refine M.x_tYes ?_
  | with_reducible refine M.x_forRI ?_
  | with_reducible refine M.x_forLI ?_
  | with_reducible refine M.x_forTI ?_
  | with_reducible refine M.x_lcRI ?_
  | with_reducible refine M.x_lcLI ?_
  | with_reducible refine M.x_lcTI ?_)

section conf1
variable {P : Program} {w : World} {K : PySem.W.Frag} {mg : Str → Option Value} {base : Heap}
/-- drawn since H0 -/
structure Ds (K : PySem.W.Frag) (st a : Addr) (ns : List Int) (H0 H : Hp) : Prop where
  e : M.Ext [st] H0 H
  d : Dr K st a ns H
  k : M.Kp H0 H
theorem Ds.refl {K : PySem.W.Frag} {st a : Addr} {ns : List Int} {H : Hp} (d : Dr K st a ns H) : Ds K st a ns H H := ⟨M.Ext.refl _ _, d, M.Kp.refl _⟩
theorem Ds.same {K : PySem.W.Frag} {st a : Addr} {ns : List Int} {H0 H H' : Hp} (d : Ds K st a ns H0 H) (e : Same H H') : Ds K st a ns H0 H' := ⟨d.e.trans (M.Ext.of_same e), d.d.same e, d.k.trans (M.Kp.same e)⟩
theorem Ds.step {K : PySem.W.Frag} {st a : Addr} {ns : List Int} {H0 H H' : Hp} (d : Ds K st a ns H0 H) (e : Ds K st a ns H H') : Ds K st a ns H0 H' := ⟨d.e.trans e.e, e.d, d.k.trans e.k⟩
/-- a list made since H0 is changed -/
theorem Ds.put {K : PySem.W.Frag} {st a D : Addr} {ns : List Int} {H0 H H' : Hp} (d : Ds K st a ns H0 H) (e : M.Ext [D] H H') (h0 : H0 D = none) (hd : D ≠ st) (o : Off K st a ns D) : Ds K st a ns H0 H' :=
  ⟨fun b u hb hu => e b u (by have : b ≠ D := ne_of_none hu h0; simpa using this) (d.e b u hb hu), d.d.ext e o, fun b u hu f => e b u (by have : b ≠ D := ne_of_none hu h0; simpa using this) (d.k b u hu f)⟩
theorem Ds.free {K : PySem.W.Frag} {st a p : Addr} {ns : List Int} {H0 H : Hp} (d : Ds K st a ns H0 H) (h : H p = none) : H0 p = none := by
  cases hz : H0 p with
  | none => rfl
  | some o =>
    obtain ⟨q, v, _, _, h2⟩ := d.d.stt
    have : p ≠ st := fun z => by
      subst z
      rw [h] at h2
      cases h2
    have := d.e p o (by simpa using this) hz
    rw [h] at this
    cases this
theorem Ds.off {K : PySem.W.Frag} {st a p : Addr} {ns : List Int} {H0 H : Hp} (d : Ds K st a ns H0 H) (h : H p = none) : Off K st a ns p := d.d.off h
theorem go__law_draw2 {st a : Addr} {ns : List Int} {z : Int} {H0 H : Hp} {Q : VK} {E : XK} (d : Ds K st a ns H0 H) (hz : 0 < z ∧ z ≤ 1000000) (k : ∀ (d : Int) (H' : Hp), 0 ≤ d → d < z → M.Ext [st] H H' → Ds K st a ns H0 H' → Q (.int d) H') : sp__law_draw K [.ref st, .ref a, .int z] H Q E := go__law_draw d.d hz fun x H' h0 h1 e f g => k x H' h0 h1 e (d.step ⟨e, f, g⟩)
local macro_rules | `(tactic| walk_at "s") => `(tactic| ((with_reducible refine' go__law_draw2 ?xd ?xz ?_); (case xd => assumption); (case xz => first | exact ⟨by decide, by decide⟩ | exact ⟨by omega, by omega⟩)))
def lawNames : List Str := ["halt", "set", "copy", "add", "sub", "mul", "and", "or", "xor", "shl", "shr", "addi", "load", "store", "jump", "jal", "beq", "bne", "blt", "call"]
def lawWord (op : Str) (a b c : Int) : Int := (lawNames.idxOf op : Int) * 1024 + a * 128 + b * 16 + c
theorem lawWord_ok {op : Str} {a b c : Int} (h : op ∈ lawNames) (ha : 0 ≤ a ∧ a < 8) (hb : 0 ≤ b ∧ b < 8) (hc : 0 ≤ c ∧ c < 16) : 0 ≤ lawWord op a b c ∧ lawWord op a b c < 65536 := by
  have hl := List.idxOf_lt_length_of_mem h
  have e : lawNames.length = 20 := rfl
  unfold lawWord
  omega
def sp__law_word : Sp := fun vs H Q _ => ∃ (op : Str) (a b c : Int), vs = [.str op, .int a, .int b, .int c] ∧ op ∈ lawNames ∧ (0 ≤ a ∧ a < 8) ∧ (0 ≤ b ∧ b < 8) ∧ (0 ≤ c ∧ c < 16) ∧ ∀ H', Same H H' → Q (.int (lawWord op a b c)) H'
theorem go__law_word {op : Str} {a b c : Int} {H : Hp} {Q : VK} {E : XK} (h : op ∈ lawNames) (ha : 0 ≤ a ∧ a < 8) (hb : 0 ≤ b ∧ b < 8) (hc : 0 ≤ c ∧ c < 16) (k : ∀ (r : Int) H', Same H H' → 0 ≤ r ∧ r < 65536 → Q (.int r) H') : sp__law_word [.str op, .int a, .int b, .int c] H Q E := ⟨op, a, b, c, rfl, h, ha, hb, hc, fun H' e => k _ H' e (lawWord_ok h ha hb hc)⟩
abbrev M.N__law_word : List Str := ["op", "a", "b", "c", "names"]
theorem sc__law_word : FnScope M.N__law_word ["op", "a", "b", "c"] (defScope s__law_word) := ⟨rfl, rfl, rfl, by decide +kernel, rfl, by decide +kernel, by decide +kernel⟩
theorem ok__law_word (T : Tx K mg) : C8.Cal P w K mg base 1 "_law_word" sp__law_word [] := by
  refine M.cal_mk T.f__law_word T.g__law_word sc__law_word (fun _ _ _ _ _ _ us hl => match us, hl with | [_, _, _, _], _ => rfl) (by rintro vs H Q E ⟨op, a, b, c, rfl, _⟩; rfl) fun cdv A outer s H vs Q E hr h => ?_
  obtain ⟨op, a, b, c, rfl, hop, ha, hb, hc, k⟩ := h
  refine ⟨_, (pss_cons (ps_set (i := 4) sc__law_word.nd rfl (Or.inl rfl) (pe_lst (pa_cons pe_str (pa_cons pe_str (pa_cons pe_str (pa_cons pe_str (pa_cons pe_str (pa_cons pe_str (pa_cons pe_str (pa_cons pe_str (pa_cons pe_str (pa_cons pe_str (pa_cons pe_str (pa_cons pe_str (pa_cons pe_str (pa_cons pe_str (pa_cons pe_str (pa_cons pe_str (pa_cons pe_str (pa_cons pe_str (pa_cons pe_str (pa_cons pe_str pa_nil)))))))))))))))))))))) (pss_one (ps_ret (pe_op op_add (pe_op op_add (pe_op op_add (pe_op op_shl (pe_bm PySem.F.plainAttrs_list PySem.F.slot_list_index PySem.F.type_list_index mt_index (pv 4) (pa_cons (pv 0) pa_nil)) pe_int) (pe_op op_shl (pv 1) pe_int)) (pe_op op_shl (pv 2) pe_int)) (pv 3))))), ?_⟩
  refine M.x_st (σ0 := [some _, some _, some _, some _, none]) rfl ?_
  walk_at "go"
  intro p H1 hp e1 h1
  walk_at "go"
  refine M.x_lidx (l := lawNames) (SqL.of h1) hop ?_
  walk_at "go"
  have hl : lawNames.idxOf op < 20 := List.idxOf_lt_length_of_mem hop
  have hk := k _ e1
  unfold lawWord at hk
  generalize hx : ((lawNames.idxOf op : Nat) : Int) = x at hk ⊢
  have hx0 : 0 ≤ x ∧ x < 20 := by omega
  refine M.x_rI (C := CPow) (show CPow x 10 from ⟨by decide, by decide, by omega⟩) ?_
  walk_at "go"
  rw [show (2 : Int) ^ Int.toNat 10 = 1024 from rfl, show (2 : Int) ^ Int.toNat 7 = 128 from rfl, show (2 : Int) ^ Int.toNat 4 = 16 from rfl]
  exact hk
/-- a list of words, new -/
def W16s (l : List Int) : Prop := ∀ x ∈ l, 0 ≤ x ∧ x < 65536
theorem W16s.app {l m : List Int} (a : W16s l) (b : W16s m) : W16s (l ++ m) := fun x hx => (List.mem_append.mp hx).elim (a x) (b x)
/-- draws, then a new list of words of at most n -/
def sp__law_line (K : PySem.W.Frag) : Sp := fun vs H Q _ => ∃ (st a : Addr) (ns : List Int) (z : Int), vs = [.ref st, .ref a, .int z] ∧ Dr K st a ns H ∧ (0 ≤ z ∧ z ≤ 20) ∧ ∀ (p : Addr) (l : List Int) (H' : Hp), H p = none → Ds K st a ns H H' → H' p = some (.lst (l.map V.int)) → W16s l → l.length ≤ 3 → Q (.ref p) H'
theorem go__law_line {st a : Addr} {ns : List Int} {z : Int} {H0 H : Hp} {Q : VK} {E : XK} (d : Ds K st a ns H0 H) (hz : 0 ≤ z ∧ z ≤ 20) (k : ∀ (p : Addr) (l : List Int) (H' : Hp), H p = none → M.Ext [st] H H' → Ds K st a ns H0 H' → H' p = some (.lst (l.map V.int)) → W16s l → l.length ≤ 3 → Q (.ref p) H') : sp__law_line K [.ref st, .ref a, .int z] H Q E := ⟨st, a, ns, z, rfl, d.d, hz, fun p l H' h e => k p l H' h e.e (d.step e)⟩
theorem W16s.of1 {x : Int} (h : 0 ≤ x ∧ x < 65536) : W16s [x] := fun y hy => by rw [List.mem_singleton.mp hy]; exact h
theorem W16s.cons {x : Int} {l : List Int} (h : 0 ≤ x ∧ x < 65536) (k : W16s l) : W16s (x :: l) := fun y hy => by
  rcases List.mem_cons.mp hy with rfl | hy
  · exact h
  · exact k y hy
theorem W16s.nil : W16s [] := fun y hy => by cases hy
theorem getD_mem {l : List Str} {i : Nat} (h : i < l.length) : l.getD i "" ∈ l := by
  rw [List.getD_eq_getElem?_getD, List.getElem?_eq_getElem h]
  exact List.getElem_mem h
abbrev M.N__law_line : List Str := ["state", "script", "seen", "pick", "a", "b", "c", "op", "place", "channel", "call"]
theorem sc__law_line : FnScope M.N__law_line ["state", "script", "seen"] (defScope s__law_line) := ⟨rfl, rfl, rfl, by decide +kernel, rfl, by decide +kernel, by decide +kernel⟩
local macro_rules | `(tactic| walk_at "s") => `(tactic| ((with_reducible refine' go__law_word ?xn ?xa ?xb ?xc ?_); (case xn => first | decide | assumption); (case xa => first | exact ⟨by decide, by decide⟩ | exact ⟨by omega, by omega⟩); (case xb => first | exact ⟨by decide, by decide⟩ | exact ⟨by omega, by omega⟩); (case xc => first | exact ⟨by decide, by decide⟩ | exact ⟨by omega, by omega⟩)))
theorem ok__law_line (T : Tx K mg) : C8.Cal P w K mg base 2 "_law_line" (sp__law_line K) [] := by
  refine M.cal_mk T.f__law_line T.g__law_line sc__law_line (fun _ _ _ _ _ _ us hl => match us, hl with | [_, _, _], _ => rfl) (by rintro vs H Q E ⟨st, a, ns, z, rfl, _⟩; rfl) fun cdv A outer s H vs Q E hr h => ?_
  obtain ⟨st, a, ns, z, rfl, D, hz, k⟩ := h
  refine ⟨_, (pss_cons (ps_set (i := 3) sc__law_line.nd rfl (Or.inl rfl) (C8.pe_c (ok__law_draw T) hr (by decide) (by rfl) (pa_cons (pv 0) (pa_cons (pv 1) (pa_cons pe_int pa_nil))))) (pss_cons (ps_set (i := 4) sc__law_line.nd rfl (Or.inl rfl) (C8.pe_c (ok__law_draw T) hr (by decide) (by rfl) (pa_cons (pv 0) (pa_cons (pv 1) (pa_cons pe_int pa_nil))))) (pss_cons (ps_set (i := 5) sc__law_line.nd rfl (Or.inl rfl) (C8.pe_c (ok__law_draw T) hr (by decide) (by rfl) (pa_cons (pv 0) (pa_cons (pv 1) (pa_cons pe_int pa_nil))))) (pss_cons (ps_set (i := 6) sc__law_line.nd rfl (Or.inl rfl) (C8.pe_c (ok__law_draw T) hr (by decide) (by rfl) (pa_cons (pv 0) (pa_cons (pv 1) (pa_cons pe_int pa_nil))))) (pss_cons (ps_if (pt_cmpR op_lt (pv 3) pe_int (nomark _)) (pss_cons (ps_set (i := 7) sc__law_line.nd rfl (Or.inl rfl) (pe_ix ix_list (pe_lst (pa_cons pe_str (pa_cons pe_str (pa_cons pe_str (pa_cons pe_str (pa_cons pe_str (pa_cons pe_str (pa_cons pe_str pa_nil)))))))) (C8.pe_c (ok__law_draw T) hr (by decide) (by rfl) (pa_cons (pv 0) (pa_cons (pv 1) (pa_cons pe_int pa_nil)))) (fun _ _ => rfl))) (pss_one (ps_ret (pe_lst (pa_cons (C8.pe_c (ok__law_word T) hr (by decide) (by rfl) (pa_cons (pv 7) (pa_cons (pv 4) (pa_cons (pv 5) (pa_cons (pe_op op_mul (pv 6) (pe_callTy M.call_int (by rfl) T.b_int (by decide +kernel) (pa_cons (pe_cmpR op_ne (pv 7) pe_str (nomark _)) pa_nil))) pa_nil))))) pa_nil))))) pss_nil) (pss_cons (ps_if (pt_cmpR op_lt (pv 3) pe_int (nomark _)) (pss_one (ps_ret (pe_lst (pa_cons (C8.pe_c (ok__law_word T) hr (by decide) (by rfl) (pa_cons pe_str (pa_cons (pv 4) (pa_cons (pv 4) (pa_cons (C8.pe_c (ok__law_draw T) hr (by decide) (by rfl) (pa_cons (pv 0) (pa_cons (pv 1) (pa_cons pe_int pa_nil)))) pa_nil))))) pa_nil)))) pss_nil) (pss_cons (ps_if (pt_cmpR op_lt (pv 3) pe_int (nomark _)) (pss_one (ps_ret (pe_lst (pa_cons (C8.pe_c (ok__law_word T) hr (by decide) (by rfl) (pa_cons pe_str (pa_cons (pv 4) (pa_cons pe_int (pa_cons pe_int pa_nil))))) (pa_cons (C8.pe_c (ok__law_draw T) hr (by decide) (by rfl) (pa_cons (pv 0) (pa_cons (pv 1) (pa_cons pe_int pa_nil)))) pa_nil))))) pss_nil) (pss_cons (ps_if (pt_cmpR op_lt (pv 3) pe_int (nomark _)) (pss_cons (ps_set (i := 8) sc__law_line.nd rfl (Or.inl rfl) (pe_op op_add (pe_op op_mul pe_int (C8.pe_c (ok__law_draw T) hr (by decide) (by rfl) (pa_cons (pv 0) (pa_cons (pv 1) (pa_cons (pe_op op_add (pv 2) pe_int) pa_nil))))) (C8.pe_c (ok__law_draw T) hr (by decide) (by rfl) (pa_cons (pv 0) (pa_cons (pv 1) (pa_cons pe_int pa_nil)))))) (pss_cons (ps_set (i := 7) sc__law_line.nd rfl (Or.inl rfl) (pe_ix ix_list (pe_lst (pa_cons pe_str (pa_cons pe_str pa_nil))) (C8.pe_c (ok__law_draw T) hr (by decide) (by rfl) (pa_cons (pv 0) (pa_cons (pv 1) (pa_cons pe_int pa_nil)))) (fun _ _ => rfl))) (pss_one (ps_ret (pe_lst (pa_cons (C8.pe_c (ok__law_word T) hr (by decide) (by rfl) (pa_cons pe_str (pa_cons pe_int (pa_cons pe_int (pa_cons pe_int pa_nil))))) (pa_cons (pv 8) (pa_cons (C8.pe_c (ok__law_word T) hr (by decide) (by rfl) (pa_cons (pv 7) (pa_cons (pv 4) (pa_cons pe_int (pa_cons pe_int pa_nil))))) pa_nil)))))))) pss_nil) (pss_cons (ps_if (pt_cmpR op_lt (pv 3) pe_int (nomark _)) (pss_cons (ps_set (i := 9) sc__law_line.nd rfl (Or.inl rfl) (C8.pe_c (ok__law_draw T) hr (by decide) (by rfl) (pa_cons (pv 0) (pa_cons (pv 1) (pa_cons pe_int pa_nil))))) (pss_cons (ps_set (i := 10) sc__law_line.nd rfl (Or.inl rfl) (pe_ix ix_list (pe_lst (pa_cons pe_int (pa_cons pe_int (pa_cons pe_int (pa_cons pe_int (pa_cons pe_int (pa_cons pe_int pa_nil))))))) (C8.pe_c (ok__law_draw T) hr (by decide) (by rfl) (pa_cons (pv 0) (pa_cons (pv 1) (pa_cons pe_int pa_nil)))) (fun _ _ => rfl))) (pss_one (ps_ret (pe_lst (pa_cons (C8.pe_c (ok__law_word T) hr (by decide) (by rfl) (pa_cons pe_str (pa_cons pe_int (pa_cons pe_int (pa_cons pe_int pa_nil))))) (pa_cons (pv 9) (pa_cons (C8.pe_c (ok__law_word T) hr (by decide) (by rfl) (pa_cons pe_str (pa_cons pe_int (pa_cons pe_int (pa_cons (pv 10) pa_nil))))) pa_nil)))))))) pss_nil) (pss_cons (ps_if (pt_cmpR op_lt (pv 3) pe_int (nomark _)) (pss_cons (ps_set (i := 7) sc__law_line.nd rfl (Or.inl rfl) (pe_ix ix_list (pe_lst (pa_cons pe_str (pa_cons pe_str (pa_cons pe_str pa_nil)))) (C8.pe_c (ok__law_draw T) hr (by decide) (by rfl) (pa_cons (pv 0) (pa_cons (pv 1) (pa_cons pe_int pa_nil)))) (fun _ _ => rfl))) (pss_one (ps_ret (pe_lst (pa_cons (C8.pe_c (ok__law_word T) hr (by decide) (by rfl) (pa_cons (pv 7) (pa_cons (pv 4) (pa_cons (pv 5) (pa_cons (C8.pe_c (ok__law_draw T) hr (by decide) (by rfl) (pa_cons (pv 0) (pa_cons (pv 1) (pa_cons pe_int pa_nil)))) pa_nil))))) pa_nil))))) pss_nil) (pss_cons (ps_if (PW.pt (pw_and (pt_cmpR op_eq (pv 3) pe_int (nomark _)) (pw_and1 (pt_cmpR op_eq (C8.pe_c (ok__law_draw T) hr (by decide) (by rfl) (pa_cons (pv 0) (pa_cons (pv 1) (pa_cons pe_int pa_nil)))) pe_int (nomark _))))) (pss_one (ps_ret (pe_lst (pa_cons (pe_ix ix_list (pe_lst (pa_cons (C8.pe_c (ok__law_word T) hr (by decide) (by rfl) (pa_cons pe_str (pa_cons pe_int (pa_cons pe_int (pa_cons pe_int pa_nil))))) (pa_cons pe_int (pa_cons (C8.pe_c (ok__law_word T) hr (by decide) (by rfl) (pa_cons pe_str (pa_cons pe_int (pa_cons pe_int (pa_cons pe_int pa_nil))))) (pa_cons (C8.pe_c (ok__law_draw T) hr (by decide) (by rfl) (pa_cons (pv 0) (pa_cons (pv 1) (pa_cons pe_int pa_nil)))) pa_nil))))) (C8.pe_c (ok__law_draw T) hr (by decide) (by rfl) (pa_cons (pv 0) (pa_cons (pv 1) (pa_cons pe_int pa_nil)))) (fun _ _ => rfl)) pa_nil)))) pss_nil) (pss_cons (ps_if (pt_cmpR op_eq (pv 3) pe_int (nomark _)) (pss_one (ps_ret (pe_lst (pa_cons (C8.pe_c (ok__law_word T) hr (by decide) (by rfl) (pa_cons pe_str (pa_cons pe_int (pa_cons pe_int (pa_cons pe_int pa_nil))))) (pa_cons pe_int (pa_cons (C8.pe_c (ok__law_word T) hr (by decide) (by rfl) (pa_cons pe_str (pa_cons pe_int (pa_cons pe_int (pa_cons pe_int pa_nil))))) pa_nil)))))) pss_nil) (pss_one (ps_ret (pe_lst (pa_cons (C8.pe_c (ok__law_word T) hr (by decide) (by rfl) (pa_cons pe_str (pa_cons pe_int (pa_cons (pv 4) (pa_cons pe_int pa_nil))))) pa_nil)))))))))))))))), ?_⟩
  refine M.x_st (σ0 := [some _, some _, some _, none, none, none, none, none, none, none, none]) rfl ?_
  have D0 := Ds.refl D
  walk_at "go"
  intro d1 H1 l1 u1 _ D1
  walk_at "go"
  intro d2 H2 l2 u2 _ D2
  walk_at "go"
  intro d3 H3 l3 u3 _ D3
  walk_at "go"
  intro d4 H4 l4 u4 _ D4
  walk_at "go"
  refine M.x_ifD (fun c1 => ?_) (fun c1 => ?_)
  · walk_at "go"
    intro p5 H5 hp5 e5 h5
    have D5 := D4.same e5
    walk_at "go"
    intro d6 H6 l6 u6 e6 D6
    walk_at "go"
    have h6 := e6.at1 (D4.off hp5).1 h5
    refine M.x_ixL (xs := (["add", "sub", "mul", "xor", "and", "or", "copy"] : List Str).map V.str) (SqL.of h6) (M.atI_strs l6 (by show _ < ((7 : Nat) : Int); omega)) ?_
    have hop : (["add", "sub", "mul", "xor", "and", "or", "copy"] : List Str).getD d6.toNat "" ∈ lawNames := by
      have hd : d6.toNat < 7 := by omega
      generalize d6.toNat = n at hd
      match n, hd with
      | 0, _ => decide
      | 1, _ => decide
      | 2, _ => decide
      | 3, _ => decide
      | 4, _ => decide
      | 5, _ => decide
      | 6, _ => decide
    generalize (["add", "sub", "mul", "xor", "and", "or", "copy"] : List Str).getD d6.toNat "" = op at hop
    walk_at "go"
    have hb : 0 ≤ (if decide (op ≠ "copy") = true then (1 : Int) else 0) ∧ (if decide (op ≠ "copy") = true then (1 : Int) else 0) ≤ 1 := by split <;> omega
    generalize (if decide (op ≠ "copy") = true then (1 : Int) else 0) = b at hb ⊢
    have hc : 0 ≤ d4 * b ∧ d4 * b < 16 := by
      rcases (show b = 0 ∨ b = 1 by omega) with rfl | rfl <;> omega
    walk_at "go"
    intro r H7 e7 hr
    walk_at "go"
    intro p8 H8 hp8 e8 h8
    exact k p8 [r] H8 (D6.free (e7.free hp8)) (D6.same (e7.trans e8)) h8 (W16s.of1 hr) (Nat.le_of_ble_eq_true rfl)
  walk_at "go"
  refine M.x_ifD (fun c2 => ?_) (fun c2 => ?_)
  · walk_at "go"
    intro d6 H6 l6 u6 e6 D6
    walk_at "go"
    intro r H7 e7 hr
    walk_at "go"
    intro p8 H8 hp8 e8 h8
    exact k p8 [r] H8 (D6.free (e7.free hp8)) (D6.same (e7.trans e8)) h8 (W16s.of1 hr) (Nat.le_of_ble_eq_true rfl)
  walk_at "go"
  refine M.x_ifD (fun c3 => ?_) (fun c3 => ?_)
  · walk_at "go"
    intro r H7 e7 hr
    have D7 := D4.same e7
    walk_at "go"
    intro d6 H6 l6 u6 e6 D6
    walk_at "go"
    intro p8 H8 hp8 e8 h8
    exact k p8 [r, d6] H8 (D6.free hp8) (D6.same e8) h8 (W16s.cons hr (W16s.of1 (by omega))) (Nat.le_of_ble_eq_true rfl)
  walk_at "go"
  refine M.x_ifD (fun c4 => ?_) (fun c4 => ?_)
  · walk_at "go"
    intro d5 H5 l5 u5 e5 D5
    walk_at "go"
    intro d6 H6 l6 u6 e6 D6
    walk_at "go"
    intro p7 H7 hp7 e7 h7
    have D7 := D6.same e7
    walk_at "go"
    intro d8 H8 l8 u8 e8 D8
    have h8 := e8.at1 (D6.off hp7).1 h7
    refine M.x_ixL (xs := (["load", "store"] : List Str).map V.str) (SqL.of h8) (M.atI_strs l8 (by show _ < ((2 : Nat) : Int); omega)) ?_
    have hop : (["load", "store"] : List Str).getD d8.toNat "" ∈ lawNames := by
      rcases (show d8.toNat = 0 ∨ d8.toNat = 1 by omega) with h | h <;> rw [h] <;> decide
    generalize (["load", "store"] : List Str).getD d8.toNat "" = op at hop
    walk_at "go"
    intro r H9 e9 hr
    walk_at "go"
    intro r2 Ha ea hr2
    walk_at "go"
    intro p8 Hb hp8 eb hb
    exact k p8 [r, 16 * d5 + d6, r2] Hb (D8.free (e9.free (ea.free hp8))) (D8.same (e9.trans (ea.trans eb))) hb (W16s.cons hr (W16s.cons (by omega) (W16s.of1 hr2))) (Nat.le_of_ble_eq_true rfl)
  walk_at "go"
  refine M.x_ifD (fun c5 => ?_) (fun c5 => ?_)
  · walk_at "go"
    intro d5 H5 l5 u5 e5 D5
    walk_at "go"
    intro p7 H7 hp7 e7 h7
    have D7 := D5.same e7
    walk_at "go"
    intro d8 H8 l8 u8 e8 D8
    have h8 := e8.at1 (D5.off hp7).1 h7
    refine M.x_ixL (xs := ([1, 1, 2, 2, 3, 0] : List Int).map V.int) (SqL.of h8) (M.atI_ints l8 (by show _ < ((6 : Nat) : Int); omega)) ?_
    have hc : 0 ≤ ([1, 1, 2, 2, 3, 0] : List Int).getD d8.toNat 0 ∧ ([1, 1, 2, 2, 3, 0] : List Int).getD d8.toNat 0 < 16 := by
      have hd : d8.toNat < 6 := by omega
      generalize d8.toNat = n at hd
      match n, hd with
      | 0, _ => decide
      | 1, _ => decide
      | 2, _ => decide
      | 3, _ => decide
      | 4, _ => decide
      | 5, _ => decide
    generalize ([1, 1, 2, 2, 3, 0] : List Int).getD d8.toNat 0 = op at hc
    walk_at "go"
    intro r H9 e9 hr
    walk_at "go"
    intro r2 Ha ea hr2
    walk_at "go"
    intro p8 Hb hp8 eb hb
    exact k p8 [r, d5, r2] Hb (D8.free (e9.free (ea.free hp8))) (D8.same (e9.trans (ea.trans eb))) hb (W16s.cons hr (W16s.cons (by omega) (W16s.of1 hr2))) (Nat.le_of_ble_eq_true rfl)
  walk_at "go"
  refine M.x_ifD (fun c6 => ?_) (fun c6 => ?_)
  · walk_at "go"
    intro p7 H7 hp7 e7 h7
    have D7 := D4.same e7
    walk_at "go"
    intro d8 H8 l8 u8 e8 D8
    have h8 := e8.at1 (D4.off hp7).1 h7
    refine M.x_ixL (xs := (["beq", "bne", "blt"] : List Str).map V.str) (SqL.of h8) (M.atI_strs l8 (by show _ < ((3 : Nat) : Int); omega)) ?_
    have hop : (["beq", "bne", "blt"] : List Str).getD d8.toNat "" ∈ lawNames := by
      rcases (show d8.toNat = 0 ∨ d8.toNat = 1 ∨ d8.toNat = 2 by omega) with h | h | h <;> rw [h] <;> decide
    generalize (["beq", "bne", "blt"] : List Str).getD d8.toNat "" = op at hop
    walk_at "go"
    intro d9 H9 l9 u9 e9 D9
    walk_at "go"
    intro r2 Ha ea hr2
    walk_at "go"
    intro p8 Hb hp8 eb hb
    exact k p8 [r2] Hb (D9.free (ea.free hp8)) (D9.same (ea.trans eb)) hb (W16s.of1 hr2) (Nat.le_of_ble_eq_true rfl)
  walk_at "go"
  have last : ∀ Hx, Ds K st a ns H Hx → tSeq (tIfS (tTest (tOp rEq (tVar 3) (tC (V.int 18)))) (tRet (tLst (tCons (tCall sp__law_word [] C8.E0 (tCons (tC (V.str "set")) (tCons (tC (V.int 7)) (tCons (tC (V.int 0)) (tCons (tC (V.int 0)) tNil))))) (tCons (tC (V.int 0)) (tCons (tCall sp__law_word [] C8.E0 (tCons (tC (V.str "jump")) (tCons (tC (V.int 7)) (tCons (tC (V.int 0)) (tCons (tC (V.int 0)) tNil))))) tNil))))) tNext)
      (tRet (tLst (tCons (tCall sp__law_word [] C8.E0 (tCons (tC (V.str "copy")) (tCons (tC (V.int 1)) (tCons (tVar 4) (tCons (tC (V.int 0)) tNil))))) tNil))) ⟨fun _ H' => Q .non H', Q, fun _ _ => False, fun _ _ => False⟩ [some (V.ref st), some (V.ref a), some (V.int z), some (V.int d1), some (V.int d2), some (V.int d3), some (V.int d4), none, none, none, none] Hx := by
    intro Hx Dx
    walk_at "go"
    refine M.x_ifD (fun c8 => ?_) (fun c8 => ?_)
    · walk_at "go"
      intro r H9 e9 hr
      walk_at "go"
      intro r2 Ha ea hr2
      walk_at "go"
      intro p8 Hb hp8 eb hb
      exact k p8 [r, 0, r2] Hb (Dx.free (e9.free (ea.free hp8))) (Dx.same (e9.trans (ea.trans eb))) hb (W16s.cons hr (W16s.cons (by omega) (W16s.of1 hr2))) (Nat.le_of_ble_eq_true rfl)
    · walk_at "go"
      intro r2 Ha ea hr2
      walk_at "go"
      intro p8 Hb hp8 eb hb
      exact k p8 [r2] Hb (Dx.free (ea.free hp8)) (Dx.same (ea.trans eb)) hb (W16s.of1 hr2) (Nat.le_of_ble_eq_true rfl)
  refine M.x_ifD (fun c7 => ?_) (fun c7 => ?_)
  · walk_at "go"
    intro d5 H5 l5 u5 e5 D5
    walk_at "go"
    refine M.x_ifD (fun c8 => ?_) (fun c8 => ?_)
    · walk_at "go"
      intro r H6 e6 hr
      walk_at "go"
      intro r2 H7 e7 hr2
      have D7 := D5.same (e6.trans e7)
      walk_at "go"
      intro d8 H8 l8 u8 e8 D8
      walk_at "go"
      intro p9 H9 hp9 e9 h9
      have D9 := D8.same e9
      walk_at "go"
      intro da Ha la ua ea Da
      have ha := ea.at1 (D8.off hp9).1 h9
      refine M.x_ixL (xs := ([r, 65535, r2, d8] : List Int).map V.int) (SqL.of ha) (M.atI_ints la (by show _ < ((4 : Nat) : Int); omega)) ?_
      have hc : 0 ≤ ([r, 65535, r2, d8] : List Int).getD da.toNat 0 ∧ ([r, 65535, r2, d8] : List Int).getD da.toNat 0 < 65536 := by
        have hd : da.toNat < 4 := by omega
        generalize da.toNat = n at hd
        match n, hd with
        | 0, _ => exact hr
        | 1, _ => exact (by decide : (0 : Int) ≤ 65535 ∧ (65535 : Int) < 65536)
        | 2, _ => exact hr2
        | 3, _ => exact ⟨l8, u8⟩
      generalize ([r, 65535, r2, d8] : List Int).getD da.toNat 0 = op at hc
      walk_at "go"
      intro pb Hb hpb eb hb
      exact k pb [op] Hb (Da.free hpb) (Da.same eb) hb (W16s.of1 hc) (Nat.le_of_ble_eq_true rfl)
    · refine M.x_next ?_
      exact last _ D5
  · refine M.x_next ?_
    exact last _ D4
end conf1

end K30
namespace K30
open PySem PySem.Spec PyProof.Rows L2
local macro_rules | `(tactic| walk_at "s") => `(tactic| first
  | ((with_reducible refine' M.x_var ?xv ?_); (case xv => exact rfl))
  | with_reducible refine M.x_c ?_
  | with_reducible refine M.x_op ?_
  | with_reducible refine M.x_seq ?_
  | with_reducible refine M.x_asg ?_
  | with_reducible refine M.x_gname ?_
  | with_reducible refine M.x_rI0 ?_
  | ((with_reducible refine' M.x_rI ?xc ?_); (case xc => walk_at "side"))
  | with_reducible refine M.x_call ?_
  | with_reducible refine M.x_callB ?_
  | with_reducible refine M.x_cons ?_
  | with_reducible refine M.x_nil ?_
  | with_reducible refine M.x_int ?_
  | with_reducible refine M.x_intB ?_
  | with_reducible refine M.x_ifS ?_
  | with_reducible refine M.x_test ?_
  | with_reducible refine M.x_tB ?_
  | with_reducible refine M.x_isB ?_
  | with_reducible refine M.x_ret ?_
  | with_reducible refine M.x_retN ?_
  | with_reducible refine M.x_next ?_
  | with_reducible refine M.x_brk ?_
  | with_reducible refine M.x_cont ?_
  | with_reducible refine M.x_drop ?_
  | with_reducible refine M.x_eqI ?_
  | with_reducible refine M.x_neI ?_
  | with_reducible refine M.x_eqS ?_
  | with_reducible refine M.x_neS ?_
  | with_reducible refine M.x_eqB ?_
  | with_reducible refine M.x_neB ?_
  | with_reducible refine M.x_ifT ?_
  | with_reducible refine M.x_ifF ?_
  | with_reducible refine M.x_and ?_
  | with_reducible refine M.x_or ?_
  | with_reducible refine M.x_not ?_
  | with_reducible refine M.x_ifNB ?_
  | with_reducible refine M.x_andV ?_
  | with_reducible refine M.x_orV ?_
  | with_reducible refine M.x_notV ?_
  | with_reducible refine M.x_ifE ?_
  | with_reducible refine M.x_chain ?_
  | with_reducible refine M.x_isN ?_
  | with_reducible refine M.x_notN ?_
  | with_reducible refine M.x_un ?_
  | with_reducible refine M.x_rU ?_
  | with_reducible refine M.x_max2 ?_
  | with_reducible refine M.x_min2 ?_
  | with_reducible refine M.x_isiII ?_
  | with_reducible refine M.x_isiIB ?_
  | with_reducible refine M.x_isiBB ?_
  | with_reducible refine M.x_isiSS ?_
  | ((with_reducible refine' M.x_ifTD ?xp ?_); (case xp => first | exact rfl | decide | omega))
  | ((with_reducible refine' M.x_ifFD ?xp ?_); (case xp => first | exact rfl | decide | omega))
  | with_reducible refine M.x_lst' ?_
  | with_reducible refine M.x_tup' ?_)
local macro_rules | `(tactic| walk_at "side") => `(tactic| first
  | decide
  | (show (0 : Int) < _; decide)
  | (show (0 : Int) < _; omega)
  | (show (0 : Int) ≤ _; omega)
  | (exact ⟨by decide, by decide⟩)
  | (exact ⟨by omega, by omega⟩)
  | (exact Or.inr ⟨by decide, by decide⟩)
  | (exact Or.inl ⟨by decide, by decide⟩)
  | (exact Or.inr ⟨by omega, by omega⟩)
  | (exact Or.inl ⟨by omega, by omega⟩)
  | (exact ⟨by decide, by decide, by decide⟩)
  | (exact ⟨by omega, by omega, by omega⟩))
local macro_rules | `(tactic| walk_at "go") => `(tactic| (repeat walk_at "s"))
local macro_rules | `(tactic| walk_at "hp") => `(tactic| first
  | assumption
  | exact upd_same
  | ((refine' M.same_hp ?xe ?xq); (case xe => assumption); (case xq => walk_at "hp")))
local macro_rules | `(tactic| walk_at "seq") => `(tactic| first
  | assumption
  | exact SqL.of (by assumption)
  | ((refine' Same.seq ?xe ?xq); (case xe => assumption); (case xq => walk_at "seq")))
local macro_rules | `(tactic| walk_at "sqt") => `(tactic| first
  | assumption
  | exact SqT.of (by assumption)
  | ((refine' M.Same.st ?xe ?xq); (case xe => assumption); (case xq => walk_at "sqt")))
local macro_rules | `(tactic| walk_at "at") => `(tactic| first
  | with_reducible exact M.atI_ints (by first | decide | omega) (by omega)
  | with_reducible exact M.atI_ints (by first | decide | omega) (by simp; omega)
  | exact rfl)
local macro_rules | `(tactic| walk_at "s") => `(tactic| first
  | with_reducible refine M.x_truV ?_
  | ((with_reducible refine' M.x_truL ?xh ?_); (case xh => walk_at "seq"))
  | with_reducible refine M.x_truI ?_
  | with_reducible refine M.x_isBl ?_
  | with_reducible refine M.x_notBl ?_
  | ((with_reducible refine' M.x_ixL ?xh ?xa ?_); (case xh => walk_at "seq"); (case xa => walk_at "at"))
  | ((with_reducible refine' M.x_ixT ?xh ?xa ?_); (case xh => walk_at "sqt"); (case xa => walk_at "at"))
  | ((with_reducible refine' M.x_lenL ?xh ?_); (case xh => walk_at "seq"))
  | ((with_reducible refine' M.x_lenT ?xh ?_); (case xh => walk_at "sqt"))
  | ((with_reducible refine' M.x_listL ?xh ?_); (case xh => walk_at "seq"))
  | ((with_reducible refine' M.x_newL ?xz ?_); (case xz => exact M.sl4 (by first | decide | (simp; done) | (simp; omega))))
  | ((with_reducible refine' M.x_newT ?xz ?_); (case xz => exact M.sl4 (by first | decide | (simp; done) | (simp; omega))))
  | ((with_reducible refine' M.x_cat ?xh ?xi ?xz ?_); (case xh => walk_at "hp"); (case xi => walk_at "hp"); (case xz => exact M.sl4 (by first | decide | (simp; done) | (simp; omega)))))

local macro_rules | `(tactic| walk_at "s") => `(tactic| first
  | ((with_reducible refine' M.x_inL ?xh ?xf ?xg ?_); (case xh => walk_at "seq"); (case xf => exact rfl); (case xg => first | exact rfl | exact M.flat_strsV _))
  | ((with_reducible refine' M.x_inT ?xh ?xf ?xg ?_); (case xh => walk_at "sqt"); (case xf => exact rfl); (case xg => first | exact rfl | exact M.flat_strsV _))
  | ((with_reducible refine' M.x_notInL ?xh ?xf ?xg ?_); (case xh => walk_at "seq"); (case xf => exact rfl); (case xg => first | exact rfl | exact M.flat_strsV _))
  | ((with_reducible refine' M.x_notInT ?xh ?xf ?xg ?_); (case xh => walk_at "sqt"); (case xf => exact rfl); (case xg => first | exact rfl | exact M.flat_strsV _))
  | with_reducible refine M.x_bm ?_
  | ((with_reducible refine' M.x_tyL ?xh ?_); (case xh => walk_at "seq"))
  | ((with_reducible refine' M.x_tyK ?xh ?_); (case xh => walk_at "tyk"))
  | with_reducible refine M.x_m1 ?_
  | with_reducible refine M.x_txt ?_
  | ((with_reducible refine' M.x_split ?xh ?xi ?_); (case xh => decide +kernel); (case xi => decide +kernel))
  | ((with_reducible refine' M.x_addZ ?xh ?_); (case xh => decide +kernel))
  | ((with_reducible refine' M.x_tupL ?xh ?_); (case xh => walk_at "seq"))
  | ((with_reducible refine' M.x_isiTT ?xh ?_); (case xh => walk_at "hp"))
  | with_reducible refine M.x_rz ?_
  | with_reducible refine M.x_mkE ?_
  | with_reducible refine M.x_tryAs ?_
  | with_reducible refine M.x_callS ?_
  | with_reducible refine M.x_xf ?_)
local macro_rules | `(tactic| walk_at "s") => `(tactic| first
  | with_reducible refine M.x_isN0 ?_
  | with_reducible refine M.x_isNr ?_
  | with_reducible refine M.x_isNi ?_
  | with_reducible refine M.x_isNs ?_
  | with_reducible refine M.x_notN0 ?_
  | with_reducible refine M.x_notNr ?_
  | with_reducible refine M.x_notNi ?_
  | with_reducible refine M.x_notNs ?_)
local macro_rules | `(tactic| walk_at "split") => `(tactic| (walk_at "go"; first | done | ((refine M.x_ifD (fun _ => ?_) (fun _ => ?_)) <;> walk_at "split") | ((refine M.x_if (fun _ => ?_) (fun _ => ?_)) <;> walk_at "split") | skip))
local macro_rules | `(tactic| walk_at "sqt") => `(tactic| first
  | fail
)

local macro_rules | `(tactic| walk_at "cls") => `(tactic| first
  | exact Tx.c_Partition (by assumption)
  | exact Tx.c_Config (by assumption))
local macro_rules | `(tactic| walk_at "noat") => `(tactic| first
  | exact Tx.n_Partition_image (by assumption)
  | exact Tx.n_Partition_pages (by assumption)
  | exact Tx.n_Partition_start (by assumption)
  | exact Tx.n_Config_partitions (by assumption)
  | exact Tx.n_Config_frames (by assumption)
  | exact Tx.n_Config_channels (by assumption)
  | exact Tx.n_Config_shares (by assumption)
  | exact Tx.n_Config_devices (by assumption)
  | exact Tx.n_Config_flows (by assumption))
local macro_rules | `(tactic| walk_at "ne") => `(tactic| first
  | assumption
  | exact Ne.symm (by assumption)
  | exact M.ne_il (by assumption) (by assumption)
  | exact M.ne_li (by assumption) (by assumption))
local macro_rules | `(tactic| walk_at "hp0") => `(tactic| assumption)
local macro_rules | `(tactic| walk_at "s") => `(tactic| first
  | with_reducible refine M.x_gsub ?_
  | with_reducible refine M.x_gnil ?_
  | with_reducible refine M.x_gcons ?_
  | ((with_reducible refine' M.x_gtup ?xh ?xl ?_); (case xh => walk_at "sqt"); (case xl => exact rfl))
  | with_reducible refine M.x_fld ?_
  | ((with_reducible refine' M.x_isFld ?xh ?xc ?xn ?xl ?_); (case xh => walk_at "hp"); (case xc => walk_at "cls"); (case xn => walk_at "noat"); (case xl => exact rfl))
  | with_reducible refine M.x_sfld ?_
  | with_reducible refine M.x_meth ?_
  | with_reducible refine M.x_methS ?_
  | ((with_reducible refine' M.x_isMeth ?xh ?xl ?_); (case xh => walk_at "hp"); (case xl => exact rfl))
  | with_reducible refine M.x_make ?_
  | with_reducible refine M.x_dget ?_
  | ((with_reducible refine' M.x_isDG ?xh ?xl ?_); (case xh => walk_at "hp"); (case xl => exact rfl))
  | with_reducible refine M.x_dput ?_
  | with_reducible refine M.x_mkE2 ?_
  | with_reducible refine M.x_tryO ?_
  | with_reducible refine M.x_fldaug ?_
  | with_reducible refine M.x_turn ?_)
local macro_rules | `(tactic| walk_at "hp") => `(tactic| first
  | assumption
  | exact upd_same
  | ((refine' M.Ext.at1 ?xe ?xn ?xq); (case xe => assumption); (case xn => walk_at "ne"); (case xq => walk_at "hp"))
  | ((refine' M.same_hp ?xe ?xq); (case xe => assumption); (case xq => walk_at "hp")))
local macro_rules | `(tactic| walk_at "seq") => `(tactic| first
  | assumption
  | ((refine' SqL.of ?xq); (case xq => walk_at "hp")))
local macro_rules | `(tactic| walk_at "at") => `(tactic| first
  | assumption
  | with_reducible exact M.atI_ints (by first | decide | omega) (by omega)
  | with_reducible exact M.atI_ints (by first | decide | omega) (by simp; omega)
  | exact rfl)
local macro_rules | `(tactic| walk_at "s") => `(tactic| ((with_reducible refine' M.x_setI ?xh ?x0 ?x1 ?_); (case xh => walk_at "hp"); (case x0 => omega); (case x1 => first | omega | (simp only [List.length_set]; omega))))

local macro_rules | `(tactic| walk_at "s") => `(tactic| first
  | ((with_reducible refine' M.x_lenLI ?xh ?_); (case xh => walk_at "seq"))
  | ((with_reducible refine' M.x_lenTI ?xh ?_); (case xh => walk_at "sqt")))
local macro_rules | `(tactic| walk_at "gn") => `(tactic| first
  | with_reducible refine M.x_gn0 ?_
  | with_reducible refine M.x_gn1 ?_
  | with_reducible refine M.x_gn2 ?_
  | with_reducible refine M.x_gn3 ?_
  | with_reducible refine M.x_gn4 ?_
  | with_reducible refine M.x_gn5 ?_
  | with_reducible refine M.x_gn6 ?_
  | with_reducible refine M.x_gn7 ?_
  | with_reducible refine M.x_gn8 ?_
  | with_reducible refine M.x_gn9 ?_
  | with_reducible refine M.x_gn10 ?_
  | with_reducible refine M.x_gn11 ?_
  | with_reducible refine M.x_gn12 ?_
  | with_reducible refine M.x_gn13 ?_
  | with_reducible refine M.x_gn14 ?_
  | with_reducible refine M.x_gn15 ?_
  | with_reducible refine M.x_gn16 ?_
  | with_reducible refine M.x_gn17 ?_
  | with_reducible refine M.x_gn18 ?_
  | with_reducible refine M.x_gn19 ?_
  | with_reducible refine M.x_gn20 ?_
  | with_reducible refine M.x_gn21 ?_
  | with_reducible refine M.x_gn22 ?_
  | with_reducible refine M.x_gn23 ?_
  | with_reducible refine M.x_gn24 ?_
  | with_reducible refine M.x_gn25 ?_)
local macro_rules | `(tactic| walk_at "s") => `(tactic| walk_at "gn")

local macro_rules | `(tactic| walk_at "s") => `(tactic| first
  | with_reducible refine M.x_lcI ?_
  | with_reducible refine M.x_isOI ?_
  | with_reducible refine M.x_part ?_
  | with_reducible refine M.x_noPart ?_
  | with_reducible refine M.x_sl ?_
  | ((with_reducible refine' M.x_slL ?xh ?_); (case xh => walk_at "seq"))
  | with_reducible refine M.x_pnil ?_
  | with_reducible refine M.x_pcons ?_
  | with_reducible refine M.x_disp ?_)

local macro_rules | `(tactic| walk_at "s") => `(tactic| first
  | ((with_reducible refine' M.x_setI ?xh ?x0 ?x1 ?_); (case xh => walk_at "hp"); (case x0 => first | decide | omega); (case x1 => first | decide | (simp only [List.length_set, List.length_cons, List.length_nil]; omega)))
  | with_reducible refine M.x_tYes ?_
  | with_reducible refine M.x_forRI ?_
  | with_reducible refine M.x_forLI ?_
  | with_reducible refine M.x_forTI ?_
  | with_reducible refine M.x_lcRI ?_
  | with_reducible refine M.x_lcLI ?_
  | with_reducible refine M.x_lcTI ?_)

section conf2
variable {P : Program} {w : World} {K : PySem.W.Frag} {mg : Str → Option Value} {base : Heap}
local macro_rules | `(tactic| walk_at "s") => `(tactic| ((with_reducible refine' go__law_draw2 ?xd ?xz ?_); (case xd => assumption); (case xz => first | exact ⟨by decide, by decide⟩ | exact ⟨by omega, by omega⟩)))
local macro_rules | `(tactic| walk_at "s") => `(tactic| ((with_reducible refine' go__law_word ?xn ?xa ?xb ?xc ?_); (case xn => first | decide | assumption); (case xa => first | exact ⟨by decide, by decide⟩ | exact ⟨by omega, by omega⟩); (case xb => first | exact ⟨by decide, by decide⟩ | exact ⟨by omega, by omega⟩); (case xc => first | exact ⟨by decide, by decide⟩ | exact ⟨by omega, by omega⟩)))
local macro_rules | `(tactic| walk_at "s") => `(tactic| ((with_reducible refine' go__law_line ?xd ?xz ?_); (case xd => assumption); (case xz => first | exact ⟨by decide, by decide⟩ | exact ⟨by omega, by omega⟩)))
/-- a new list of at most 16 words a page -/
def sp__law_image (K : PySem.W.Frag) : Sp := fun vs H Q _ => ∃ (st a : Addr) (ns : List Int) (pg z : Int), vs = [.ref st, .ref a, .int pg, .int z] ∧ Dr K st a ns H ∧ (1 ≤ pg ∧ pg ≤ 3) ∧ (0 ≤ z ∧ z ≤ 20) ∧ ∀ (p : Addr) (l : List Int) (H' : Hp), H p = none → Ds K st a ns H H' → H' p = some (.lst (l.map V.int)) → W16s l → (l.length : Int) ≤ 16 * pg → Q (.ref p) H'
theorem go__law_image {st a : Addr} {ns : List Int} {pg z : Int} {H0 H : Hp} {Q : VK} {E : XK} (d : Ds K st a ns H0 H) (hp : 1 ≤ pg ∧ pg ≤ 3) (hz : 0 ≤ z ∧ z ≤ 20) (k : ∀ (p : Addr) (l : List Int) (H' : Hp), H p = none → M.Ext [st] H H' → Ds K st a ns H0 H' → H' p = some (.lst (l.map V.int)) → W16s l → (l.length : Int) ≤ 16 * pg → Q (.ref p) H') : sp__law_image K [.ref st, .ref a, .int pg, .int z] H Q E := ⟨st, a, ns, pg, z, rfl, d.d, hp, hz, fun p l H' h e => k p l H' h e.e (d.step e)⟩
abbrev M.N__law_image : List Str := ["state", "script", "pages", "seen", "words", "k", "line"]
theorem sc__law_image : FnScope M.N__law_image ["state", "script", "pages", "seen"] (defScope s__law_image) := ⟨rfl, rfl, rfl, by decide +kernel, rfl, by decide +kernel, by decide +kernel⟩
theorem ok__law_image (T : Tx K mg) : C8.Cal P w K mg base 3 "_law_image" (sp__law_image K) [] := by
  refine M.cal_mk T.f__law_image T.g__law_image sc__law_image (fun _ _ _ _ _ _ us hl => match us, hl with | [_, _, _, _], _ => rfl) (by rintro vs H Q E ⟨st, a, ns, pg, z, rfl, _⟩; rfl) fun cdv A outer s H vs Q E hr h => ?_
  obtain ⟨st, a, ns, pg, z, rfl, D, hpg, hz, k⟩ := h
  refine ⟨_, (pss_cons (ps_set (i := 4) sc__law_image.nd rfl (Or.inl rfl) (pe_lst pa_nil)) (pss_cons (ps_for PassesOwn.never rfl (pi_range1 (by rfl) T.b_range (pa_cons (pe_op op_add pe_int (C8.pe_c (ok__law_draw T) hr (by decide) (by rfl) (pa_cons (pv 0) (pa_cons (pv 1) (pa_cons pe_int pa_nil))))) pa_nil)) (pg_name (i := 5) sc__law_image.nd rfl (Or.inl rfl)) (pss_cons (ps_set (i := 6) sc__law_image.nd rfl (Or.inl rfl) (C8.pe_c (ok__law_line T) hr (by decide) (by rfl) (pa_cons (pv 0) (pa_cons (pv 1) (pa_cons (pv 3) pa_nil))))) (pss_one (ps_if (pt_cmpR op_le (pe_op op_add (pe_callB M.call_len (by rfl) T.b_len (by decide +kernel) (pa_cons (pv 4) pa_nil)) (pe_callB M.call_len (by rfl) T.b_len (by decide +kernel) (pa_cons (pv 6) pa_nil))) (pe_op op_sub (pe_op op_mul pe_int (pv 2)) pe_int) (nomark _)) (pss_one (ps_set (i := 4) sc__law_image.nd rfl (Or.inl rfl) (pe_op op_cat (pv 4) (pv 6)))) pss_nil)))) (pss_one (ps_ret (pe_op op_cat (pv 4) (pe_lst (pa_cons (C8.pe_c (ok__law_word T) hr (by decide) (by rfl) (pa_cons pe_str (pa_cons pe_int (pa_cons pe_int (pa_cons pe_int pa_nil))))) (pa_cons pe_int (pa_cons (C8.pe_c (ok__law_word T) hr (by decide) (by rfl) (pa_cons pe_str (pa_cons pe_int (pa_cons pe_int (pa_cons pe_int pa_nil))))) pa_nil))))))))), ?_⟩
  refine M.x_st (σ0 := [some _, some _, some _, some _, none, none, none]) rfl ?_
  have D0 := Ds.refl D
  walk_at "go"
  intro p1 H1 hp1 e1 h1
  have D1 := D0.same e1
  walk_at "go"
  have h1 : H1 p1 = some (.lst (([] : List Int).map V.int)) := h1
  intro d2 H2 l2 u2 e2 D2
  walk_at "go"
  refine M.x_isForR (n := 3 + d2) ⟨by omega, by omega⟩ (fun i σ' Hx => ∃ (v5 v6 : Option V) (p : Addr) (l : List Int), σ' = [some (.ref st), some (.ref a), some (.int pg), some (.int z), some (.ref p), v5, v6] ∧ Ds K st a ns H Hx ∧ Hx p = some (.lst (l.map V.int)) ∧ p ≠ st ∧ W16s l ∧ (l.length : Int) ≤ 16 * pg - 3)
    ⟨_, _, p1, [], rfl, D2, e2.at1 (D0.off hp1).1 h1, (D0.off hp1).1, W16s.nil, by simp; omega⟩ ?_ ?_
  · rintro i σ' Hx hi ⟨v5, v6, p, l, rfl, Dx, hx, hne, hw, hl⟩
    walk_at "go"
    intro q l3 H3 hq e3 D3 h3 hw3 hl3
    have hx3 := e3.at1 hne hx
    walk_at "go"
    refine M.x_ifD (fun c => ?_) (fun c => ?_)
    · walk_at "go"
      intro r H4 hr e4 h4
      walk_at "go"
      exact ⟨_, _, r, l ++ l3, rfl, D3.same e4, by rw [h4, List.map_append], (D3.off hr).1, hw.app hw3, by rw [List.length_append]; omega⟩
    · walk_at "go"
      exact ⟨_, _, p, l, rfl, D3, hx3, hne, hw, hl⟩
  rintro σ' Hx ⟨v5, v6, p, l, rfl, Dx, hx, hne, hw, hl⟩
  walk_at "go"
  intro r1 H3 e3 hr1
  walk_at "go"
  intro r2 H4 e4 hr2
  walk_at "go"
  intro q H5 hq e5 h5
  have h6 : H5 q = some (.lst (([r1, 0, r2] : List Int).map V.int)) := h5
  refine M.x_cat (e5 _ _ (e4 _ _ (e3 _ _ hx))) h6 (M.sl4 (by simp only [List.length_map, List.length_cons, List.length_nil]; omega)) (fun b Hb hb eb hb2 => ?_)
  exact k b (l ++ [r1, 0, r2]) Hb (Dx.free (e3.free (e4.free (e5.free hb)))) (Dx.same (e3.trans (e4.trans (e5.trans eb)))) (by rw [hb2, List.map_append]) (hw.app (W16s.cons hr1 (W16s.cons (by omega) (W16s.of1 hr2)))) (by rw [List.length_append]; simp only [List.length_cons, List.length_nil]; omega)
/-! ## the parts of a configuration -/
def prD (z : Int × Int) : PyData := .tuple [.int z.1, .int z.2]
def chD (z : Int × Int × Int × Bool) : PyData := .tuple [.int z.1, .int z.2.1, .int z.2.2.1, .bool z.2.2.2]
def oiD : Option Int → PyData
  | none => .none
  | some i => .int i
def frD (z : Option Int × Int) : PyData := .tuple [oiD z.1, .int z.2]
theorem prD_t (z : Int × Int) : M.tupD (prD z) = true := rfl
theorem chD_t (z : Int × Int × Int × Bool) : M.tupD (chD z) = true := rfl
theorem frD_t : ∀ z : Option Int × Int, M.tupD (frD z) = true
  | (none, _) => rfl
  | (some _, _) => rfl
theorem prD_sh (z : Int × Int) : M.ShN 8 (prD z) := M.ShN.tup (n := 7) fun d hd => by
  rcases List.mem_cons.mp hd with rfl | hd
  · exact M.ShN.int _
  · rw [List.mem_singleton.mp hd]; exact M.ShN.int _
theorem prD_eqv (z w : Int × Int) : PyData.eqv (prD z) (prD w) = decide (z = w) := by
  obtain ⟨a, b⟩ := z
  obtain ⟨c, d⟩ := w
  simp only [prD, PyData.eqv, PyData.eqvAll, Bool.and_true]
  rw [Bool.eq_iff_iff]
  simp
theorem any_prD (l : List (Int × Int)) (z : Int × Int) : ((l.map prD).any fun y => PyData.eqv y (prD z)) = decide (z ∈ l) := by
  rw [Bool.eq_iff_iff, List.any_eq_true, decide_eq_true_iff]
  constructor
  · rintro ⟨y, hy, e⟩
    obtain ⟨x, hx, rfl⟩ := List.mem_map.mp hy
    rw [prD_eqv] at e
    rw [← of_decide_eq_true e]
    exact hx
  · intro h
    exact ⟨prD z, List.mem_map.mpr ⟨z, h, rfl⟩, by rw [prD_eqv]; simp⟩
/-- the parts, as they may be -/
structure PartsOk (n : Int) (fl : List (Int × Int)) (ch : List (Int × Int × Int × Bool)) (sh : List (Int × Int)) (dv : List Int) (fr : List (Option Int × Int)) : Prop where
  hn : 2 ≤ n ∧ n ≤ 4
  hfl : ∀ z ∈ fl, (0 ≤ z.1 ∧ z.1 < n) ∧ (0 ≤ z.2 ∧ z.2 < n) ∧ z.1 ≠ z.2
  hfll : fl.length ≤ 16
  hch : ∀ z ∈ ch, (z.1, z.2.1) ∈ fl ∧ (1 ≤ z.2.2.1 ∧ z.2.2.1 ≤ 3) ∧ (z.2.2.2 = true → (z.2.1, z.1) ∈ fl)
  hchl : ch.length ≤ 3
  hsh : ∀ z ∈ sh, z ∈ fl
  hshl : sh.length ≤ 2
  hdv : ∀ z ∈ dv, 0 ≤ z ∧ z < n
  hdvl : dv.length ≤ 2
  hfr : ∀ z ∈ fr, (∀ p, z.1 = some p → 0 ≤ p ∧ p < n) ∧ 128 ≤ z.2 ∧ z.2 ≤ 287
  hfrl : 1 ≤ fr.length ∧ fr.length ≤ 4
/-- a list of data, in order -/
def LD (K : PySem.W.Frag) (H : Hp) (p : Addr) (ds : List PyData) : Prop := ∃ xs, H p = some (.lst xs) ∧ DpAll K H xs ds
theorem LD.mv {K : PySem.W.Frag} {H H' : Hp} {p : Addr} {ds : List PyData} (h : LD K H p ds) (e : ∀ o, H p = some o → H' p = some o) (k : M.Kp H H') (t : M.tupDs ds = true) : LD K H' p ds := by
  obtain ⟨xs, h1, h2⟩ := h
  exact ⟨xs, e _ h1, M.DpAll.kp k ds xs t h2⟩
theorem LD.same {K : PySem.W.Frag} {H H' : Hp} {p : Addr} {ds : List PyData} (h : LD K H p ds) (e : Same H H') (t : M.tupDs ds = true) : LD K H' p ds := h.mv (fun o => e p o) (M.Kp.same e) t
theorem LD.ext {K : PySem.W.Frag} {H H' : Hp} {p b : Addr} {xs : List V} {ds : List PyData} (h : LD K H p ds) (e : M.Ext [b] H H') (hb : H b = some (.lst xs)) (ne : p ≠ b) (t : M.tupDs ds = true) : LD K H' p ds := h.mv (fun o => e.at1 ne) (M.Kp.lst e hb) t
theorem LD.draw {K : PySem.W.Frag} {st a : Addr} {ns : List Int} {H0 H H' : Hp} {p : Addr} {ds : List PyData} (h : LD K H p ds) (D : Ds K st a ns H0 H) (e : M.Ext [st] H H') (ne : p ≠ st) (t : M.tupDs ds = true) : LD K H' p ds := h.mv (fun o => e.at1 ne) (D.d.kp e) t
theorem LD.nil {K : PySem.W.Frag} {H : Hp} {p : Addr} (h : H p = some (.lst [])) : LD K H p [] := ⟨[], h, .nil⟩
theorem LD.app {K : PySem.W.Frag} {H H' : Hp} {p : Addr} {xs : List V} {ds : List PyData} {v : V} {d : PyData} (h : H p = some (.lst xs)) (hd : DpAll K H xs ds) (e : M.Ext [p] H H') (h' : H' p = some (.lst (xs ++ [v]))) (t : M.tupDs ds = true) (td : M.tupD d = true) (dv : Dp K H v d) : LD K H' p (ds ++ [d]) :=
  ⟨xs ++ [v], h', M.DpAll.app (M.DpAll.kp (M.Kp.lst e h) _ _ t hd) (.cons (M.Dp.kp (M.Kp.lst e h) _ _ td dv) .nil)⟩
theorem prDs_t (l : List (Int × Int)) : M.tupDs (l.map prD) = true := M.tupDs_map prD_t
theorem chDs_t (l : List (Int × Int × Int × Bool)) : M.tupDs (l.map chD) = true := M.tupDs_map chD_t
theorem frDs_t (l : List (Option Int × Int)) : M.tupDs (l.map frD) = true := M.tupDs_map frD_t
def FlOk (n : Int) (fl : List (Int × Int)) : Prop := ∀ z ∈ fl, (0 ≤ z.1 ∧ z.1 < n) ∧ (0 ≤ z.2 ∧ z.2 < n) ∧ z.1 ≠ z.2
theorem LD.pr {K : PySem.W.Frag} {H : Hp} {xs : List V} {fl : List (Int × Int)} (h : DpAll K H xs (fl.map prD)) {j : Int} (h0 : 0 ≤ j) (h1 : j < xs.length) : ∃ t z, z ∈ fl ∧ atI xs j = some (.ref t) ∧ SqT K H t [.int z.1, .int z.2] ∧ xs[j.toNat]? = some (.ref t) := by
  have hl := M.DpAll.len h
  rw [List.length_map] at hl
  have hj : j.toNat < fl.length := by omega
  obtain ⟨x, hx, hd⟩ := M.DpAll.get h (i := j.toNat) (d := prD fl[j.toNat]) (by rw [List.getElem?_map, List.getElem?_eq_getElem hj]; rfl)
  obtain ⟨t, rfl, ht⟩ := M.Dp.tints (l := [fl[j.toNat].1, fl[j.toNat].2]) hd
  exact ⟨t, fl[j.toNat], List.getElem_mem hj, M.atI_of h0 hx, ht, hx⟩
theorem prDs_sh (l : List (Int × Int)) : M.ShN 9 (.list (l.map prD)) := M.ShN.list fun d hd => by
  obtain ⟨z, _, rfl⟩ := List.mem_map.mp hd
  exact prD_sh z
theorem x_inFl {K : PySem.W.Frag} {H : Hp} {Q : VK} {t p : Addr} {a b : Int} {xs : List V} {fl : List (Int × Int)} (ht : SqT K H t [.int a, .int b]) (h : H p = some (.lst xs)) (hd : DpAll K H xs (fl.map prD)) (k : Q (.bl (decide ((a, b) ∈ fl))) H) : rInD K (.ref t) (.ref p) H Q :=
  M.x_inDL (d := prD (a, b)) (.tup ht (.cons (.int _) (.cons (.int _) .nil))) (.lst (SqL.of h) hd) (prD_sh _) (prDs_sh _) (by rw [any_prD]; exact k)
def ChOk (fl : List (Int × Int)) (ch : List (Int × Int × Int × Bool)) : Prop := ∀ z ∈ ch, (z.1, z.2.1) ∈ fl ∧ (1 ≤ z.2.2.1 ∧ z.2.2.1 ≤ 3) ∧ (z.2.2.2 = true → (z.2.1, z.1) ∈ fl)
/-- the lists of the parts -/
def tTupF (t : TA) : TE := fun σ H Q => t σ H fun xs H1 => xs.length ≤ sizeLine ∧ ∀ p (o : Obj), H1 p = none → o.cls = .type "tuple" → o.dict = none → Q (.ref p) (upd H1 p (.frz o (.tup xs)))
theorem pe_tupF {X : Cx} {es : List Expr} {t : TA} {pos : Pos} {x1} (h : PA X es t) : PE X (.Tuple es x1 pos) (tTupF t) := by
  refine ⟨fun pins s σ H Q I hq => ?_⟩
  refine wpAny_Tuple_spliced (thn (h.run pos pins s σ H _ I hq) fun us s1 ⟨xs, H1, I1, r, z, q⟩ => ⟨by rw [← r.length]; exact z, ?_⟩)
  have hf : H1 s1.heap.objs.size = none := I1.hok.fresh (Nat.le_refl _)
  refine ⟨.ref s1.heap.objs.size, upd H1 s1.heap.objs.size (.frz { cls := .type "tuple", data := .seq us.toArray } (.tup xs)), I1.laid (t' := s1.toks) (fun b u e => Heap.get?_push_of_some _ e) (Nat.le_refl _) ?_, rfl, q _ _ hf rfl rfl⟩
  exact ⟨Heap.get?_push_size _ rfl, z, us, r, ⟨_, Heap.get?_push_size _ rfl, rfl, _, rfl⟩⟩
def NewTF (xs : List V) (H : Hp) (Q : VK) : Prop := xs.length ≤ sizeLine ∧ ∀ p (o : Obj), H p = none → o.cls = .type "tuple" → o.dict = none → Q (.ref p) (upd H p (.frz o (.tup xs)))
theorem x_tupF {t : TA} {σ : L2.St} {H : Hp} {Q : VK} (k : t σ H fun xs H1 => NewTF xs H1 Q) : tTupF t σ H Q := k
theorem x_newTF {xs : List V} {H : Hp} {Q : VK} (h : xs.length ≤ 100000) (k : ∀ p (o : Obj) H2, H p = none → Same H H2 → H2 p = some (.frz o (.tup xs)) → o.cls = .type "tuple" → o.dict = none → Q (.ref p) H2) : NewTF xs H Q := ⟨M.sl4 h, fun p o hp h1 h2 => k p o _ hp (M.same_new hp) upd_same h1 h2⟩
/-- a tuple made by the code: its object is known -/
def TupN (H : Hp) (x : V) : Prop := ∃ (t : Addr) (o : Obj) (ys : List V), x = .ref t ∧ H t = some (.frz o (.tup ys)) ∧ o.cls = .type "tuple" ∧ o.dict = none
theorem TupN.kp {H H' : Hp} {x : V} (h : TupN H x) (e : M.Kp H H') : TupN H' x := by
  obtain ⟨t, o, ys, h1, h2, h3⟩ := h
  exact ⟨t, o, ys, h1, e _ _ h2 trivial, h3⟩
/-- a list of pairs -/
def LF (K : PySem.W.Frag) (H : Hp) (p : Addr) (fl : List (Int × Int)) : Prop := ∃ xs, H p = some (.lst xs) ∧ DpAll K H xs (fl.map prD) ∧ ∀ x ∈ xs, TupN H x
theorem LF.mv {K : PySem.W.Frag} {H H' : Hp} {p : Addr} {ds : List (Int × Int)} (h : LF K H p ds) (e : ∀ o, H p = some o → H' p = some o) (k : M.Kp H H') (t : M.tupDs (ds.map prD) = true) : LF K H' p ds := by
  obtain ⟨xs, h1, h2, h3⟩ := h
  exact ⟨xs, e _ h1, M.DpAll.kp k _ xs t h2, fun x hx => (h3 x hx).kp k⟩
theorem LF.same {K : PySem.W.Frag} {H H' : Hp} {p : Addr} {ds : List (Int × Int)} (h : LF K H p ds) (e : Same H H') (t : M.tupDs (ds.map prD) = true) : LF K H' p ds := h.mv (fun o => e p o) (M.Kp.same e) t
theorem LF.ext {K : PySem.W.Frag} {H H' : Hp} {p b : Addr} {xs : List V} {ds : List (Int × Int)} (h : LF K H p ds) (e : M.Ext [b] H H') (hb : H b = some (.lst xs)) (ne : p ≠ b) (t : M.tupDs (ds.map prD) = true) : LF K H' p ds := h.mv (fun o => e.at1 ne) (M.Kp.lst e hb) t
theorem LF.draw {K : PySem.W.Frag} {st a : Addr} {ns : List Int} {H0 H H' : Hp} {p : Addr} {ds : List (Int × Int)} (h : LF K H p ds) (D : Ds K st a ns H0 H) (e : M.Ext [st] H H') (ne : p ≠ st) (t : M.tupDs (ds.map prD) = true) : LF K H' p ds := h.mv (fun o => e.at1 ne) (D.d.kp e) t
theorem LF.nil {K : PySem.W.Frag} {H : Hp} {p : Addr} (h : H p = some (.lst [])) : LF K H p [] := ⟨[], h, .nil, fun x hx => (by cases hx)⟩
theorem LF.app {K : PySem.W.Frag} {H H' : Hp} {p : Addr} {xs : List V} {ds : List (Int × Int)} {v : V} {d : Int × Int} (h : H p = some (.lst xs)) (hd : DpAll K H xs (ds.map prD)) (hn : ∀ x ∈ xs, TupN H x) (e : M.Ext [p] H H') (h' : H' p = some (.lst (xs ++ [v]))) (dv : Dp K H v (prD d)) (nv : TupN H v) : LF K H' p (ds ++ [d]) :=
  ⟨xs ++ [v], h', by rw [List.map_append]; exact M.DpAll.app (M.DpAll.kp (M.Kp.lst e h) _ _ (prDs_t _) hd) (.cons (M.Dp.kp (M.Kp.lst e h) _ _ rfl dv) .nil), fun x hx => ((List.mem_append.mp hx).elim (hn x) fun q => by rw [List.mem_singleton.mp q]; exact nv).kp (M.Kp.lst e h)⟩
theorem LF.ld {K : PySem.W.Frag} {H : Hp} {p : Addr} {ds : List (Int × Int)} (h : LF K H p ds) : LD K H p (ds.map prD) := let ⟨xs, a, b, _⟩ := h; ⟨xs, a, b⟩
structure PartsX (K : PySem.W.Frag) (st q pf pc ps pd pr : Addr) (n : Int) (fl : List (Int × Int)) (ch : List (Int × Int × Int × Bool)) (sh : List (Int × Int)) (dv : List Int) (fr : List (Option Int × Int)) (H : Hp) : Prop where
  hq : H q = some (.lst [.int n, .ref pf, .ref pc, .ref ps, .ref pd, .ref pr])
  hf : LF K H pf fl
  hc : LD K H pc (ch.map chD)
  hs : LF K H ps sh
  hd : H pd = some (.lst (dv.map V.int))
  hr : LD K H pr (fr.map frD)
  ne : q ≠ st ∧ pf ≠ st ∧ pc ≠ st ∧ ps ≠ st ∧ pd ≠ st ∧ pr ≠ st
theorem PartsX.mv {st q pf pc ps pd pr : Addr} {n : Int} {fl : List (Int × Int)} {ch : List (Int × Int × Int × Bool)} {sh : List (Int × Int)} {dv : List Int} {fr : List (Option Int × Int)} {H H' : Hp} (h : PartsX K st q pf pc ps pd pr n fl ch sh dv fr H) (e : M.Ext [st] H H') (k : M.Kp H H') : PartsX K st q pf pc ps pd pr n fl ch sh dv fr H' :=
  ⟨e.at1 h.ne.1 h.hq, h.hf.mv (fun o => e.at1 h.ne.2.1) k (prDs_t _), h.hc.mv (fun o => e.at1 h.ne.2.2.1) k (chDs_t _), h.hs.mv (fun o => e.at1 h.ne.2.2.2.1) k (prDs_t _), e.at1 h.ne.2.2.2.2.1 h.hd, h.hr.mv (fun o => e.at1 h.ne.2.2.2.2.2) k (frDs_t _), h.ne⟩
theorem PartsX.same {st q pf pc ps pd pr : Addr} {n : Int} {fl : List (Int × Int)} {ch : List (Int × Int × Int × Bool)} {sh : List (Int × Int)} {dv : List Int} {fr : List (Option Int × Int)} {H H' : Hp} (h : PartsX K st q pf pc ps pd pr n fl ch sh dv fr H) (e : Same H H') : PartsX K st q pf pc ps pd pr n fl ch sh dv fr H' := h.mv (M.Ext.of_same e) (M.Kp.same e)
def sp__law_parts (K : PySem.W.Frag) : Sp := fun vs H Q _ => ∃ (st a : Addr) (ns : List Int), vs = [.ref st, .ref a] ∧ Dr K st a ns H ∧ ∀ (p pf pc ps pd pr : Addr) (n : Int) (fl : List (Int × Int)) (ch : List (Int × Int × Int × Bool)) (sh : List (Int × Int)) (dv : List Int) (fr : List (Option Int × Int)) (H' : Hp), H p = none → Ds K st a ns H H' → PartsX K st p pf pc ps pd pr n fl ch sh dv fr H' → PartsOk n fl ch sh dv fr → Q (.ref p) H'
abbrev M.N__law_parts : List Str := ["state", "script", "count", "flows", "p", "q", "channels", "shares", "k", "source", "target", "devices", "frames"]
theorem sc__law_parts : FnScope M.N__law_parts ["state", "script"] (defScope s__law_parts) := ⟨rfl, rfl, rfl, by decide +kernel, rfl, by decide +kernel, by decide +kernel⟩
local macro_rules | `(tactic| walk_at "s") => `(tactic| with_reducible refine x_tupF ?_)
theorem ok__law_parts (T : Tx K mg) : C8.Cal P w K mg base 2 "_law_parts" (sp__law_parts K) [] := by
  refine M.cal_mk T.f__law_parts T.g__law_parts sc__law_parts (fun _ _ _ _ _ _ us hl => match us, hl with | [_, _], _ => rfl) (by rintro vs H Q E ⟨st, a, ns, rfl, _⟩; rfl) fun cdv A outer s H vs Q E hr h => ?_
  obtain ⟨st, a, ns, rfl, D, k⟩ := h
  refine ⟨_, (pss_cons (ps_set (i := 2) sc__law_parts.nd rfl (Or.inr rfl) (pe_op op_add pe_int (C8.pe_c (ok__law_draw T) hr (by decide) (by rfl) (pa_cons (pv 0) (pa_cons (pv 1) (pa_cons pe_int pa_nil)))))) (pss_cons (ps_set (i := 3) sc__law_parts.nd rfl (Or.inl rfl) (pe_lst pa_nil)) (pss_cons (ps_for PassesOwn.never rfl (pi_range1 (by rfl) T.b_range (pa_cons (pv 2) pa_nil)) (pg_name (i := 4) sc__law_parts.nd rfl (Or.inl rfl)) (pss_one (ps_for PassesOwn.never rfl (pi_range1 (by rfl) T.b_range (pa_cons (pv 2) pa_nil)) (pg_name (i := 5) sc__law_parts.nd rfl (Or.inl rfl)) (pss_one (ps_if (PW.pt (pw_and (pt_cmpR op_ne (pv 4) (pv 5) (nomark _)) (pw_and1 (pt_cmpR op_eq (C8.pe_c (ok__law_draw T) hr (by decide) (by rfl) (pa_cons (pv 0) (pa_cons (pv 1) (pa_cons pe_int pa_nil)))) pe_int (nomark _))))) (pss_one (ps_expr (pe_bm PySem.F.plainAttrs_list PySem.F.slot_list_append PySem.F.type_list_append mt_append (pv 3) (pa_cons (pe_tupF (pa_cons (pv 4) (pa_cons (pv 5) pa_nil))) pa_nil)))) pss_nil))))) (pss_cons (ps_set (i := 6) sc__law_parts.nd rfl (Or.inl rfl) (pe_lst pa_nil)) (pss_cons (ps_set (i := 7) sc__law_parts.nd rfl (Or.inl rfl) (pe_lst pa_nil)) (pss_cons (ps_for PassesOwn.never rfl (pi_range1 (by rfl) T.b_range (pa_cons (C8.pe_c (ok__law_draw T) hr (by decide) (by rfl) (pa_cons (pv 0) (pa_cons (pv 1) (pa_cons pe_int pa_nil)))) pa_nil)) (pg_name (i := 8) sc__law_parts.nd rfl (Or.inl rfl)) (pss_one (ps_if (pt_cmpR op_gt (pe_callB M.call_len (by rfl) T.b_len (by decide +kernel) (pa_cons (pv 3) pa_nil)) pe_int (nomark _)) (pss_cons (ps_asg (pe_ix ix_list (pv 3) (C8.pe_c (ok__law_draw T) hr (by decide) (by rfl) (pa_cons (pv 0) (pa_cons (pv 1) (pa_cons (pe_callB M.call_len (by rfl) T.b_len (by decide +kernel) (pa_cons (pv 3) pa_nil)) pa_nil)))) (fun _ _ => rfl)) (pg_tup rfl (pgs_cons (pg_name (i := 9) sc__law_parts.nd rfl (Or.inl rfl)) (pgs_cons (pg_name (i := 10) sc__law_parts.nd rfl (Or.inl rfl)) pgs_nil)))) (pss_one (ps_expr (pe_bm PySem.F.plainAttrs_list PySem.F.slot_list_append PySem.F.type_list_append mt_append (pv 6) (pa_cons (pe_tup (pa_cons (pv 9) (pa_cons (pv 10) (pa_cons (pe_op op_add pe_int (C8.pe_c (ok__law_draw T) hr (by decide) (by rfl) (pa_cons (pv 0) (pa_cons (pv 1) (pa_cons pe_int pa_nil))))) (pa_cons (pe_and (pe_cmpR (op_inD (M.hu65 hr)) (pe_tup (pa_cons (pv 10) (pa_cons (pv 9) pa_nil))) (pv 3) (by rfl)) (pe_one (pe_cmpR op_eq (C8.pe_c (ok__law_draw T) hr (by decide) (by rfl) (pa_cons (pv 0) (pa_cons (pv 1) (pa_cons pe_int pa_nil)))) pe_int (nomark _)))) pa_nil))))) pa_nil))))) pss_nil))) (pss_cons (ps_for PassesOwn.never rfl (pi_range1 (by rfl) T.b_range (pa_cons (C8.pe_c (ok__law_draw T) hr (by decide) (by rfl) (pa_cons (pv 0) (pa_cons (pv 1) (pa_cons pe_int pa_nil)))) pa_nil)) (pg_name (i := 8) sc__law_parts.nd rfl (Or.inl rfl)) (pss_one (ps_if (pt_cmpR op_gt (pe_callB M.call_len (by rfl) T.b_len (by decide +kernel) (pa_cons (pv 3) pa_nil)) pe_int (nomark _)) (pss_one (ps_expr (pe_bm PySem.F.plainAttrs_list PySem.F.slot_list_append PySem.F.type_list_append mt_append (pv 7) (pa_cons (pe_ix ix_list (pv 3) (C8.pe_c (ok__law_draw T) hr (by decide) (by rfl) (pa_cons (pv 0) (pa_cons (pv 1) (pa_cons (pe_callB M.call_len (by rfl) T.b_len (by decide +kernel) (pa_cons (pv 3) pa_nil)) pa_nil)))) (fun _ _ => rfl)) pa_nil)))) pss_nil))) (pss_cons (ps_setLc (i := 11) (own := [("k", 8)]) rfl sc__law_parts.nd rfl rfl (sw_true rfl rfl rfl (by decide +kernel)) (pi_range1 (by rfl) T.b_range (pa_cons (C8.pe_c (ok__law_draw T) hr (by decide) (by rfl) (pa_cons (pv 0) (pa_cons (pv 1) (pa_cons pe_int pa_nil)))) pa_nil)) (blkOk_by (own := [("k", 8)]) (N := M.N__law_parts) (sc := defScope s__law_parts) (by decide +kernel)) (fun _ _ _ _ _ => (pg_name (i := 8) sc__law_parts.nd rfl (Or.inl rfl))) (fun _ _ _ _ _ => pts_nil) (fun _ _ _ _ _ => (C8.pe_c (ok__law_draw T) hr (by decide) (by rfl) (pa_cons (pv 0) (pa_cons (pv 1) (pa_cons (pv 2) pa_nil)))))) (pss_cons (ps_set (i := 12) sc__law_parts.nd rfl (Or.inl rfl) (pe_lst pa_nil)) (pss_cons (ps_for PassesOwn.never rfl (pi_range1 (by rfl) T.b_range (pa_cons (pe_op op_add pe_int (C8.pe_c (ok__law_draw T) hr (by decide) (by rfl) (pa_cons (pv 0) (pa_cons (pv 1) (pa_cons pe_int pa_nil))))) pa_nil)) (pg_name (i := 8) sc__law_parts.nd rfl (Or.inl rfl)) (pss_one (ps_expr (pe_bm PySem.F.plainAttrs_list PySem.F.slot_list_append PySem.F.type_list_append mt_append (pv 12) (pa_cons (pe_tup (pa_cons (pe_ix ix_list (pe_lst (pa_cons pe_non (pa_cons (C8.pe_c (ok__law_draw T) hr (by decide) (by rfl) (pa_cons (pv 0) (pa_cons (pv 1) (pa_cons (pv 2) pa_nil)))) pa_nil))) (pe_callTy M.call_int (by rfl) T.b_int (by decide +kernel) (pa_cons (pe_cmpR op_gt (C8.pe_c (ok__law_draw T) hr (by decide) (by rfl) (pa_cons (pv 0) (pa_cons (pv 1) (pa_cons pe_int pa_nil)))) pe_int (nomark _)) pa_nil)) (fun _ _ => rfl)) (pa_cons (pe_op op_add pe_int (C8.pe_c (ok__law_draw T) hr (by decide) (by rfl) (pa_cons (pv 0) (pa_cons (pv 1) (pa_cons pe_int pa_nil))))) pa_nil))) pa_nil))))) (pss_one (ps_ret (pe_lst (pa_cons (pv 2) (pa_cons (pv 3) (pa_cons (pv 6) (pa_cons (pv 7) (pa_cons (pv 11) (pa_cons (pv 12) pa_nil))))))))))))))))))), ?_⟩
  refine M.x_st (σ0 := [some _, some _, none, none, none, none, none, none, none, none, none, none, none]) rfl ?_
  have D0 := Ds.refl D
  walk_at "go"
  intro d1 H1 l1 u1 e1 D1
  walk_at "go"
  intro pf H2 hpf e2 h2
  have of := D1.off hpf
  have zf := D1.free hpf
  have D2 := D1.same e2
  walk_at "go"
  refine M.x_isForR (n := 2 + d1) ⟨by omega, by omega⟩ (fun i σ' Hx => ∃ (v4 v5 : Option V) (fl : List (Int × Int)), σ' = [some (.ref st), some (.ref a), some (.int (2 + d1)), some (.ref pf), v4, v5, none, none, none, none, none, none, none] ∧ Ds K st a ns H Hx ∧ LF K Hx pf fl ∧ FlOk (2 + d1) fl ∧ fl.length ≤ 4 * i)
    ⟨_, _, [], rfl, D2, LF.nil h2, (fun z hz => (by cases hz)), Nat.le_refl _⟩ ?_ ?_
  · rintro i σ' Hx hi ⟨v4, v5, fl, rfl, Dx, Lx, fx, nx⟩
    walk_at "go"
    refine M.x_isForR (n := 2 + d1) ⟨by omega, by omega⟩ (fun j σ' Hx => ∃ (v5 : Option V) (fl : List (Int × Int)), σ' = [some (.ref st), some (.ref a), some (.int (2 + d1)), some (.ref pf), some (.int i), v5, none, none, none, none, none, none, none] ∧ Ds K st a ns H Hx ∧ LF K Hx pf fl ∧ FlOk (2 + d1) fl ∧ fl.length ≤ 4 * i + j)
      ⟨_, fl, rfl, Dx, Lx, fx, nx⟩ ?_ ?_
    · rintro j σ' Hx hj ⟨v5, fl, rfl, Dx, Lx, fx, nx⟩
      walk_at "go"
      refine M.x_ifD (fun c1 => ?_) (fun c1 => ?_)
      · walk_at "go"
        intro d3 H3 l3 u3 e3 D3
        have L3 := Lx.draw Dx e3 of.1 (prDs_t _)
        walk_at "go"
        refine M.x_ifD (fun c2 => ?_) (fun c2 => ?_)
        · obtain ⟨xs, x1, x2, x3⟩ := L3
          walk_at "go"
          refine x_newTF (Nat.le_of_ble_eq_true rfl) (fun t o H4 ht e4 h4 ho ho2 => ?_)
          walk_at "go"
          refine M.x_append (e4 _ _ x1) (by have := M.DpAll.len x2; simp at this; omega) (fun H5 e5 h5 => ?_)
          walk_at "go"
          exact ⟨_, fl ++ [((i : Int), (j : Int))], rfl, (D3.same e4).put e5 zf of.1 of, LF.app (e4 _ _ x1) (M.DpAll.kp (M.Kp.same e4) _ _ (prDs_t _) x2) (fun x hx => (x3 x hx).kp (M.Kp.same e4)) e5 h5 (.tup (.inl (.inr ⟨o, h4⟩)) (.cons (.int _) (.cons (.int _) .nil))) ⟨t, o, _, rfl, h4, ho, ho2⟩,
            fun z hz => (List.mem_append.mp hz).elim (fx z) fun q => by rw [List.mem_singleton.mp q]; exact ⟨⟨by show (0 : Int) ≤ (i : Int); omega, by show (i : Int) < _; omega⟩, ⟨by show (0 : Int) ≤ (j : Int); omega, by show (j : Int) < _; omega⟩, c1⟩, by rw [List.length_append, List.length_singleton]; omega⟩
        · walk_at "go"
          exact ⟨_, fl, rfl, D3, L3, fx, by omega⟩
      · walk_at "go"
        exact ⟨_, fl, rfl, Dx, Lx, fx, by omega⟩
    rintro σ' Hx ⟨v5, fl, rfl, Dx, Lx, fx, nx⟩
    walk_at "go"
    exact ⟨_, _, fl, rfl, Dx, Lx, fx, by omega⟩
  rintro σ' Hx ⟨v4, v5, fl, rfl, Dx, Lx, fx, nx⟩
  have nx : fl.length ≤ 16 := by omega
  walk_at "go"
  intro pc H3 hpc e3 h3
  have oc := Dx.off hpc
  have zc := Dx.free hpc
  have nfc : pf ≠ pc := fun q => by
    obtain ⟨xs, x1, _⟩ := Lx
    rw [q, hpc] at x1
    cases x1
  have D3 := Dx.same e3
  have L3 := Lx.same e3 (prDs_t _)
  walk_at "go"
  intro ps H4 hps e4 h4
  have os := D3.off hps
  have zs := D3.free hps
  have nfs : pf ≠ ps := fun q => by
    obtain ⟨xs, x1, _⟩ := L3
    rw [q, hps] at x1
    cases x1
  have ncs : pc ≠ ps := fun q => by
    rw [q, hps] at h3
    cases h3
  have D4 := D3.same e4
  have L4 := L3.same e4 (prDs_t _)
  walk_at "go"
  intro d5 H5 l5 u5 e5 D5
  have L5 := L4.draw D4 e5 of.1 (prDs_t _)
  have C5 : LD K H5 pc (([] : List (Int × Int × Int × Bool)).map chD) := LD.nil (e5.at1 oc.1 (e4 _ _ h3))
  have h5 := e5.at1 os.1 h4
  walk_at "go"
  refine M.x_isForR (n := d5) ⟨by omega, by omega⟩ (fun i σ' Hx => ∃ (v8 v9 va : Option V) (ch : List (Int × Int × Int × Bool)), σ' = [some (.ref st), some (.ref a), some (.int (2 + d1)), some (.ref pf), v4, v5, some (.ref pc), some (.ref ps), v8, v9, va, none, none] ∧ Ds K st a ns H Hx ∧ LF K Hx pf fl ∧ LD K Hx pc (ch.map chD) ∧ Hx ps = some (.lst []) ∧ ChOk fl ch ∧ ch.length ≤ i)
    ⟨_, _, _, [], rfl, D5, L5, C5, h5, (fun z hz => (by cases hz)), Nat.le_refl _⟩ ?_ ?_
  · rintro i σ' Hx hi ⟨v8, v9, va, ch, rfl, Dx, Lx, Cx, sx, fx, hn⟩
    have Lx' := Lx
    obtain ⟨xs, x1, x2, _⟩ := Lx'
    have hxl := M.DpAll.len x2
    rw [List.length_map] at hxl
    walk_at "go"
    refine M.x_ifD (fun c1 => ?_) (fun c1 => ?_)
    · walk_at "go"
      intro d6 H6 l6 u6 e6 D6
      have L6 := Lx.draw Dx e6 of.1 (prDs_t _)
      have C6 := Cx.draw Dx e6 oc.1 (chDs_t _)
      have s6 := e6.at1 os.1 sx
      walk_at "go"
      obtain ⟨xs', y1, y2, y3⟩ := L6
      have exs : xs' = xs := by
        have := e6.at1 of.1 x1
        rw [this] at y1
        cases y1
        rfl
      subst exs
      obtain ⟨t, z, hz, ha, ht, hat⟩ := LD.pr y2 l6 u6
      have cq := C6.choose_spec.1
      refine M.x_ixL (SqL.of y1) ha ?_
      walk_at "go"
      intro d7 H7 l7 u7 e7 D7
      have L7 := LF.draw (⟨_, y1, y2, y3⟩ : LF K H6 pf fl) D6 e7 of.1 (prDs_t _)
      have C7 := C6.draw D6 e7 oc.1 (chDs_t _)
      have s7 := e7.at1 os.1 s6
      walk_at "go"
      intro t2 H8 ht2 e8 h8
      have L8 := L7.same e8 (prDs_t _)
      have C8 := C7.same e8 (chDs_t _)
      have D8 := D7.same e8
      have s8 := e8 _ _ s7
      walk_at "go"
      obtain ⟨xs', y1, y2, y3⟩ := L8
      refine x_inFl (SqT.of h8) y1 y2 ?_
      walk_at "go"
      have fin : ∀ (tl : Bool) (Hy : Hp), (tl = true → (z.2, z.1) ∈ fl) → Ds K st a ns H Hy → LF K Hy pf fl → LD K Hy pc (ch.map chD) → Hy ps = some (.lst []) → ∀ p H2, Hy p = none → Same Hy H2 → H2 p = some (.tup [.int z.1, .int z.2, .int (1 + d7), .bl tl]) →
          (fun (v : V) (H2 : Hp) => rAppend (.ref pc) [v] H2 fun x H1 => ∃ (v8 v9 va : Option V) (ch : List (Int × Int × Int × Bool)), [some (.ref st), some (.ref a), some (.int (2 + d1)), some (.ref pf), v4, v5, some (.ref pc), some (.ref ps), some (V.int i), some (V.int z.1), some (V.int z.2), none, none] = [some (.ref st), some (.ref a), some (.int (2 + d1)), some (.ref pf), v4, v5, some (.ref pc), some (.ref ps), v8, v9, va, none, none] ∧ Ds K st a ns H H1 ∧ LF K H1 pf fl ∧ LD K H1 pc (ch.map chD) ∧ H1 ps = some (.lst []) ∧ ChOk fl ch ∧ ch.length ≤ i + 1) (.ref p) H2 := by
        intro tl Hy htl Dy Ly Cy sy p H2 hp e2 h2
        obtain ⟨zs, z1, z2⟩ := Cy.same e2 (chDs_t _)
        refine M.x_append z1 (by have := M.DpAll.len z2; simp at this; omega) (fun H5 e5 h5 => ?_)
        exact ⟨_, _, _, ch ++ [(z.1, z.2, 1 + d7, tl)], rfl, (Dy.same e2).put e5 zc oc.1 oc, (Ly.same e2 (prDs_t _)).ext e5 z1 nfc (prDs_t _), by rw [List.map_append]; exact LD.app z1 z2 e5 h5 (chDs_t _) rfl (.tup (SqT.of h2) (.cons (.int _) (.cons (.int _) (.cons (.int _) (.cons (.bl _) .nil))))),
          e5.at1 (Ne.symm ncs) (e2 _ _ sy), (fun w hw => (List.mem_append.mp hw).elim (fx w) fun q => by rw [List.mem_singleton.mp q]; exact ⟨hz, ⟨by show 1 ≤ 1 + d7; omega, by show 1 + d7 ≤ 3; omega⟩, htl⟩), by rw [List.length_append, List.length_singleton]; omega⟩
      refine M.x_ifD (fun c2 => ?_) (fun c2 => ?_)
      · walk_at "go"
        intro d9 H9 l9 u9 e9 D9
        walk_at "go"
        intro p Hz hp ez hz2
        walk_at "go"
        exact fin _ _ (fun _ => c2) D9 (LF.draw (⟨_, y1, y2, y3⟩ : LF K H8 pf fl) D8 e9 of.1 (prDs_t _)) (C8.draw D8 e9 oc.1 (chDs_t _)) (e9.at1 os.1 s8) p Hz hp ez hz2
      · walk_at "go"
        intro p Hz hp ez hz2
        walk_at "go"
        exact fin false _ (fun q => by cases q) D8 ⟨_, y1, y2, y3⟩ C8 s8 p Hz hp ez hz2
    · walk_at "go"
      exact ⟨_, _, _, ch, rfl, Dx, Lx, Cx, sx, fx, by omega⟩
  rintro σ' Hx ⟨v8, v9, va, ch, rfl, Dx, Lx, Cx, sx, fcx, hcn⟩
  have hcn : ch.length ≤ 3 := by omega
  walk_at "go"
  intro d6 H6 l6 u6 e6 D6
  have L6 := Lx.draw Dx e6 of.1 (prDs_t _)
  have C6 := Cx.draw Dx e6 oc.1 (chDs_t _)
  have S6 : LF K H6 ps [] := LF.nil (e6.at1 os.1 sx)
  walk_at "go"
  refine M.x_isForR (n := d6) ⟨by omega, by omega⟩ (fun i σ' Hx => ∃ (v8 : Option V) (sh : List (Int × Int)), σ' = [some (.ref st), some (.ref a), some (.int (2 + d1)), some (.ref pf), v4, v5, some (.ref pc), some (.ref ps), v8, v9, va, none, none] ∧ Ds K st a ns H Hx ∧ LF K Hx pf fl ∧ LD K Hx pc (ch.map chD) ∧ LF K Hx ps sh ∧ (∀ z ∈ sh, z ∈ fl) ∧ sh.length ≤ i)
    ⟨_, [], rfl, D6, L6, C6, S6, (fun z hz => (by cases hz)), Nat.le_refl _⟩ ?_ ?_
  · rintro i σ' Hx hi ⟨v8, sh, rfl, Dx, Lx, Cx, Sx, fx, hn⟩
    have x1 := Lx.choose_spec.1
    have q1 := Sx.choose_spec.1
    have hxl := M.DpAll.len Lx.choose_spec.2.1
    rw [List.length_map] at hxl
    generalize Lx.choose = xs at x1 hxl
    walk_at "go"
    refine M.x_ifD (fun c1 => ?_) (fun c1 => ?_)
    · walk_at "go"
      intro d7 H7 l7 u7 e7 D7
      have L7 := Lx.draw Dx e7 of.1 (prDs_t _)
      have C7 := Cx.draw Dx e7 oc.1 (chDs_t _)
      have S7 := Sx.draw Dx e7 os.1 (prDs_t _)
      obtain ⟨xs', y1, y2, y3⟩ := L7
      have exs : xs' = xs := by
        have := e7.at1 of.1 x1
        rw [this] at y1
        cases y1
        rfl
      subst exs
      obtain ⟨t, z, hz, ha, ht, hat⟩ := LD.pr y2 l7 u7
      walk_at "go"
      obtain ⟨ws, z1, z2, z3⟩ := S7
      refine M.x_append z1 (by have := M.DpAll.len z2; simp at this; omega) (fun H8 e8 h8 => ?_)
      walk_at "go"
      exact ⟨_, sh ++ [z], rfl, D7.put e8 zs os.1 os, LF.ext ⟨_, y1, y2, y3⟩ e8 z1 nfs (prDs_t _), C7.ext e8 z1 ncs (chDs_t _), LF.app z1 z2 z3 e8 h8 (.tup ht (.cons (.int _) (.cons (.int _) .nil))) (y3 _ (List.mem_of_getElem? hat)), (fun w hw => (List.mem_append.mp hw).elim (fx w) fun q => by rw [List.mem_singleton.mp q]; exact hz), by rw [List.length_append, List.length_singleton]; omega⟩
    · walk_at "go"
      exact ⟨_, sh, rfl, Dx, Lx, Cx, Sx, fx, by omega⟩
  rintro σ' Hx ⟨v8, sh, rfl, Dx, Lx, Cx, Sx, fsx, hsn⟩
  have hsn : sh.length ≤ 2 := by omega
  walk_at "go"
  intro d7 H7 l7 u7 e7 D7
  have L7 := Lx.draw Dx e7 of.1 (prDs_t _)
  have C7 := Cx.draw Dx e7 oc.1 (chDs_t _)
  have S7 := Sx.draw Dx e7 os.1 (prDs_t _)
  walk_at "go"
  refine M.x_isLcR (n := d7) (fun D i acc H' => H7 D = none ∧ (∃ dv : List Int, acc = dv.map V.int ∧ ∀ z ∈ dv, 0 ≤ z ∧ z < 2 + d1) ∧ Ds K st a ns H H' ∧ LF K H' pf fl ∧ LD K H' pc (ch.map chD) ∧ LF K H' ps sh) ⟨by omega, by omega⟩ ?_ ?_ ?_
  · intro D H1 hD e h
    exact ⟨hD, ⟨[], rfl, (fun z hz => (by cases hz))⟩, D7.same e, L7.same e (prDs_t _), C7.same e (chDs_t _), S7.same e (prDs_t _)⟩
  · rintro D i acc H' hD hi hl hq ⟨_, ⟨dv, rfl, hdv⟩, Dq, Lq, Cq, Sq⟩
    unfold M.LcTurn
    walk_at "go"
    refine ⟨rfl, ?_⟩
    walk_at "go"
    intro d8 H8 l8 u8 e8 D8
    have oD := D7.off hD
    have zD := D7.free hD
    have ne : ∀ {p : Addr} {ds : List PyData}, LD K H7 p ds → p ≠ D := fun h z => by
      obtain ⟨xs, h1, _⟩ := h
      rw [z, hD] at h1
      cases h1
    have h8 := e8.at1 oD.1 hq
    refine M.x_lcPut h8 hl (by omega) (fun H9 e9 h9 => ?_)
    exact ⟨hD, ⟨dv ++ [d8], by rw [List.map_append]; rfl, fun w hw => (List.mem_append.mp hw).elim (hdv w) fun q => by rw [List.mem_singleton.mp q]; exact ⟨l8, u8⟩⟩, D8.put e9 zD oD.1 oD,
      (Lq.draw Dq e8 of.1 (prDs_t _)).ext e9 h8 (ne L7.ld) (prDs_t _), (Cq.draw Dq e8 oc.1 (chDs_t _)).ext e9 h8 (ne C7) (chDs_t _), (Sq.draw Dq e8 os.1 (prDs_t _)).ext e9 h8 (ne S7.ld) (prDs_t _)⟩
  rintro pd acc Hx hpd hpl hpx ⟨_, ⟨dv, rfl, hdv⟩, Dx, Lx, Cx, Sx⟩
  have od := D7.off hpd
  have zd := D7.free hpd
  rw [List.length_map] at hpl
  walk_at "go"
  intro pr H8 hpr e8 h8
  have orr := Dx.off hpr
  have zr := Dx.free hpr
  have ne : ∀ {p : Addr} {ds : List PyData}, LD K Hx p ds → p ≠ pr := fun h z => by
    obtain ⟨xs, h1, _⟩ := h
    rw [z, hpr] at h1
    cases h1
  have nd : pd ≠ pr := fun z => by
    rw [z, hpr] at hpx
    cases hpx
  have nfr := ne Lx.ld
  have ncr := ne Cx
  have nsr := ne Sx.ld
  have D8 := Dx.same e8
  have L8 := Lx.same e8 (prDs_t _)
  have C8 := Cx.same e8 (chDs_t _)
  have S8 := Sx.same e8 (prDs_t _)
  have p8 := e8 _ _ hpx
  walk_at "go"
  intro d9 H9 l9 u9 e9 D9
  have L9 := L8.draw D8 e9 of.1 (prDs_t _)
  have C9 := C8.draw D8 e9 oc.1 (chDs_t _)
  have S9 := S8.draw D8 e9 os.1 (prDs_t _)
  have p9 := e9.at1 od.1 p8
  have R9 : LD K H9 pr (([] : List (Option Int × Int)).map frD) := LD.nil (e9.at1 orr.1 h8)
  walk_at "go"
  refine M.x_isForR (n := 1 + d9) ⟨by omega, by omega⟩ (fun i σ' Hx => ∃ (v8 : Option V) (fr : List (Option Int × Int)), σ' = [some (.ref st), some (.ref a), some (.int (2 + d1)), some (.ref pf), v4, v5, some (.ref pc), some (.ref ps), v8, v9, va, some (.ref pd), some (.ref pr)] ∧ Ds K st a ns H Hx ∧ LF K Hx pf fl ∧ LD K Hx pc (ch.map chD) ∧ LF K Hx ps sh ∧ Hx pd = some (.lst (dv.map V.int)) ∧ LD K Hx pr (fr.map frD) ∧ (∀ z ∈ fr, (∀ p, z.1 = some p → 0 ≤ p ∧ p < 2 + d1) ∧ 128 ≤ z.2 ∧ z.2 ≤ 287) ∧ fr.length = i)
    ⟨_, [], rfl, D9, L9, C9, S9, p9, R9, (fun z hz => (by cases hz)), rfl⟩ ?_ ?_
  · rintro i σ' Hx hi ⟨v8, fr, rfl, Dx, Lx, Cx, Sx, px, Rx, hfr, hn⟩
    have q1 := Rx.choose_spec.1
    walk_at "go"
    intro da Ha la ua ea Da
    have La := Lx.draw Dx ea of.1 (prDs_t _)
    have Ca := Cx.draw Dx ea oc.1 (chDs_t _)
    have Sa := Sx.draw Dx ea os.1 (prDs_t _)
    have pa := ea.at1 od.1 px
    have Ra := Rx.draw Dx ea orr.1 (frDs_t _)
    walk_at "go"
    intro p2 Hb hp2 eb hb
    have Db := Da.same eb
    walk_at "go"
    intro dc Hc lc uc ec Dc
    have Lc := (La.same eb (prDs_t _)).draw Db ec of.1 (prDs_t _)
    have Cc := (Ca.same eb (chDs_t _)).draw Db ec oc.1 (chDs_t _)
    have Sc := (Sa.same eb (prDs_t _)).draw Db ec os.1 (prDs_t _)
    have pcc := ec.at1 od.1 (eb _ _ pa)
    have Rc := (Ra.same eb (frDs_t _)).draw Db ec orr.1 (frDs_t _)
    have hc := ec.at1 (Da.off hp2).1 hb
    walk_at "go"
    have fin : ∀ (o : Option Int) (v : V), (∀ p, o = some p → 0 ≤ p ∧ p < 2 + d1) → (∀ H, Dp K H v (oiD o)) → ∀ (d : Int) (Hd : Hp), 0 ≤ d → d < 160 → M.Ext [st] Hc Hd → Ds K st a ns H Hd → ∀ p H2, Hd p = none → Same Hd H2 → H2 p = some (.tup [v, .int (128 + d)]) →
        (fun (v : V) (H2 : Hp) => rAppend (.ref pr) [v] H2 fun x H1 => ∃ (v8 : Option V) (fr : List (Option Int × Int)), [some (.ref st), some (.ref a), some (.int (2 + d1)), some (.ref pf), v4, v5, some (.ref pc), some (.ref ps), some (V.int i), v9, va, some (.ref pd), some (.ref pr)] = [some (.ref st), some (.ref a), some (.int (2 + d1)), some (.ref pf), v4, v5, some (.ref pc), some (.ref ps), v8, v9, va, some (.ref pd), some (.ref pr)] ∧ Ds K st a ns H H1 ∧ LF K H1 pf fl ∧ LD K H1 pc (ch.map chD) ∧ LF K H1 ps sh ∧ H1 pd = some (.lst (dv.map V.int)) ∧ LD K H1 pr (fr.map frD) ∧ (∀ z ∈ fr, (∀ p, z.1 = some p → 0 ≤ p ∧ p < 2 + d1) ∧ 128 ≤ z.2 ∧ z.2 ≤ 287) ∧ fr.length = i + 1) (.ref p) H2 := by
      intro o v ho hv d Hd hd0 hd1 ed Dd p H2 hp e2 h2
      obtain ⟨zs, z1, z2⟩ := (Rc.draw Dc ed orr.1 (frDs_t _)).same e2 (frDs_t _)
      refine M.x_append z1 (by have := M.DpAll.len z2; simp at this; omega) (fun H5 e5 h5 => ?_)
      exact ⟨_, fr ++ [(o, 128 + d)], rfl, (Dd.same e2).put e5 zr orr.1 orr, ((Lc.draw Dc ed of.1 (prDs_t _)).same e2 (prDs_t _)).ext e5 z1 nfr (prDs_t _), ((Cc.draw Dc ed oc.1 (chDs_t _)).same e2 (chDs_t _)).ext e5 z1 ncr (chDs_t _), ((Sc.draw Dc ed os.1 (prDs_t _)).same e2 (prDs_t _)).ext e5 z1 nsr (prDs_t _),
        e5.at1 nd (e2 _ _ (ed.at1 od.1 pcc)), by rw [List.map_append]; exact LD.app z1 z2 e5 h5 (frDs_t _) (frD_t _) (.tup (SqT.of h2) (.cons (hv _) (.cons (.int _) .nil))),
        (fun w hw => (List.mem_append.mp hw).elim (hfr w) fun q => by rw [List.mem_singleton.mp q]; exact ⟨ho, by show 128 ≤ 128 + d; omega, by show 128 + d ≤ 287; omega⟩), by rw [List.length_append, List.length_singleton, hn]⟩
    by_cases c : 0 < dc
    · rw [decide_eq_true c]
      refine M.x_ixL (xs := [.non, .int da]) (j := 1) (v := .int da) (SqL.of hc) rfl ?_
      walk_at "go"
      intro dd Hd ld ud ed Dd
      walk_at "go"
      intro p Hz hp ez hz2
      walk_at "go"
      exact fin (some da) (.int da) (fun p hp => by cases hp; exact ⟨la, ua⟩) (fun H => .int _) dd Hd ld ud ed Dd p Hz hp ez hz2
    · rw [decide_eq_false c]
      refine M.x_ixL (xs := [.non, .int da]) (j := 0) (v := .non) (SqL.of hc) rfl ?_
      walk_at "go"
      intro dd Hd ld ud ed Dd
      walk_at "go"
      intro p Hz hp ez hz2
      walk_at "go"
      exact fin none .non (fun p hp => by cases hp) (fun H => .non) dd Hd ld ud ed Dd p Hz hp ez hz2
  rintro σ' Hx ⟨v8, fr, rfl, Dx, Lx, Cx, Sx, px, Rx, hfr, hn⟩
  walk_at "go"
  intro q Hq hq eq hhq
  exact k q pf pc ps pd pr (2 + d1) fl ch sh dv fr Hq (Dx.free hq) (Dx.same eq) ⟨hhq, Lx.same eq (prDs_t _), Cx.same eq (chDs_t _), Sx.same eq (prDs_t _), eq _ _ px, Rx.same eq (frDs_t _), (Dx.off hq).1, of.1, oc.1, os.1, od.1, orr.1⟩ ⟨by omega, fx, nx, fcx, hcn, fsx, hsn, hdv, by omega, hfr, by omega⟩
end conf2

end K30
namespace K30
open PySem PySem.Spec PyProof.Rows L2
local macro_rules | `(tactic| walk_at "s") => `(tactic| first
  | ((with_reducible refine' M.x_var ?xv ?_); (case xv => exact rfl))
  | with_reducible refine M.x_c ?_
  | with_reducible refine M.x_op ?_
  | with_reducible refine M.x_seq ?_
  | with_reducible refine M.x_asg ?_
  | with_reducible refine M.x_gname ?_
  | with_reducible refine M.x_rI0 ?_
  | ((with_reducible refine' M.x_rI ?xc ?_); (case xc => walk_at "side"))
  | with_reducible refine M.x_call ?_
  | with_reducible refine M.x_callB ?_
  | with_reducible refine M.x_cons ?_
  | with_reducible refine M.x_nil ?_
  | with_reducible refine M.x_int ?_
  | with_reducible refine M.x_intB ?_
  | with_reducible refine M.x_ifS ?_
  | with_reducible refine M.x_test ?_
  | with_reducible refine M.x_tB ?_
  | with_reducible refine M.x_isB ?_
  | with_reducible refine M.x_ret ?_
  | with_reducible refine M.x_retN ?_
  | with_reducible refine M.x_next ?_
  | with_reducible refine M.x_brk ?_
  | with_reducible refine M.x_cont ?_
  | with_reducible refine M.x_drop ?_
  | with_reducible refine M.x_eqI ?_
  | with_reducible refine M.x_neI ?_
  | with_reducible refine M.x_eqS ?_
  | with_reducible refine M.x_neS ?_
  | with_reducible refine M.x_eqB ?_
  | with_reducible refine M.x_neB ?_
  | with_reducible refine M.x_ifT ?_
  | with_reducible refine M.x_ifF ?_
  | with_reducible refine M.x_and ?_
  | with_reducible refine M.x_or ?_
  | with_reducible refine M.x_not ?_
  | with_reducible refine M.x_ifNB ?_
  | with_reducible refine M.x_andV ?_
  | with_reducible refine M.x_orV ?_
  | with_reducible refine M.x_notV ?_
  | with_reducible refine M.x_ifE ?_
  | with_reducible refine M.x_chain ?_
  | with_reducible refine M.x_isN ?_
  | with_reducible refine M.x_notN ?_
  | with_reducible refine M.x_un ?_
  | with_reducible refine M.x_rU ?_
  | with_reducible refine M.x_max2 ?_
  | with_reducible refine M.x_min2 ?_
  | with_reducible refine M.x_isiII ?_
  | with_reducible refine M.x_isiIB ?_
  | with_reducible refine M.x_isiBB ?_
  | with_reducible refine M.x_isiSS ?_
  | ((with_reducible refine' M.x_ifTD ?xp ?_); (case xp => first | exact rfl | decide | omega))
  | ((with_reducible refine' M.x_ifFD ?xp ?_); (case xp => first | exact rfl | decide | omega))
  | with_reducible refine M.x_lst' ?_
  | with_reducible refine M.x_tup' ?_)
local macro_rules | `(tactic| walk_at "side") => `(tactic| first
  | decide
  | (show (0 : Int) < _; decide)
  | (show (0 : Int) < _; omega)
  | (show (0 : Int) ≤ _; omega)
  | (exact ⟨by decide, by decide⟩)
  | (exact ⟨by omega, by omega⟩)
  | (exact Or.inr ⟨by decide, by decide⟩)
  | (exact Or.inl ⟨by decide, by decide⟩)
  | (exact Or.inr ⟨by omega, by omega⟩)
  | (exact Or.inl ⟨by omega, by omega⟩)
  | (exact ⟨by decide, by decide, by decide⟩)
  | (exact ⟨by omega, by omega, by omega⟩))
local macro_rules | `(tactic| walk_at "go") => `(tactic| (repeat walk_at "s"))
local macro_rules | `(tactic| walk_at "hp") => `(tactic| first
  | assumption
  | exact upd_same
  | ((refine' M.same_hp ?xe ?xq); (case xe => assumption); (case xq => walk_at "hp")))
local macro_rules | `(tactic| walk_at "seq") => `(tactic| first
  | assumption
  | exact SqL.of (by assumption)
  | ((refine' Same.seq ?xe ?xq); (case xe => assumption); (case xq => walk_at "seq")))
local macro_rules | `(tactic| walk_at "sqt") => `(tactic| first
  | assumption
  | exact SqT.of (by assumption)
  | ((refine' M.Same.st ?xe ?xq); (case xe => assumption); (case xq => walk_at "sqt")))
local macro_rules | `(tactic| walk_at "at") => `(tactic| first
  | with_reducible exact M.atI_ints (by first | decide | omega) (by omega)
  | with_reducible exact M.atI_ints (by first | decide | omega) (by simp; omega)
  | exact rfl)
local macro_rules | `(tactic| walk_at "s") => `(tactic| first
  | with_reducible refine M.x_truV ?_
  | ((with_reducible refine' M.x_truL ?xh ?_); (case xh => walk_at "seq"))
  | with_reducible refine M.x_truI ?_
  | with_reducible refine M.x_isBl ?_
  | with_reducible refine M.x_notBl ?_
  | ((with_reducible refine' M.x_ixL ?xh ?xa ?_); (case xh => walk_at "seq"); (case xa => walk_at "at"))
  | ((with_reducible refine' M.x_ixT ?xh ?xa ?_); (case xh => walk_at "sqt"); (case xa => walk_at "at"))
  | ((with_reducible refine' M.x_lenL ?xh ?_); (case xh => walk_at "seq"))
  | ((with_reducible refine' M.x_lenT ?xh ?_); (case xh => walk_at "sqt"))
  | ((with_reducible refine' M.x_listL ?xh ?_); (case xh => walk_at "seq"))
  | ((with_reducible refine' M.x_newL ?xz ?_); (case xz => exact M.sl4 (by first | decide | (simp; done) | (simp; omega))))
  | ((with_reducible refine' M.x_newT ?xz ?_); (case xz => exact M.sl4 (by first | decide | (simp; done) | (simp; omega))))
  | ((with_reducible refine' M.x_cat ?xh ?xi ?xz ?_); (case xh => walk_at "hp"); (case xi => walk_at "hp"); (case xz => exact M.sl4 (by first | decide | (simp; done) | (simp; omega)))))

local macro_rules | `(tactic| walk_at "s") => `(tactic| first
  | ((with_reducible refine' M.x_inL ?xh ?xf ?xg ?_); (case xh => walk_at "seq"); (case xf => exact rfl); (case xg => first | exact rfl | exact M.flat_strsV _))
  | ((with_reducible refine' M.x_inT ?xh ?xf ?xg ?_); (case xh => walk_at "sqt"); (case xf => exact rfl); (case xg => first | exact rfl | exact M.flat_strsV _))
  | ((with_reducible refine' M.x_notInL ?xh ?xf ?xg ?_); (case xh => walk_at "seq"); (case xf => exact rfl); (case xg => first | exact rfl | exact M.flat_strsV _))
  | ((with_reducible refine' M.x_notInT ?xh ?xf ?xg ?_); (case xh => walk_at "sqt"); (case xf => exact rfl); (case xg => first | exact rfl | exact M.flat_strsV _))
  | with_reducible refine M.x_bm ?_
  | ((with_reducible refine' M.x_tyL ?xh ?_); (case xh => walk_at "seq"))
  | ((with_reducible refine' M.x_tyK ?xh ?_); (case xh => walk_at "tyk"))
  | with_reducible refine M.x_m1 ?_
  | with_reducible refine M.x_txt ?_
  | ((with_reducible refine' M.x_split ?xh ?xi ?_); (case xh => decide +kernel); (case xi => decide +kernel))
  | ((with_reducible refine' M.x_addZ ?xh ?_); (case xh => decide +kernel))
  | ((with_reducible refine' M.x_tupL ?xh ?_); (case xh => walk_at "seq"))
  | ((with_reducible refine' M.x_isiTT ?xh ?_); (case xh => walk_at "hp"))
  | with_reducible refine M.x_rz ?_
  | with_reducible refine M.x_mkE ?_
  | with_reducible refine M.x_tryAs ?_
  | with_reducible refine M.x_callS ?_
  | with_reducible refine M.x_xf ?_)
local macro_rules | `(tactic| walk_at "s") => `(tactic| first
  | with_reducible refine M.x_isN0 ?_
  | with_reducible refine M.x_isNr ?_
  | with_reducible refine M.x_isNi ?_
  | with_reducible refine M.x_isNs ?_
  | with_reducible refine M.x_notN0 ?_
  | with_reducible refine M.x_notNr ?_
  | with_reducible refine M.x_notNi ?_
  | with_reducible refine M.x_notNs ?_)
local macro_rules | `(tactic| walk_at "split") => `(tactic| (walk_at "go"; first | done | ((refine M.x_ifD (fun _ => ?_) (fun _ => ?_)) <;> walk_at "split") | ((refine M.x_if (fun _ => ?_) (fun _ => ?_)) <;> walk_at "split") | skip))
local macro_rules | `(tactic| walk_at "sqt") => `(tactic| first
  | fail
)

local macro_rules | `(tactic| walk_at "cls") => `(tactic| first
  | exact Tx.c_Partition (by assumption)
  | exact Tx.c_Config (by assumption))
local macro_rules | `(tactic| walk_at "noat") => `(tactic| first
  | exact Tx.n_Partition_image (by assumption)
  | exact Tx.n_Partition_pages (by assumption)
  | exact Tx.n_Partition_start (by assumption)
  | exact Tx.n_Config_partitions (by assumption)
  | exact Tx.n_Config_frames (by assumption)
  | exact Tx.n_Config_channels (by assumption)
  | exact Tx.n_Config_shares (by assumption)
  | exact Tx.n_Config_devices (by assumption)
  | exact Tx.n_Config_flows (by assumption))
local macro_rules | `(tactic| walk_at "ne") => `(tactic| first
  | assumption
  | exact Ne.symm (by assumption)
  | exact M.ne_il (by assumption) (by assumption)
  | exact M.ne_li (by assumption) (by assumption))
local macro_rules | `(tactic| walk_at "hp0") => `(tactic| assumption)
local macro_rules | `(tactic| walk_at "s") => `(tactic| first
  | with_reducible refine M.x_gsub ?_
  | with_reducible refine M.x_gnil ?_
  | with_reducible refine M.x_gcons ?_
  | ((with_reducible refine' M.x_gtup ?xh ?xl ?_); (case xh => walk_at "sqt"); (case xl => exact rfl))
  | with_reducible refine M.x_fld ?_
  | ((with_reducible refine' M.x_isFld ?xh ?xc ?xn ?xl ?_); (case xh => walk_at "hp"); (case xc => walk_at "cls"); (case xn => walk_at "noat"); (case xl => exact rfl))
  | with_reducible refine M.x_sfld ?_
  | with_reducible refine M.x_meth ?_
  | with_reducible refine M.x_methS ?_
  | ((with_reducible refine' M.x_isMeth ?xh ?xl ?_); (case xh => walk_at "hp"); (case xl => exact rfl))
  | with_reducible refine M.x_make ?_
  | with_reducible refine M.x_dget ?_
  | ((with_reducible refine' M.x_isDG ?xh ?xl ?_); (case xh => walk_at "hp"); (case xl => exact rfl))
  | with_reducible refine M.x_dput ?_
  | with_reducible refine M.x_mkE2 ?_
  | with_reducible refine M.x_tryO ?_
  | with_reducible refine M.x_fldaug ?_
  | with_reducible refine M.x_turn ?_)
local macro_rules | `(tactic| walk_at "hp") => `(tactic| first
  | assumption
  | exact upd_same
  | ((refine' M.Ext.at1 ?xe ?xn ?xq); (case xe => assumption); (case xn => walk_at "ne"); (case xq => walk_at "hp"))
  | ((refine' M.same_hp ?xe ?xq); (case xe => assumption); (case xq => walk_at "hp")))
local macro_rules | `(tactic| walk_at "seq") => `(tactic| first
  | assumption
  | ((refine' SqL.of ?xq); (case xq => walk_at "hp")))
local macro_rules | `(tactic| walk_at "at") => `(tactic| first
  | assumption
  | with_reducible exact M.atI_ints (by first | decide | omega) (by omega)
  | with_reducible exact M.atI_ints (by first | decide | omega) (by simp; omega)
  | exact rfl)
local macro_rules | `(tactic| walk_at "s") => `(tactic| ((with_reducible refine' M.x_setI ?xh ?x0 ?x1 ?_); (case xh => walk_at "hp"); (case x0 => omega); (case x1 => first | omega | (simp only [List.length_set]; omega))))

local macro_rules | `(tactic| walk_at "s") => `(tactic| first
  | ((with_reducible refine' M.x_lenLI ?xh ?_); (case xh => walk_at "seq"))
  | ((with_reducible refine' M.x_lenTI ?xh ?_); (case xh => walk_at "sqt")))
local macro_rules | `(tactic| walk_at "gn") => `(tactic| first
  | with_reducible refine M.x_gn0 ?_
  | with_reducible refine M.x_gn1 ?_
  | with_reducible refine M.x_gn2 ?_
  | with_reducible refine M.x_gn3 ?_
  | with_reducible refine M.x_gn4 ?_
  | with_reducible refine M.x_gn5 ?_
  | with_reducible refine M.x_gn6 ?_
  | with_reducible refine M.x_gn7 ?_
  | with_reducible refine M.x_gn8 ?_
  | with_reducible refine M.x_gn9 ?_
  | with_reducible refine M.x_gn10 ?_
  | with_reducible refine M.x_gn11 ?_
  | with_reducible refine M.x_gn12 ?_
  | with_reducible refine M.x_gn13 ?_
  | with_reducible refine M.x_gn14 ?_
  | with_reducible refine M.x_gn15 ?_
  | with_reducible refine M.x_gn16 ?_
  | with_reducible refine M.x_gn17 ?_
  | with_reducible refine M.x_gn18 ?_
  | with_reducible refine M.x_gn19 ?_
  | with_reducible refine M.x_gn20 ?_
  | with_reducible refine M.x_gn21 ?_
  | with_reducible refine M.x_gn22 ?_
  | with_reducible refine M.x_gn23 ?_
  | with_reducible refine M.x_gn24 ?_
  | with_reducible refine M.x_gn25 ?_)
local macro_rules | `(tactic| walk_at "s") => `(tactic| walk_at "gn")

local macro_rules | `(tactic| walk_at "s") => `(tactic| first
  | with_reducible refine M.x_lcI ?_
  | with_reducible refine M.x_isOI ?_
  | with_reducible refine M.x_part ?_
  | with_reducible refine M.x_noPart ?_
  | with_reducible refine M.x_sl ?_
  | ((with_reducible refine' M.x_slL ?xh ?_); (case xh => walk_at "seq"))
  | with_reducible refine M.x_pnil ?_
  | with_reducible refine M.x_pcons ?_
  | with_reducible refine M.x_disp ?_)

local macro_rules | `(tactic| walk_at "s") => `(tactic| first
  | ((with_reducible refine' M.x_setI ?xh ?x0 ?x1 ?_); (case xh => walk_at "hp"); (case x0 => first | decide | omega); (case x1 => first | decide | (simp only [List.length_set, List.length_cons, List.length_nil]; omega)))
  | with_reducible refine M.x_tYes ?_
  | with_reducible refine M.x_forRI ?_
  | with_reducible refine M.x_forLI ?_
  | with_reducible refine M.x_forTI ?_
  | with_reducible refine M.x_lcRI ?_
  | with_reducible refine M.x_lcLI ?_
  | with_reducible refine M.x_lcTI ?_)

section conf3
variable {P : Program} {w : World} {K : PySem.W.Frag} {mg : Str → Option Value} {base : Heap}
structure PartV where
  img : List Int
  pages : Int
  start : Int
structure CfgV where
  parts : List PartV
  frames : List (Option Int × Int)
  chans : List (Int × Int × Int × Bool)
  shares : List (Int × Int)
  devs : List Int
  flows : List (Int × Int)
theorem x_tupQ {p : Addr} {ys : List V} {H : Hp} {Q : VK} (h : SqL K H p ys ∨ SqT K H p ys) (k : ∀ q H2, (H q = none ∨ q = p) → Same H H2 → SqT K H2 q ys → Q (.ref q) H2) : M.rTupQ K [.ref p] H Q := by
  rcases h with h | h
  · exact ⟨p, ys, rfl, .inl ⟨h, fun l hl => k l _ (.inl hl) (M.same_new hl) (SqT.of upd_same)⟩⟩
  · exact ⟨p, ys, rfl, .inr ⟨h, k p H (.inr rfl) (Same.refl _) h⟩⟩
def PartAt (K : PySem.W.Frag) (x : Addr) (v : PartV) (H : Hp) : Prop := ∃ dx t, H x = some (.ins (He.ga K "Partition") dx [("image", .ref t), ("pages", .int v.pages), ("start", .int v.start)]) ∧ SqT K H t (v.img.map V.int)
theorem PartAt.kp {x : Addr} {v : PartV} {H H' : Hp} (h : PartAt K x v H) (e : M.Kp H H') : PartAt K x v H' := by
  obtain ⟨dx, t, h1, h2⟩ := h
  exact ⟨dx, t, e _ _ h1 (.inr rfl), M.SqT.kp e h2⟩
def sp_P_init (K : PySem.W.Frag) : Sp := fun vs H Q _ => ∃ (m dx p : Addr) (img : List Int) (pg sa : Int), vs = [.ref m, .ref p, .int pg, .int sa] ∧ H m = some (.ins (He.ga K "Partition") dx []) ∧ (SqL K H p (img.map V.int) ∨ SqT K H p (img.map V.int)) ∧ ∀ H', M.Ext [m] H H' → PartAt K m ⟨img, pg, sa⟩ H' → Q .non H'
abbrev M.N_Partition___init__ : List Str := ["self", "image", "pages", "start"]
theorem sc_Partition___init__ : FnScope M.N_Partition___init__ ["self", "image", "pages", "start"] (defScope s_Partition___init__) := ⟨rfl, rfl, rfl, by decide +kernel, rfl, by decide +kernel, by decide +kernel⟩
theorem SqT.ne_ins {t m : Addr} {xs : List V} {C dx : Addr} {fs : List (Str × V)} {H H' : Hp} (h : SqT K H t xs) (hm : H m = some (.ins C dx fs)) (e : M.Ext [m] H H') : SqT K H' t xs := by
  rcases h with (h | ⟨o, h⟩) | h
  · exact .inl (.inl (e.at1 (M.ne_ti h hm) h))
  · exact .inl (.inr ⟨o, e.at1 (M.ne_ho h hm (fun z => by cases z)) h⟩)
  · exact .inr h
theorem SqL.ne_ins {t m : Addr} {xs : List V} {C dx : Addr} {fs : List (Str × V)} {H H' : Hp} (h : SqL K H t xs) (hm : H m = some (.ins C dx fs)) (e : M.Ext [m] H H') : SqL K H' t xs := by
  rcases h with (h | ⟨o, h⟩) | h
  · exact .inl (.inl (e.at1 (M.ne_li h hm) h))
  · exact .inl (.inr ⟨o, e.at1 (M.ne_ho h hm (fun z => by cases z)) h⟩)
  · exact .inr h
theorem SqL.same {t : Addr} {xs : List V} {H H' : Hp} (h : SqL K H t xs) (e : Same H H') : SqL K H' t xs := e.seq h
theorem ok_Partition___init__ (T : Tx K mg) : C8.Mak P w K mg base 1 "Partition" (He.ga K "Partition") (sp_P_init K) [] := by
  refine M.mak_mk T.f_Partition___init__ T.k_Partition T.g_Partition sc_Partition___init__ (fun _ _ _ _ _ _ us hl => match us, hl with | [_, _, _, _], _ => rfl) (by rintro vs H Q E ⟨m, dx, p, img, pg, sa, rfl, _⟩; rfl) fun cdv A outer s H vs Q E hr h => ?_
  obtain ⟨m, dx, p, img, pg, sa, rfl, hm, hp, k⟩ := h
  refine ⟨_, (pss_cons (ps_fld (pv 0) (pe_callTy M.call_tuple (by rfl) T.b_tuple (by decide +kernel) (pa_cons (pv 1) pa_nil)) rfl) (pss_cons (ps_fld (pv 0) (pv 2) rfl) (pss_one (ps_fld (pv 0) (pv 3) rfl)))), ?_⟩
  refine M.x_st (σ0 := [some _, some _, some _, some _]) rfl ?_
  walk_at "go"
  refine x_tupQ hp (fun q H1 _ e1 h1 => ?_)
  have hm1 := e1 _ _ hm
  walk_at "go"
  refine M.x_isSF hm1 T.c_Partition T.n_Partition_image (by decide) rfl (fun H2 e2 h2 => ?_)
  have q2 := SqT.ne_ins h1 hm1 e2
  walk_at "go"
  refine M.x_isSF h2 T.c_Partition T.n_Partition_pages (by show 1 < 1000; decide) rfl (fun H3 e3 h3 => ?_)
  have q3 := SqT.ne_ins q2 h2 e3
  walk_at "go"
  refine M.x_isSF h3 T.c_Partition T.n_Partition_start (by show 2 < 1000; decide) rfl (fun H4 e4 h4 => ?_)
  have q4 := SqT.ne_ins q3 h3 e4
  walk_at "go"
  exact k H4 ((M.Ext.of_same e1).trans (e2.trans (e3.trans e4))) ⟨dx, q, h4, q4⟩
theorem same_ins {x : Addr} {H H2 H3 : Hp} (h : H x = none) (e : Same H H2) (f : M.Ext [x] H2 H3) : Same H H3 := fun b o hb => f.at1 (ne_of_none hb h) (e b o hb)
theorem go_newP {p : Addr} {img : List Int} {pg sa : Int} {H : Hp} {Q : VK} {E : XK} (h : SqL K H p (img.map V.int) ∨ SqT K H p (img.map V.int)) (k : ∀ x H', H x = none → Same H H' → PartAt K x ⟨img, pg, sa⟩ H' → Q (.ref x) H') : M.isNew (He.ga K "Partition") (sp_P_init K) E [.ref p, .int pg, .int sa] H Q :=
  M.x_isNew fun x dx H2 hx e h2 => ⟨x, dx, p, img, pg, sa, rfl, h2, h.imp (fun q => SqL.same q e) (fun q => M.Same.st e q), fun H3 f h3 => ⟨rfl, k x H3 hx (same_ins hx e f) h3⟩⟩
/-! ## configurations -/
structure CA where
  dx : Addr
  t1 : Addr
  t2 : Addr
  t3 : Addr
  t4 : Addr
  t5 : Addr
  t6 : Addr
  ps : List Addr
def CA.fs (A : CA) : List (Str × V) := [("partitions", .ref A.t1), ("frames", .ref A.t2), ("channels", .ref A.t3), ("shares", .ref A.t4), ("devices", .ref A.t5), ("flows", .ref A.t6)]
def PartsL (K : PySem.W.Frag) (H : Hp) (ps : List Addr) (vs : List PartV) : Prop := ps.length = vs.length ∧ ∀ (i : Nat) p v, ps[i]? = some p → vs[i]? = some v → PartAt K p v H
theorem PartsL.kp {ps : List Addr} {vs : List PartV} {H H' : Hp} (h : PartsL K H ps vs) (e : M.Kp H H') : PartsL K H' ps vs := ⟨h.1, fun i p v h1 h2 => (h.2 i p v h1 h2).kp e⟩
structure CfgAt (K : PySem.W.Frag) (c : Addr) (A : CA) (v : CfgV) (H : Hp) : Prop where
  h : H c = some (.ins (He.ga K "Config") A.dx A.fs)
  q1 : SqT K H A.t1 (A.ps.map V.ref)
  pp : PartsL K H A.ps v.parts
  q2 : Dp K H (.ref A.t2) (.tuple (v.frames.map frD))
  q3 : Dp K H (.ref A.t3) (.tuple (v.chans.map chD))
  q4 : Dp K H (.ref A.t4) (.tuple (v.shares.map prD))
  q5 : SqT K H A.t5 (v.devs.map V.int)
  q6 : Dp K H (.ref A.t6) (.tuple (v.flows.map prD))
theorem CfgAt.kp {c : Addr} {A : CA} {v : CfgV} {H H' : Hp} (h : CfgAt K c A v H) (e : M.Kp H H') : CfgAt K c A v H' :=
  ⟨e _ _ h.h (.inl rfl), M.SqT.kp e h.q1, h.pp.kp e, M.Dp.kp e _ _ (by simp only [M.tupD]; exact frDs_t _) h.q2, M.Dp.kp e _ _ (by simp only [M.tupD]; exact chDs_t _) h.q3, M.Dp.kp e _ _ (by simp only [M.tupD]; exact prDs_t _) h.q4, M.SqT.kp e h.q5, M.Dp.kp e _ _ (by simp only [M.tupD]; exact prDs_t _) h.q6⟩
theorem CfgAt.same {c : Addr} {A : CA} {v : CfgV} {H H' : Hp} (h : CfgAt K c A v H) (e : Same H H') : CfgAt K c A v H' := h.kp (M.Kp.same e)
def sp_C_init (K : PySem.W.Frag) : Sp := fun vs H Q _ => ∃ (m dx p1 p2 p3 p4 p5 p6 : Addr) (x1 x2 x3 x4 x5 x6 : List V), vs = [.ref m, .ref p1, .ref p2, .ref p3, .ref p4, .ref p5, .ref p6] ∧ H m = some (.ins (He.ga K "Config") dx []) ∧
  (SqL K H p1 x1 ∨ SqT K H p1 x1) ∧ (SqL K H p2 x2 ∨ SqT K H p2 x2) ∧ (SqL K H p3 x3 ∨ SqT K H p3 x3) ∧ (SqL K H p4 x4 ∨ SqT K H p4 x4) ∧ (SqL K H p5 x5 ∨ SqT K H p5 x5) ∧ (SqL K H p6 x6 ∨ SqT K H p6 x6) ∧
  ∀ (A : CA) H', A.dx = dx → M.Ext [m] H H' → H' m = some (.ins (He.ga K "Config") dx A.fs) → SqT K H' A.t1 x1 → SqT K H' A.t2 x2 → SqT K H' A.t3 x3 → SqT K H' A.t4 x4 → SqT K H' A.t5 x5 → SqT K H' A.t6 x6 → (H A.t1 = none ∨ A.t1 = p1) → Q .non H'
abbrev M.N_Config___init__ : List Str := ["self", "partitions", "frames", "channels", "shares", "devices", "flows"]
theorem sc_Config___init__ : FnScope M.N_Config___init__ ["self", "partitions", "frames", "channels", "shares", "devices", "flows"] (defScope s_Config___init__) := ⟨rfl, rfl, rfl, by decide +kernel, rfl, by decide +kernel, by decide +kernel⟩
theorem or_ins {t m : Addr} {xs : List V} {C dx : Addr} {fs : List (Str × V)} {H H' : Hp} (h : SqL K H t xs ∨ SqT K H t xs) (hm : H m = some (.ins C dx fs)) (e : M.Ext [m] H H') : SqL K H' t xs ∨ SqT K H' t xs := h.imp (fun q => SqL.ne_ins q hm e) (fun q => SqT.ne_ins q hm e)
theorem or_same {t : Addr} {xs : List V} {H H' : Hp} (h : SqL K H t xs ∨ SqT K H t xs) (e : Same H H') : SqL K H' t xs ∨ SqT K H' t xs := h.imp (fun q => SqL.same q e) (fun q => M.Same.st e q)
theorem ok_Config___init__ (T : Tx K mg) : C8.Mak P w K mg base 1 "Config" (He.ga K "Config") (sp_C_init K) [] := by
  refine M.mak_mk T.f_Config___init__ T.k_Config T.g_Config sc_Config___init__ (fun _ _ _ _ _ _ us hl => match us, hl with | [_, _, _, _, _, _, _], _ => rfl) (by rintro vs H Q E ⟨m, dx, p1, p2, p3, p4, p5, p6, x1, x2, x3, x4, x5, x6, rfl, _⟩; rfl) fun cdv A outer s H vs Q E hr h => ?_
  obtain ⟨m, dx, p1, p2, p3, p4, p5, p6, x1, x2, x3, x4, x5, x6, rfl, hm, h1, h2, h3, h4, h5, h6, k⟩ := h
  refine ⟨_, (pss_cons (ps_fld (pv 0) (pe_callTy M.call_tuple (by rfl) T.b_tuple (by decide +kernel) (pa_cons (pv 1) pa_nil)) rfl) (pss_cons (ps_fld (pv 0) (pe_callTy M.call_tuple (by rfl) T.b_tuple (by decide +kernel) (pa_cons (pv 2) pa_nil)) rfl) (pss_cons (ps_fld (pv 0) (pe_callTy M.call_tuple (by rfl) T.b_tuple (by decide +kernel) (pa_cons (pv 3) pa_nil)) rfl) (pss_cons (ps_fld (pv 0) (pe_callTy M.call_tuple (by rfl) T.b_tuple (by decide +kernel) (pa_cons (pv 4) pa_nil)) rfl) (pss_cons (ps_fld (pv 0) (pe_callTy M.call_tuple (by rfl) T.b_tuple (by decide +kernel) (pa_cons (pv 5) pa_nil)) rfl) (pss_one (ps_fld (pv 0) (pe_callTy M.call_tuple (by rfl) T.b_tuple (by decide +kernel) (pa_cons (pv 6) pa_nil)) rfl))))))), ?_⟩
  refine M.x_st (σ0 := [some _, some _, some _, some _, some _, some _, some _]) rfl ?_
  walk_at "go"
  refine x_tupQ h1 (fun q1 H1 o1 e1 k1 => ?_)
  replace h2 := or_same h2 e1; replace h3 := or_same h3 e1; replace h4 := or_same h4 e1; replace h5 := or_same h5 e1; replace h6 := or_same h6 e1
  have m1 := e1 _ _ hm
  walk_at "go"
  refine M.x_isSF m1 T.c_Config T.n_Config_partitions (by decide) rfl (fun H2 f1 m2 => ?_)
  replace k1 := SqT.ne_ins k1 m1 f1
  replace h2 := or_ins h2 m1 f1; replace h3 := or_ins h3 m1 f1; replace h4 := or_ins h4 m1 f1; replace h5 := or_ins h5 m1 f1; replace h6 := or_ins h6 m1 f1
  walk_at "go"
  refine x_tupQ h2 (fun q2 H3 _ e2 k2 => ?_)
  have m3 := e2 _ _ m2
  replace k1 := M.Same.st e2 k1
  replace h3 := or_same h3 e2; replace h4 := or_same h4 e2; replace h5 := or_same h5 e2; replace h6 := or_same h6 e2
  walk_at "go"
  refine M.x_isSF m3 T.c_Config T.n_Config_frames (by show 1 < 1000; decide) rfl (fun H4 f2 m4 => ?_)
  replace k1 := SqT.ne_ins k1 m3 f2; replace k2 := SqT.ne_ins k2 m3 f2
  replace h3 := or_ins h3 m3 f2; replace h4 := or_ins h4 m3 f2; replace h5 := or_ins h5 m3 f2; replace h6 := or_ins h6 m3 f2
  walk_at "go"
  refine x_tupQ h3 (fun q3 H5 _ e3 k3 => ?_)
  have m5 := e3 _ _ m4
  replace k1 := M.Same.st e3 k1; replace k2 := M.Same.st e3 k2
  replace h4 := or_same h4 e3; replace h5 := or_same h5 e3; replace h6 := or_same h6 e3
  walk_at "go"
  refine M.x_isSF m5 T.c_Config T.n_Config_channels (by show 2 < 1000; decide) rfl (fun H6 f3 m6 => ?_)
  replace k1 := SqT.ne_ins k1 m5 f3; replace k2 := SqT.ne_ins k2 m5 f3; replace k3 := SqT.ne_ins k3 m5 f3
  replace h4 := or_ins h4 m5 f3; replace h5 := or_ins h5 m5 f3; replace h6 := or_ins h6 m5 f3
  walk_at "go"
  refine x_tupQ h4 (fun q4 H7 _ e4 k4 => ?_)
  have m7 := e4 _ _ m6
  replace k1 := M.Same.st e4 k1; replace k2 := M.Same.st e4 k2; replace k3 := M.Same.st e4 k3
  replace h5 := or_same h5 e4; replace h6 := or_same h6 e4
  walk_at "go"
  refine M.x_isSF m7 T.c_Config T.n_Config_shares (by show 3 < 1000; decide) rfl (fun H8 f4 m8 => ?_)
  replace k1 := SqT.ne_ins k1 m7 f4; replace k2 := SqT.ne_ins k2 m7 f4; replace k3 := SqT.ne_ins k3 m7 f4; replace k4 := SqT.ne_ins k4 m7 f4
  replace h5 := or_ins h5 m7 f4; replace h6 := or_ins h6 m7 f4
  walk_at "go"
  refine x_tupQ h5 (fun q5 H9 _ e5 k5 => ?_)
  have m9 := e5 _ _ m8
  replace k1 := M.Same.st e5 k1; replace k2 := M.Same.st e5 k2; replace k3 := M.Same.st e5 k3; replace k4 := M.Same.st e5 k4
  replace h6 := or_same h6 e5
  walk_at "go"
  refine M.x_isSF m9 T.c_Config T.n_Config_devices (by show 4 < 1000; decide) rfl (fun Ha f5 ma => ?_)
  replace k1 := SqT.ne_ins k1 m9 f5; replace k2 := SqT.ne_ins k2 m9 f5; replace k3 := SqT.ne_ins k3 m9 f5; replace k4 := SqT.ne_ins k4 m9 f5; replace k5 := SqT.ne_ins k5 m9 f5
  replace h6 := or_ins h6 m9 f5
  walk_at "go"
  refine x_tupQ h6 (fun q6 Hb _ e6 k6 => ?_)
  have mb := e6 _ _ ma
  replace k1 := M.Same.st e6 k1; replace k2 := M.Same.st e6 k2; replace k3 := M.Same.st e6 k3; replace k4 := M.Same.st e6 k4; replace k5 := M.Same.st e6 k5
  walk_at "go"
  refine M.x_isSF mb T.c_Config T.n_Config_flows (by show 5 < 1000; decide) rfl (fun Hc f6 mc => ?_)
  replace k1 := SqT.ne_ins k1 mb f6; replace k2 := SqT.ne_ins k2 mb f6; replace k3 := SqT.ne_ins k3 mb f6; replace k4 := SqT.ne_ins k4 mb f6; replace k5 := SqT.ne_ins k5 mb f6; replace k6 := SqT.ne_ins k6 mb f6
  walk_at "go"
  have z := M.Ext.of_same (S := [m]) e1
  exact k ⟨dx, q1, q2, q3, q4, q5, q6, []⟩ Hc rfl (z.trans (f1.trans ((M.Ext.of_same e2).trans (f2.trans ((M.Ext.of_same e3).trans (f3.trans ((M.Ext.of_same e4).trans (f4.trans ((M.Ext.of_same e5).trans (f5.trans ((M.Ext.of_same e6).trans f6))))))))))) mc k1 k2 k3 k4 k5 k6 o1
theorem go_newC {p1 p2 p3 p4 p5 p6 : Addr} {x1 x2 x3 x4 x5 x6 : List V} {H : Hp} {Q : VK} {E : XK} (h1 : SqL K H p1 x1 ∨ SqT K H p1 x1) (h2 : SqL K H p2 x2 ∨ SqT K H p2 x2) (h3 : SqL K H p3 x3 ∨ SqT K H p3 x3) (h4 : SqL K H p4 x4 ∨ SqT K H p4 x4) (h5 : SqL K H p5 x5 ∨ SqT K H p5 x5) (h6 : SqL K H p6 x6 ∨ SqT K H p6 x6)
    (k : ∀ c (A : CA) H', H c = none → Same H H' → H' c = some (.ins (He.ga K "Config") A.dx A.fs) → SqT K H' A.t1 x1 → SqT K H' A.t2 x2 → SqT K H' A.t3 x3 → SqT K H' A.t4 x4 → SqT K H' A.t5 x5 → SqT K H' A.t6 x6 → (H A.t1 = none ∨ A.t1 = p1) → Q (.ref c) H') : M.isNew (He.ga K "Config") (sp_C_init K) E [.ref p1, .ref p2, .ref p3, .ref p4, .ref p5, .ref p6] H Q :=
  M.x_isNew fun x dx H2 hx e h => ⟨x, dx, p1, p2, p3, p4, p5, p6, x1, x2, x3, x4, x5, x6, rfl, h, or_same h1 e, or_same h2 e, or_same h3 e, or_same h4 e, or_same h5 e, or_same h6 e, fun A H3 hd f h k1 k2 k3 k4 k5 k6 o => by
    subst hd
    refine ⟨rfl, k x A H3 hx (same_ins hx e f) h k1 k2 k3 k4 k5 k6 (o.imp (fun q => ?_) id)⟩
    cases hz : H A.t1 with
    | none => rfl
    | some o => rw [e _ _ hz] at q; cases q⟩
end conf3

end K30
namespace K30
open PySem PySem.Spec PyProof.Rows L2
local macro_rules | `(tactic| walk_at "s") => `(tactic| first
  | ((with_reducible refine' M.x_var ?xv ?_); (case xv => exact rfl))
  | with_reducible refine M.x_c ?_
  | with_reducible refine M.x_op ?_
  | with_reducible refine M.x_seq ?_
  | with_reducible refine M.x_asg ?_
  | with_reducible refine M.x_gname ?_
  | with_reducible refine M.x_rI0 ?_
  | ((with_reducible refine' M.x_rI ?xc ?_); (case xc => walk_at "side"))
  | with_reducible refine M.x_call ?_
  | with_reducible refine M.x_callB ?_
  | with_reducible refine M.x_cons ?_
  | with_reducible refine M.x_nil ?_
  | with_reducible refine M.x_int ?_
  | with_reducible refine M.x_intB ?_
  | with_reducible refine M.x_ifS ?_
  | with_reducible refine M.x_test ?_
  | with_reducible refine M.x_tB ?_
  | with_reducible refine M.x_isB ?_
  | with_reducible refine M.x_ret ?_
  | with_reducible refine M.x_retN ?_
  | with_reducible refine M.x_next ?_
  | with_reducible refine M.x_brk ?_
  | with_reducible refine M.x_cont ?_
  | with_reducible refine M.x_drop ?_
  | with_reducible refine M.x_eqI ?_
  | with_reducible refine M.x_neI ?_
  | with_reducible refine M.x_eqS ?_
  | with_reducible refine M.x_neS ?_
  | with_reducible refine M.x_eqB ?_
  | with_reducible refine M.x_neB ?_
  | with_reducible refine M.x_ifT ?_
  | with_reducible refine M.x_ifF ?_
  | with_reducible refine M.x_and ?_
  | with_reducible refine M.x_or ?_
  | with_reducible refine M.x_not ?_
  | with_reducible refine M.x_ifNB ?_
  | with_reducible refine M.x_andV ?_
  | with_reducible refine M.x_orV ?_
  | with_reducible refine M.x_notV ?_
  | with_reducible refine M.x_ifE ?_
  | with_reducible refine M.x_chain ?_
  | with_reducible refine M.x_isN ?_
  | with_reducible refine M.x_notN ?_
  | with_reducible refine M.x_un ?_
  | with_reducible refine M.x_rU ?_
  | with_reducible refine M.x_max2 ?_
  | with_reducible refine M.x_min2 ?_
  | with_reducible refine M.x_isiII ?_
  | with_reducible refine M.x_isiIB ?_
  | with_reducible refine M.x_isiBB ?_
  | with_reducible refine M.x_isiSS ?_
  | ((with_reducible refine' M.x_ifTD ?xp ?_); (case xp => first | exact rfl | decide | omega))
  | ((with_reducible refine' M.x_ifFD ?xp ?_); (case xp => first | exact rfl | decide | omega))
  | with_reducible refine M.x_lst' ?_
  | with_reducible refine M.x_tup' ?_)
local macro_rules | `(tactic| walk_at "side") => `(tactic| first
  | decide
  | (show (0 : Int) < _; decide)
  | (show (0 : Int) < _; omega)
  | (show (0 : Int) ≤ _; omega)
  | (exact ⟨by decide, by decide⟩)
  | (exact ⟨by omega, by omega⟩)
  | (exact Or.inr ⟨by decide, by decide⟩)
  | (exact Or.inl ⟨by decide, by decide⟩)
  | (exact Or.inr ⟨by omega, by omega⟩)
  | (exact Or.inl ⟨by omega, by omega⟩)
  | (exact ⟨by decide, by decide, by decide⟩)
  | (exact ⟨by omega, by omega, by omega⟩))
local macro_rules | `(tactic| walk_at "go") => `(tactic| (repeat walk_at "s"))
local macro_rules | `(tactic| walk_at "hp") => `(tactic| first
  | assumption
  | exact upd_same
  | ((refine' M.same_hp ?xe ?xq); (case xe => assumption); (case xq => walk_at "hp")))
local macro_rules | `(tactic| walk_at "seq") => `(tactic| first
  | assumption
  | exact SqL.of (by assumption)
  | ((refine' Same.seq ?xe ?xq); (case xe => assumption); (case xq => walk_at "seq")))
local macro_rules | `(tactic| walk_at "sqt") => `(tactic| first
  | assumption
  | exact SqT.of (by assumption)
  | ((refine' M.Same.st ?xe ?xq); (case xe => assumption); (case xq => walk_at "sqt")))
local macro_rules | `(tactic| walk_at "at") => `(tactic| first
  | with_reducible exact M.atI_ints (by first | decide | omega) (by omega)
  | with_reducible exact M.atI_ints (by first | decide | omega) (by simp; omega)
  | exact rfl)
local macro_rules | `(tactic| walk_at "s") => `(tactic| first
  | with_reducible refine M.x_truV ?_
  | ((with_reducible refine' M.x_truL ?xh ?_); (case xh => walk_at "seq"))
  | with_reducible refine M.x_truI ?_
  | with_reducible refine M.x_isBl ?_
  | with_reducible refine M.x_notBl ?_
  | ((with_reducible refine' M.x_ixL ?xh ?xa ?_); (case xh => walk_at "seq"); (case xa => walk_at "at"))
  | ((with_reducible refine' M.x_ixT ?xh ?xa ?_); (case xh => walk_at "sqt"); (case xa => walk_at "at"))
  | ((with_reducible refine' M.x_lenL ?xh ?_); (case xh => walk_at "seq"))
  | ((with_reducible refine' M.x_lenT ?xh ?_); (case xh => walk_at "sqt"))
  | ((with_reducible refine' M.x_listL ?xh ?_); (case xh => walk_at "seq"))
  | ((with_reducible refine' M.x_newL ?xz ?_); (case xz => exact M.sl4 (by first | decide | (simp; done) | (simp; omega))))
  | ((with_reducible refine' M.x_newT ?xz ?_); (case xz => exact M.sl4 (by first | decide | (simp; done) | (simp; omega))))
  | ((with_reducible refine' M.x_cat ?xh ?xi ?xz ?_); (case xh => walk_at "hp"); (case xi => walk_at "hp"); (case xz => exact M.sl4 (by first | decide | (simp; done) | (simp; omega)))))

local macro_rules | `(tactic| walk_at "s") => `(tactic| first
  | ((with_reducible refine' M.x_inL ?xh ?xf ?xg ?_); (case xh => walk_at "seq"); (case xf => exact rfl); (case xg => first | exact rfl | exact M.flat_strsV _))
  | ((with_reducible refine' M.x_inT ?xh ?xf ?xg ?_); (case xh => walk_at "sqt"); (case xf => exact rfl); (case xg => first | exact rfl | exact M.flat_strsV _))
  | ((with_reducible refine' M.x_notInL ?xh ?xf ?xg ?_); (case xh => walk_at "seq"); (case xf => exact rfl); (case xg => first | exact rfl | exact M.flat_strsV _))
  | ((with_reducible refine' M.x_notInT ?xh ?xf ?xg ?_); (case xh => walk_at "sqt"); (case xf => exact rfl); (case xg => first | exact rfl | exact M.flat_strsV _))
  | with_reducible refine M.x_bm ?_
  | ((with_reducible refine' M.x_tyL ?xh ?_); (case xh => walk_at "seq"))
  | ((with_reducible refine' M.x_tyK ?xh ?_); (case xh => walk_at "tyk"))
  | with_reducible refine M.x_m1 ?_
  | with_reducible refine M.x_txt ?_
  | ((with_reducible refine' M.x_split ?xh ?xi ?_); (case xh => decide +kernel); (case xi => decide +kernel))
  | ((with_reducible refine' M.x_addZ ?xh ?_); (case xh => decide +kernel))
  | ((with_reducible refine' M.x_tupL ?xh ?_); (case xh => walk_at "seq"))
  | ((with_reducible refine' M.x_isiTT ?xh ?_); (case xh => walk_at "hp"))
  | with_reducible refine M.x_rz ?_
  | with_reducible refine M.x_mkE ?_
  | with_reducible refine M.x_tryAs ?_
  | with_reducible refine M.x_callS ?_
  | with_reducible refine M.x_xf ?_)
local macro_rules | `(tactic| walk_at "s") => `(tactic| first
  | with_reducible refine M.x_isN0 ?_
  | with_reducible refine M.x_isNr ?_
  | with_reducible refine M.x_isNi ?_
  | with_reducible refine M.x_isNs ?_
  | with_reducible refine M.x_notN0 ?_
  | with_reducible refine M.x_notNr ?_
  | with_reducible refine M.x_notNi ?_
  | with_reducible refine M.x_notNs ?_)
local macro_rules | `(tactic| walk_at "split") => `(tactic| (walk_at "go"; first | done | ((refine M.x_ifD (fun _ => ?_) (fun _ => ?_)) <;> walk_at "split") | ((refine M.x_if (fun _ => ?_) (fun _ => ?_)) <;> walk_at "split") | skip))
local macro_rules | `(tactic| walk_at "sqt") => `(tactic| first
  | fail
)

local macro_rules | `(tactic| walk_at "cls") => `(tactic| first
  | exact Tx.c_Partition (by assumption)
  | exact Tx.c_Config (by assumption))
local macro_rules | `(tactic| walk_at "noat") => `(tactic| first
  | exact Tx.n_Partition_image (by assumption)
  | exact Tx.n_Partition_pages (by assumption)
  | exact Tx.n_Partition_start (by assumption)
  | exact Tx.n_Config_partitions (by assumption)
  | exact Tx.n_Config_frames (by assumption)
  | exact Tx.n_Config_channels (by assumption)
  | exact Tx.n_Config_shares (by assumption)
  | exact Tx.n_Config_devices (by assumption)
  | exact Tx.n_Config_flows (by assumption))
local macro_rules | `(tactic| walk_at "ne") => `(tactic| first
  | assumption
  | exact Ne.symm (by assumption)
  | exact M.ne_il (by assumption) (by assumption)
  | exact M.ne_li (by assumption) (by assumption))
local macro_rules | `(tactic| walk_at "hp0") => `(tactic| assumption)
local macro_rules | `(tactic| walk_at "s") => `(tactic| first
  | with_reducible refine M.x_gsub ?_
  | with_reducible refine M.x_gnil ?_
  | with_reducible refine M.x_gcons ?_
  | ((with_reducible refine' M.x_gtup ?xh ?xl ?_); (case xh => walk_at "sqt"); (case xl => exact rfl))
  | with_reducible refine M.x_fld ?_
  | ((with_reducible refine' M.x_isFld ?xh ?xc ?xn ?xl ?_); (case xh => walk_at "hp"); (case xc => walk_at "cls"); (case xn => walk_at "noat"); (case xl => exact rfl))
  | with_reducible refine M.x_sfld ?_
  | with_reducible refine M.x_meth ?_
  | with_reducible refine M.x_methS ?_
  | ((with_reducible refine' M.x_isMeth ?xh ?xl ?_); (case xh => walk_at "hp"); (case xl => exact rfl))
  | with_reducible refine M.x_make ?_
  | with_reducible refine M.x_dget ?_
  | ((with_reducible refine' M.x_isDG ?xh ?xl ?_); (case xh => walk_at "hp"); (case xl => exact rfl))
  | with_reducible refine M.x_dput ?_
  | with_reducible refine M.x_mkE2 ?_
  | with_reducible refine M.x_tryO ?_
  | with_reducible refine M.x_fldaug ?_
  | with_reducible refine M.x_turn ?_)
local macro_rules | `(tactic| walk_at "hp") => `(tactic| first
  | assumption
  | exact upd_same
  | ((refine' M.Ext.at1 ?xe ?xn ?xq); (case xe => assumption); (case xn => walk_at "ne"); (case xq => walk_at "hp"))
  | ((refine' M.same_hp ?xe ?xq); (case xe => assumption); (case xq => walk_at "hp")))
local macro_rules | `(tactic| walk_at "seq") => `(tactic| first
  | assumption
  | ((refine' SqL.of ?xq); (case xq => walk_at "hp")))
local macro_rules | `(tactic| walk_at "at") => `(tactic| first
  | assumption
  | with_reducible exact M.atI_ints (by first | decide | omega) (by omega)
  | with_reducible exact M.atI_ints (by first | decide | omega) (by simp; omega)
  | exact rfl)
local macro_rules | `(tactic| walk_at "s") => `(tactic| ((with_reducible refine' M.x_setI ?xh ?x0 ?x1 ?_); (case xh => walk_at "hp"); (case x0 => omega); (case x1 => first | omega | (simp only [List.length_set]; omega))))

local macro_rules | `(tactic| walk_at "s") => `(tactic| first
  | ((with_reducible refine' M.x_lenLI ?xh ?_); (case xh => walk_at "seq"))
  | ((with_reducible refine' M.x_lenTI ?xh ?_); (case xh => walk_at "sqt")))
local macro_rules | `(tactic| walk_at "gn") => `(tactic| first
  | with_reducible refine M.x_gn0 ?_
  | with_reducible refine M.x_gn1 ?_
  | with_reducible refine M.x_gn2 ?_
  | with_reducible refine M.x_gn3 ?_
  | with_reducible refine M.x_gn4 ?_
  | with_reducible refine M.x_gn5 ?_
  | with_reducible refine M.x_gn6 ?_
  | with_reducible refine M.x_gn7 ?_
  | with_reducible refine M.x_gn8 ?_
  | with_reducible refine M.x_gn9 ?_
  | with_reducible refine M.x_gn10 ?_
  | with_reducible refine M.x_gn11 ?_
  | with_reducible refine M.x_gn12 ?_
  | with_reducible refine M.x_gn13 ?_
  | with_reducible refine M.x_gn14 ?_
  | with_reducible refine M.x_gn15 ?_
  | with_reducible refine M.x_gn16 ?_
  | with_reducible refine M.x_gn17 ?_
  | with_reducible refine M.x_gn18 ?_
  | with_reducible refine M.x_gn19 ?_
  | with_reducible refine M.x_gn20 ?_
  | with_reducible refine M.x_gn21 ?_
  | with_reducible refine M.x_gn22 ?_
  | with_reducible refine M.x_gn23 ?_
  | with_reducible refine M.x_gn24 ?_
  | with_reducible refine M.x_gn25 ?_)
local macro_rules | `(tactic| walk_at "s") => `(tactic| walk_at "gn")

local macro_rules | `(tactic| walk_at "s") => `(tactic| first
  | with_reducible refine M.x_lcI ?_
  | with_reducible refine M.x_isOI ?_
  | with_reducible refine M.x_part ?_
  | with_reducible refine M.x_noPart ?_
  | with_reducible refine M.x_sl ?_
  | ((with_reducible refine' M.x_slL ?xh ?_); (case xh => walk_at "seq"))
  | with_reducible refine M.x_pnil ?_
  | with_reducible refine M.x_pcons ?_
  | with_reducible refine M.x_disp ?_)

local macro_rules | `(tactic| walk_at "s") => `(tactic| first
  | ((with_reducible refine' M.x_setI ?xh ?x0 ?x1 ?_); (case xh => walk_at "hp"); (case x0 => first | decide | omega); (case x1 => first | decide | (simp only [List.length_set, List.length_cons, List.length_nil]; omega)))
  | with_reducible refine M.x_tYes ?_
  | with_reducible refine M.x_forRI ?_
  | with_reducible refine M.x_forLI ?_
  | with_reducible refine M.x_forTI ?_
  | with_reducible refine M.x_lcRI ?_
  | with_reducible refine M.x_lcLI ?_
  | with_reducible refine M.x_lcTI ?_)

section conf4
variable {P : Program} {w : World} {K : PySem.W.Frag} {mg : Str → Option Value} {base : Heap}
local macro_rules | `(tactic| walk_at "s") => `(tactic| ((with_reducible refine' go__law_draw2 ?xd ?xz ?_); (case xd => assumption); (case xz => first | exact ⟨by decide, by decide⟩ | exact ⟨by omega, by omega⟩)))
local macro_rules | `(tactic| walk_at "s") => `(tactic| ((with_reducible refine' go__law_image ?xd ?xp ?xz ?_); (case xd => assumption); (case xp => exact ⟨by omega, by omega⟩); (case xz => exact ⟨by omega, by omega⟩)))
theorem same_but {H H2 H3 : Hp} {p : Addr} (hp : H p = none) (a : Same H H2) (b : M.Ext [p] H2 H3) : Same H H3 := fun q o e => b.at1 (ne_of_none e hp) (a q o e)
structure PvOk (v : PartV) : Prop where
  pg : 1 ≤ v.pages ∧ v.pages ≤ 3
  w : W16s v.img
  len : (v.img.length : Int) ≤ 16 * v.pages
  st : v.start = 0
structure CfgOk (v : CfgV) : Prop where
  p : PartsOk v.parts.length v.flows v.chans v.shares v.devs v.frames
  v : ∀ x ∈ v.parts, PvOk x
def sp__law_partition (K : PySem.W.Frag) : Sp := fun vs H Q _ => ∃ (st a q pf pc ps pd pr : Addr) (ns : List Int) (n p : Int) (fl : List (Int × Int)) (ch : List (Int × Int × Int × Bool)) (sh : List (Int × Int)) (dv : List Int) (fr : List (Option Int × Int)), vs = [.ref st, .ref a, .ref q, .int p] ∧ Dr K st a ns H ∧ PartsX K st q pf pc ps pd pr n fl ch sh dv fr H ∧ sh.length ≤ 2 ∧ dv.length ≤ 2 ∧ ∀ x v H', H x = none → Ds K st a ns H H' → PartAt K x v H' → PvOk v → Q (.ref x) H'
abbrev M.N__law_partition : List Str := ["state", "script", "parts", "p", "pages", "seen", "one"]
theorem sc__law_partition : FnScope M.N__law_partition ["state", "script", "parts", "p"] (defScope s__law_partition) := ⟨rfl, rfl, rfl, by decide +kernel, rfl, by decide +kernel, by decide +kernel⟩
theorem ok__law_partition (T : Tx K mg) : C8.Cal P w K mg base 4 "_law_partition" (sp__law_partition K) [] := by
  refine M.cal_mk T.f__law_partition T.g__law_partition sc__law_partition (fun _ _ _ _ _ _ us hl => match us, hl with | [_, _, _, _], _ => rfl) (by rintro vs H Q E ⟨st, a, q, pf, pc, ps, pd, pr, ns, n, p, fl, ch, sh, dv, fr, rfl, _⟩; rfl) fun cdv A outer s H vs Q E hr h => ?_
  obtain ⟨st, a, q, pf, pc, ps, pd, pr, ns, n, p, fl, ch, sh, dv, fr, rfl, D, X, hsh, hdv, k⟩ := h
  refine ⟨_, (pss_cons (ps_set (i := 4) sc__law_partition.nd rfl (Or.inl rfl) (pe_op op_add pe_int (C8.pe_c (ok__law_draw T) hr (by decide) (by rfl) (pa_cons (pv 0) (pa_cons (pv 1) (pa_cons pe_int pa_nil)))))) (pss_cons (ps_set (i := 5) sc__law_partition.nd rfl (Or.inl rfl) (pe_op op_add (pe_op op_add (pv 4) (pe_callB M.call_len (by rfl) T.b_len (by decide +kernel) (pa_cons (pe_lc (own := [("one", 6)]) rfl sc__law_partition.nd (pi_list (pe_ix ix_list (pv 2) pe_int (fun _ _ => rfl))) (blkOk_by (own := [("one", 6)]) (N := M.N__law_partition) (sc := defScope s__law_partition) (by decide +kernel)) (fun _ _ _ _ _ => (pg_name (i := 6) sc__law_partition.nd rfl (Or.inl rfl))) (fun _ _ _ _ _ => (pts_one (pt_cmpR (op_in_seq : OpR _ _ (rIn K false)) (pv 3) (pv 6) (by rfl)))) (fun _ _ _ _ _ => (pv 6))) pa_nil))) (pe_callB M.call_len (by rfl) T.b_len (by decide +kernel) (pa_cons (pe_lc (own := [("one", 6)]) rfl sc__law_partition.nd (pi_list (pe_ix ix_list (pv 2) pe_int (fun _ _ => rfl))) (blkOk_by (own := [("one", 6)]) (N := M.N__law_partition) (sc := defScope s__law_partition) (by decide +kernel)) (fun _ _ _ _ _ => (pg_name (i := 6) sc__law_partition.nd rfl (Or.inl rfl))) (fun _ _ _ _ _ => (pts_one (pt_cmpR op_eq (pv 6) (pv 3) (nomark _)))) (fun _ _ _ _ _ => (pv 6))) pa_nil)))) (pss_one (ps_ret (C8.pe_mk (ok_Partition___init__ T) hr (by decide) (by rfl) (pa_cons (C8.pe_c (ok__law_image T) hr (by decide) (by rfl) (pa_cons (pv 0) (pa_cons (pv 1) (pa_cons (pv 4) (pa_cons (pv 5) pa_nil))))) (pa_cons (pv 4) (pa_cons pe_int pa_nil)))))))), ?_⟩
  refine M.x_st (σ0 := [some _, some _, some _, some _, none, none, none]) rfl ?_
  have D0 := Ds.refl D
  walk_at "go"
  intro d1 H1 l1 u1 e1 D1
  have X1 := X.mv e1 (D.kp e1)
  have q1 := X1.hq
  walk_at "go"
  obtain ⟨xs, x1, x2, _⟩ := X1.hs
  have hxl := M.DpAll.len x2
  rw [List.length_map] at hxl
  refine M.x_isLcL (fun D i acc H' => H1 D = none ∧ Same H1 H') (SqL.of x1) (by omega) (fun D H' hD e h => ⟨hD, e⟩) (fun D i acc H' hD hi hq hp => SqL.same (SqL.of x1) hp.2) ?_ ?_
  · rintro D i x acc H' hD hx hl hq ⟨_, e⟩
    obtain ⟨d, hd, hdx⟩ := M.DpAll.getx x2 hx
    obtain ⟨z, hz, rfl⟩ : ∃ z, sh[i]? = some z ∧ prD z = d := by
      rw [List.getElem?_map] at hd
      cases hz : sh[i]? with
      | none => rw [hz] at hd; cases hd
      | some z => rw [hz] at hd; exact ⟨z, rfl, Option.some.inj hd⟩
    obtain ⟨t, rfl, ht⟩ := M.Dp.tints (l := [z.1, z.2]) hdx
    have ht := M.Same.st e ht
    have hlt : i < xs.length := (List.getElem?_eq_some_iff.mp hx).1
    unfold M.LcTurn
    walk_at "go"
    refine ⟨rfl, ?_⟩
    walk_at "go"
    refine M.x_if (fun c => ?_) (fun c => ?_)
    · walk_at "go"
      exact M.x_lcPut hq hl (by omega) (fun H5 e5 h5 => ⟨hD, same_but hD e e5⟩)
    · exact M.x_lcNo hq hl ⟨hD, e⟩
  rintro D2 acc2 H2 hD2 hl2 h2 ⟨_, e2⟩
  have X2 := X1.same e2
  have q2 := X2.hq
  have y2 := X2.hd
  walk_at "go"
  refine M.x_isLcL (fun D i acc H' => H2 D = none ∧ Same H2 H') (SqL.of y2) (by simp; omega) (fun D H' hD e h => ⟨hD, e⟩) (fun D i acc H' hD hi hq hp => SqL.same (SqL.of y2) hp.2) ?_ ?_
  · rintro D i x acc H' hD hx hl hq ⟨_, e⟩
    obtain ⟨z, hz, rfl⟩ := M.map_int_get hx
    have hlt : i < dv.length := (List.getElem?_eq_some_iff.mp hz).1
    unfold M.LcTurn
    walk_at "go"
    refine ⟨rfl, ?_⟩
    walk_at "go"
    refine M.x_if (fun c => ?_) (fun c => ?_)
    · walk_at "go"
      exact M.x_lcPut hq hl (by omega) (fun H5 e5 h5 => ⟨hD, same_but hD e e5⟩)
    · exact M.x_lcNo hq hl ⟨hD, e⟩
  rintro D3 acc3 H3 hD3 hl3 h3 ⟨_, e3⟩
  rw [List.length_map] at hl3
  have D3' := D1.same (e2.trans e3)
  walk_at "go"
  intro p4 img H4 hp4 e4 D4 h4 hw hil
  walk_at "go"
  refine go_newP (img := img) (.inl (SqL.of h4)) (fun x H5 hx e5 h5 => ?_)
  exact k x _ H5 (D4.free hx) (D4.same e5) h5 ⟨⟨by show 1 ≤ 1 + d1; omega, by show 1 + d1 ≤ 3; omega⟩, hw, hil, rfl⟩
/-- the shares' tuples were made by the code -/
def ShF (K : PySem.W.Frag) (A : CA) (v : CfgV) (H : Hp) : Prop := ∃ xs, SqT K H A.t4 xs ∧ DpAll K H xs (v.shares.map prD) ∧ ∀ x ∈ xs, TupN H x
theorem ShF.kp {A : CA} {v : CfgV} {H H' : Hp} (h : ShF K A v H) (e : M.Kp H H') : ShF K A v H' := by
  obtain ⟨xs, h1, h2, h3⟩ := h
  exact ⟨xs, M.SqT.kp e h1, M.DpAll.kp e _ _ (prDs_t _) h2, fun x hx => (h3 x hx).kp e⟩
def sp__law_config (K : PySem.W.Frag) : Sp := fun vs H Q _ => ∃ (st a : Addr) (ns : List Int), vs = [.ref st, .ref a] ∧ Dr K st a ns H ∧ ∀ c A v H', H c = none → Ds K st a ns H H' → CfgAt K c A v H' → ShF K A v H' → CfgOk v → Q (.ref c) H'
abbrev M.N__law_config : List Str := ["state", "script", "parts", "partitions", "p"]
theorem sc__law_config : FnScope M.N__law_config ["state", "script"] (defScope s__law_config) := ⟨rfl, rfl, rfl, by decide +kernel, rfl, by decide +kernel, by decide +kernel⟩
theorem ok__law_config (T : Tx K mg) : C8.Cal P w K mg base 5 "_law_config" (sp__law_config K) [] := by
  refine M.cal_mk T.f__law_config T.g__law_config sc__law_config (fun _ _ _ _ _ _ us hl => match us, hl with | [_, _], _ => rfl) (by rintro vs H Q E ⟨st, a, ns, rfl, _⟩; rfl) fun cdv A outer s H vs Q E hr h => ?_
  obtain ⟨st, a, ns, rfl, D, k⟩ := h
  refine ⟨_, (pss_cons (ps_set (i := 2) sc__law_config.nd rfl (Or.inr rfl) (C8.pe_c (ok__law_parts T) hr (by decide) (by rfl) (pa_cons (pv 0) (pa_cons (pv 1) pa_nil)))) (pss_cons (ps_setLc (i := 3) (own := [("p", 4)]) rfl sc__law_config.nd rfl rfl (sw_true rfl rfl rfl (by decide +kernel)) (pi_range1 (by rfl) T.b_range (pa_cons (pe_ix ix_list (pv 2) pe_int (fun _ _ => rfl)) pa_nil)) (blkOk_by (own := [("p", 4)]) (N := M.N__law_config) (sc := defScope s__law_config) (by decide +kernel)) (fun _ _ _ _ _ => (pg_name (i := 4) sc__law_config.nd rfl (Or.inl rfl))) (fun _ _ _ _ _ => pts_nil) (fun _ _ _ _ _ => (C8.pe_c (ok__law_partition T) hr (by decide) (by rfl) (pa_cons (pv 0) (pa_cons (pv 1) (pa_cons (pv 2) (pa_cons (pv 4) pa_nil))))))) (pss_one (ps_ret (C8.pe_mk (ok_Config___init__ T) hr (by decide) (by rfl) (pa_cons (pv 3) (pa_cons (pe_ix ix_list (pv 2) pe_int (fun _ _ => rfl)) (pa_cons (pe_ix ix_list (pv 2) pe_int (fun _ _ => rfl)) (pa_cons (pe_ix ix_list (pv 2) pe_int (fun _ _ => rfl)) (pa_cons (pe_ix ix_list (pv 2) pe_int (fun _ _ => rfl)) (pa_cons (pe_ix ix_list (pv 2) pe_int (fun _ _ => rfl)) pa_nil))))))))))), ?_⟩
  refine M.x_st (σ0 := [some _, some _, none, none, none]) rfl ?_
  have D0 := Ds.refl D
  walk_at "go"
  refine ⟨st, a, ns, rfl, D, fun q pf pc ps pd pr n fl ch sh dv fr H1 hq D1 X1 O => ?_⟩
  walk_at "go"
  have q1 := X1.hq
  walk_at "go"
  refine M.x_isLcR (n := n) (fun D i acc H' => ∃ (qs : List Addr) (vs : List PartV), acc = qs.map V.ref ∧ qs.length = i ∧ PartsL K H' qs vs ∧ (∀ x ∈ vs, PvOk x) ∧ D ≠ st ∧ Ds K st a ns H H' ∧ PartsX K st q pf pc ps pd pr n fl ch sh dv fr H') ⟨by have := O.hn; omega, by have := O.hn; omega⟩ ?_ ?_ ?_
  · intro D H' hD e h
    exact ⟨[], [], rfl, rfl, ⟨rfl, fun i p v h => by simp at h⟩, (fun x hx => (by cases hx)), (D1.off hD).1, D1.same e, X1.same e⟩
  · rintro D i acc H2 hD hi hl hq2 ⟨qs, vs, rfl, hn, hp, ho, hne, D2, X2⟩
    unfold M.LcTurn
    walk_at "go"
    refine ⟨rfl, ?_⟩
    walk_at "go"
    refine ⟨st, a, q, pf, pc, ps, pd, pr, ns, n, (i : Int), fl, ch, sh, dv, fr, rfl, D2.d, X2, O.hshl, O.hdvl, fun x v H3 hx D3 P3 V3 => ?_⟩
    have h3 := D3.e.at1 hne hq2
    refine M.x_lcPut h3 hl (by have := O.hn; omega) (fun H4 e4 h4 => ?_)
    have k4 := M.Kp.lst e4 h3
    have xD : x ≠ D := fun z => by
      obtain ⟨_, _, hz, _⟩ := P3
      rw [z, h3] at hz
      cases hz
    refine ⟨qs ++ [x], vs ++ [v], by rw [List.map_append]; rfl, by rw [List.length_append, hn]; rfl, ⟨by rw [List.length_append, List.length_append, hp.1]; rfl, fun j p u hj hu => ?_⟩, fun y hy => (List.mem_append.mp hy).elim (ho y) fun z => by rw [List.mem_singleton.mp z]; exact V3, hne, (D2.step D3).put e4 (D1.free hD) hne (D1.off hD), ?_⟩
    · by_cases hj2 : j < qs.length
      · rw [List.getElem?_append_left hj2] at hj
        rw [List.getElem?_append_left (by rw [← hp.1]; exact hj2)] at hu
        exact ((hp.2 j p u hj hu).kp D3.k).kp k4
      · rw [List.getElem?_append_right (by omega)] at hj
        rw [List.getElem?_append_right (by rw [← hp.1]; omega)] at hu
        have hj3 : j - qs.length = 0 := by
          have := (List.getElem?_eq_some_iff.mp hj).1
          simp at this
          omega
        rw [hj3] at hj
        rw [show j - vs.length = 0 by rw [← hp.1]; exact hj3] at hu
        simp at hj hu
        subst hj hu
        exact P3.kp k4
    · have X3 := X2.mv D3.e D3.k
      have ne : ∀ {p : Addr} {xs : List V}, H1 p = some (.lst xs) → p ≠ D := fun h z => by rw [z, hD] at h; cases h
      obtain ⟨_, a1, _⟩ := X1.hf
      obtain ⟨_, a2, _⟩ := X1.hc
      obtain ⟨_, a3, _⟩ := X1.hs
      obtain ⟨_, a4, _⟩ := X1.hr
      exact ⟨e4.at1 (ne X1.hq) X3.hq, X3.hf.mv (fun o => e4.at1 (ne a1)) k4 (prDs_t _), X3.hc.mv (fun o => e4.at1 (ne a2)) k4 (chDs_t _), X3.hs.mv (fun o => e4.at1 (ne a3)) k4 (prDs_t _), e4.at1 (ne X1.hd) X3.hd, X3.hr.mv (fun o => e4.at1 (ne a4)) k4 (frDs_t _), X3.ne⟩
  rintro L acc H2 hL hl h2 ⟨qs, vs, rfl, hn, hp, ho, hne, D2, X2⟩
  have q2 := X2.hq
  walk_at "go"
  obtain ⟨ys1, a1, b1, _⟩ := X2.hf
  obtain ⟨ys2, a2, b2⟩ := X2.hc
  obtain ⟨ys3, a3, b3, n3⟩ := X2.hs
  obtain ⟨ys4, a4, b4⟩ := X2.hr
  refine go_newC (x1 := qs.map V.ref) (x2 := ys4) (x3 := ys2) (x4 := ys3) (x5 := dv.map V.int) (x6 := ys1) (.inl (SqL.of h2)) (.inl (SqL.of a4)) (.inl (SqL.of a2)) (.inl (SqL.of a3)) (.inl (SqL.of X2.hd)) (.inl (SqL.of a1)) (fun c A H3 hc e3 h3 k1 k2 k3 k4 k5 k6 _ => ?_)
  have kk := M.Kp.same e3
  refine k c { A with ps := qs } ⟨vs, fr, ch, sh, dv, fl⟩ H3 (D2.free hc) (D2.same e3) ⟨h3, k1, hp.kp kk, .tup k2 (M.DpAll.kp kk _ _ (frDs_t _) b4), .tup k3 (M.DpAll.kp kk _ _ (chDs_t _) b2), .tup k4 (M.DpAll.kp kk _ _ (prDs_t _) b3), k5, .tup k6 (M.DpAll.kp kk _ _ (prDs_t _) b1)⟩ ⟨_, k4, M.DpAll.kp kk _ _ (prDs_t _) b3, fun x hx => (n3 x hx).kp kk⟩ ⟨?_, ho⟩
  have e : ((vs.length : Nat) : Int) = n := by
    have h1 := hp.1
    have h2 := O.hn
    omega
  show PartsOk vs.length fl ch sh dv fr
  rw [e]
  exact O
end conf4

end K30
namespace K30
open PySem PySem.Spec PyProof.Rows L2
local macro_rules | `(tactic| walk_at "s") => `(tactic| first
  | ((with_reducible refine' M.x_var ?xv ?_); (case xv => exact rfl))
  | with_reducible refine M.x_c ?_
  | with_reducible refine M.x_op ?_
  | with_reducible refine M.x_seq ?_
  | with_reducible refine M.x_asg ?_
  | with_reducible refine M.x_gname ?_
  | with_reducible refine M.x_rI0 ?_
  | ((with_reducible refine' M.x_rI ?xc ?_); (case xc => walk_at "side"))
  | with_reducible refine M.x_call ?_
  | with_reducible refine M.x_callB ?_
  | with_reducible refine M.x_cons ?_
  | with_reducible refine M.x_nil ?_
  | with_reducible refine M.x_int ?_
  | with_reducible refine M.x_intB ?_
  | with_reducible refine M.x_ifS ?_
  | with_reducible refine M.x_test ?_
  | with_reducible refine M.x_tB ?_
  | with_reducible refine M.x_isB ?_
  | with_reducible refine M.x_ret ?_
  | with_reducible refine M.x_retN ?_
  | with_reducible refine M.x_next ?_
  | with_reducible refine M.x_brk ?_
  | with_reducible refine M.x_cont ?_
  | with_reducible refine M.x_drop ?_
  | with_reducible refine M.x_eqI ?_
  | with_reducible refine M.x_neI ?_
  | with_reducible refine M.x_eqS ?_
  | with_reducible refine M.x_neS ?_
  | with_reducible refine M.x_eqB ?_
  | with_reducible refine M.x_neB ?_
  | with_reducible refine M.x_ifT ?_
  | with_reducible refine M.x_ifF ?_
  | with_reducible refine M.x_and ?_
  | with_reducible refine M.x_or ?_
  | with_reducible refine M.x_not ?_
  | with_reducible refine M.x_ifNB ?_
  | with_reducible refine M.x_andV ?_
  | with_reducible refine M.x_orV ?_
  | with_reducible refine M.x_notV ?_
  | with_reducible refine M.x_ifE ?_
  | with_reducible refine M.x_chain ?_
  | with_reducible refine M.x_isN ?_
  | with_reducible refine M.x_notN ?_
  | with_reducible refine M.x_un ?_
  | with_reducible refine M.x_rU ?_
  | with_reducible refine M.x_max2 ?_
  | with_reducible refine M.x_min2 ?_
  | with_reducible refine M.x_isiII ?_
  | with_reducible refine M.x_isiIB ?_
  | with_reducible refine M.x_isiBB ?_
  | with_reducible refine M.x_isiSS ?_
  | ((with_reducible refine' M.x_ifTD ?xp ?_); (case xp => first | exact rfl | decide | omega))
  | ((with_reducible refine' M.x_ifFD ?xp ?_); (case xp => first | exact rfl | decide | omega))
  | with_reducible refine M.x_lst' ?_
  | with_reducible refine M.x_tup' ?_)
local macro_rules | `(tactic| walk_at "side") => `(tactic| first
  | decide
  | (show (0 : Int) < _; decide)
  | (show (0 : Int) < _; omega)
  | (show (0 : Int) ≤ _; omega)
  | (exact ⟨by decide, by decide⟩)
  | (exact ⟨by omega, by omega⟩)
  | (exact Or.inr ⟨by decide, by decide⟩)
  | (exact Or.inl ⟨by decide, by decide⟩)
  | (exact Or.inr ⟨by omega, by omega⟩)
  | (exact Or.inl ⟨by omega, by omega⟩)
  | (exact ⟨by decide, by decide, by decide⟩)
  | (exact ⟨by omega, by omega, by omega⟩))
local macro_rules | `(tactic| walk_at "go") => `(tactic| (repeat walk_at "s"))
local macro_rules | `(tactic| walk_at "hp") => `(tactic| first
  | assumption
  | exact upd_same
  | ((refine' M.same_hp ?xe ?xq); (case xe => assumption); (case xq => walk_at "hp")))
local macro_rules | `(tactic| walk_at "seq") => `(tactic| first
  | assumption
  | exact SqL.of (by assumption)
  | ((refine' Same.seq ?xe ?xq); (case xe => assumption); (case xq => walk_at "seq")))
local macro_rules | `(tactic| walk_at "sqt") => `(tactic| first
  | assumption
  | exact SqT.of (by assumption)
  | ((refine' M.Same.st ?xe ?xq); (case xe => assumption); (case xq => walk_at "sqt")))
local macro_rules | `(tactic| walk_at "at") => `(tactic| first
  | with_reducible exact M.atI_ints (by first | decide | omega) (by omega)
  | with_reducible exact M.atI_ints (by first | decide | omega) (by simp; omega)
  | exact rfl)
local macro_rules | `(tactic| walk_at "s") => `(tactic| first
  | with_reducible refine M.x_truV ?_
  | ((with_reducible refine' M.x_truL ?xh ?_); (case xh => walk_at "seq"))
  | with_reducible refine M.x_truI ?_
  | with_reducible refine M.x_isBl ?_
  | with_reducible refine M.x_notBl ?_
  | ((with_reducible refine' M.x_ixL ?xh ?xa ?_); (case xh => walk_at "seq"); (case xa => walk_at "at"))
  | ((with_reducible refine' M.x_ixT ?xh ?xa ?_); (case xh => walk_at "sqt"); (case xa => walk_at "at"))
  | ((with_reducible refine' M.x_lenL ?xh ?_); (case xh => walk_at "seq"))
  | ((with_reducible refine' M.x_lenT ?xh ?_); (case xh => walk_at "sqt"))
  | ((with_reducible refine' M.x_listL ?xh ?_); (case xh => walk_at "seq"))
  | ((with_reducible refine' M.x_newL ?xz ?_); (case xz => exact M.sl4 (by first | decide | (simp; done) | (simp; omega))))
  | ((with_reducible refine' M.x_newT ?xz ?_); (case xz => exact M.sl4 (by first | decide | (simp; done) | (simp; omega))))
  | ((with_reducible refine' M.x_cat ?xh ?xi ?xz ?_); (case xh => walk_at "hp"); (case xi => walk_at "hp"); (case xz => exact M.sl4 (by first | decide | (simp; done) | (simp; omega)))))

local macro_rules | `(tactic| walk_at "s") => `(tactic| first
  | ((with_reducible refine' M.x_inL ?xh ?xf ?xg ?_); (case xh => walk_at "seq"); (case xf => exact rfl); (case xg => first | exact rfl | exact M.flat_strsV _))
  | ((with_reducible refine' M.x_inT ?xh ?xf ?xg ?_); (case xh => walk_at "sqt"); (case xf => exact rfl); (case xg => first | exact rfl | exact M.flat_strsV _))
  | ((with_reducible refine' M.x_notInL ?xh ?xf ?xg ?_); (case xh => walk_at "seq"); (case xf => exact rfl); (case xg => first | exact rfl | exact M.flat_strsV _))
  | ((with_reducible refine' M.x_notInT ?xh ?xf ?xg ?_); (case xh => walk_at "sqt"); (case xf => exact rfl); (case xg => first | exact rfl | exact M.flat_strsV _))
  | with_reducible refine M.x_bm ?_
  | ((with_reducible refine' M.x_tyL ?xh ?_); (case xh => walk_at "seq"))
  | ((with_reducible refine' M.x_tyK ?xh ?_); (case xh => walk_at "tyk"))
  | with_reducible refine M.x_m1 ?_
  | with_reducible refine M.x_txt ?_
  | ((with_reducible refine' M.x_split ?xh ?xi ?_); (case xh => decide +kernel); (case xi => decide +kernel))
  | ((with_reducible refine' M.x_addZ ?xh ?_); (case xh => decide +kernel))
  | ((with_reducible refine' M.x_tupL ?xh ?_); (case xh => walk_at "seq"))
  | ((with_reducible refine' M.x_isiTT ?xh ?_); (case xh => walk_at "hp"))
  | with_reducible refine M.x_rz ?_
  | with_reducible refine M.x_mkE ?_
  | with_reducible refine M.x_tryAs ?_
  | with_reducible refine M.x_callS ?_
  | with_reducible refine M.x_xf ?_)
local macro_rules | `(tactic| walk_at "s") => `(tactic| first
  | with_reducible refine M.x_isN0 ?_
  | with_reducible refine M.x_isNr ?_
  | with_reducible refine M.x_isNi ?_
  | with_reducible refine M.x_isNs ?_
  | with_reducible refine M.x_notN0 ?_
  | with_reducible refine M.x_notNr ?_
  | with_reducible refine M.x_notNi ?_
  | with_reducible refine M.x_notNs ?_)
local macro_rules | `(tactic| walk_at "split") => `(tactic| (walk_at "go"; first | done | ((refine M.x_ifD (fun _ => ?_) (fun _ => ?_)) <;> walk_at "split") | ((refine M.x_if (fun _ => ?_) (fun _ => ?_)) <;> walk_at "split") | skip))
local macro_rules | `(tactic| walk_at "sqt") => `(tactic| first
  | fail
)

local macro_rules | `(tactic| walk_at "cls") => `(tactic| first
  | exact Tx.c_Partition (by assumption)
  | exact Tx.c_Config (by assumption))
local macro_rules | `(tactic| walk_at "noat") => `(tactic| first
  | exact Tx.n_Partition_image (by assumption)
  | exact Tx.n_Partition_pages (by assumption)
  | exact Tx.n_Partition_start (by assumption)
  | exact Tx.n_Config_partitions (by assumption)
  | exact Tx.n_Config_frames (by assumption)
  | exact Tx.n_Config_channels (by assumption)
  | exact Tx.n_Config_shares (by assumption)
  | exact Tx.n_Config_devices (by assumption)
  | exact Tx.n_Config_flows (by assumption))
local macro_rules | `(tactic| walk_at "ne") => `(tactic| first
  | assumption
  | exact Ne.symm (by assumption)
  | exact M.ne_il (by assumption) (by assumption)
  | exact M.ne_li (by assumption) (by assumption))
local macro_rules | `(tactic| walk_at "hp0") => `(tactic| assumption)
local macro_rules | `(tactic| walk_at "s") => `(tactic| first
  | with_reducible refine M.x_gsub ?_
  | with_reducible refine M.x_gnil ?_
  | with_reducible refine M.x_gcons ?_
  | ((with_reducible refine' M.x_gtup ?xh ?xl ?_); (case xh => walk_at "sqt"); (case xl => exact rfl))
  | with_reducible refine M.x_fld ?_
  | ((with_reducible refine' M.x_isFld ?xh ?xc ?xn ?xl ?_); (case xh => walk_at "hp"); (case xc => walk_at "cls"); (case xn => walk_at "noat"); (case xl => exact rfl))
  | with_reducible refine M.x_sfld ?_
  | with_reducible refine M.x_meth ?_
  | with_reducible refine M.x_methS ?_
  | ((with_reducible refine' M.x_isMeth ?xh ?xl ?_); (case xh => walk_at "hp"); (case xl => exact rfl))
  | with_reducible refine M.x_make ?_
  | with_reducible refine M.x_dget ?_
  | ((with_reducible refine' M.x_isDG ?xh ?xl ?_); (case xh => walk_at "hp"); (case xl => exact rfl))
  | with_reducible refine M.x_dput ?_
  | with_reducible refine M.x_mkE2 ?_
  | with_reducible refine M.x_tryO ?_
  | with_reducible refine M.x_fldaug ?_
  | with_reducible refine M.x_turn ?_)
local macro_rules | `(tactic| walk_at "hp") => `(tactic| first
  | assumption
  | exact upd_same
  | ((refine' M.Ext.at1 ?xe ?xn ?xq); (case xe => assumption); (case xn => walk_at "ne"); (case xq => walk_at "hp"))
  | ((refine' M.same_hp ?xe ?xq); (case xe => assumption); (case xq => walk_at "hp")))
local macro_rules | `(tactic| walk_at "seq") => `(tactic| first
  | assumption
  | ((refine' SqL.of ?xq); (case xq => walk_at "hp")))
local macro_rules | `(tactic| walk_at "at") => `(tactic| first
  | assumption
  | with_reducible exact M.atI_ints (by first | decide | omega) (by omega)
  | with_reducible exact M.atI_ints (by first | decide | omega) (by simp; omega)
  | exact rfl)
local macro_rules | `(tactic| walk_at "s") => `(tactic| ((with_reducible refine' M.x_setI ?xh ?x0 ?x1 ?_); (case xh => walk_at "hp"); (case x0 => omega); (case x1 => first | omega | (simp only [List.length_set]; omega))))

local macro_rules | `(tactic| walk_at "s") => `(tactic| first
  | ((with_reducible refine' M.x_lenLI ?xh ?_); (case xh => walk_at "seq"))
  | ((with_reducible refine' M.x_lenTI ?xh ?_); (case xh => walk_at "sqt")))
local macro_rules | `(tactic| walk_at "gn") => `(tactic| first
  | with_reducible refine M.x_gn0 ?_
  | with_reducible refine M.x_gn1 ?_
  | with_reducible refine M.x_gn2 ?_
  | with_reducible refine M.x_gn3 ?_
  | with_reducible refine M.x_gn4 ?_
  | with_reducible refine M.x_gn5 ?_
  | with_reducible refine M.x_gn6 ?_
  | with_reducible refine M.x_gn7 ?_
  | with_reducible refine M.x_gn8 ?_
  | with_reducible refine M.x_gn9 ?_
  | with_reducible refine M.x_gn10 ?_
  | with_reducible refine M.x_gn11 ?_
  | with_reducible refine M.x_gn12 ?_
  | with_reducible refine M.x_gn13 ?_
  | with_reducible refine M.x_gn14 ?_
  | with_reducible refine M.x_gn15 ?_
  | with_reducible refine M.x_gn16 ?_
  | with_reducible refine M.x_gn17 ?_
  | with_reducible refine M.x_gn18 ?_
  | with_reducible refine M.x_gn19 ?_
  | with_reducible refine M.x_gn20 ?_
  | with_reducible refine M.x_gn21 ?_
  | with_reducible refine M.x_gn22 ?_
  | with_reducible refine M.x_gn23 ?_
  | with_reducible refine M.x_gn24 ?_
  | with_reducible refine M.x_gn25 ?_)
local macro_rules | `(tactic| walk_at "s") => `(tactic| walk_at "gn")

local macro_rules | `(tactic| walk_at "s") => `(tactic| first
  | with_reducible refine M.x_lcI ?_
  | with_reducible refine M.x_isOI ?_
  | with_reducible refine M.x_part ?_
  | with_reducible refine M.x_noPart ?_
  | with_reducible refine M.x_sl ?_
  | ((with_reducible refine' M.x_slL ?xh ?_); (case xh => walk_at "seq"))
  | with_reducible refine M.x_pnil ?_
  | with_reducible refine M.x_pcons ?_
  | with_reducible refine M.x_disp ?_)

local macro_rules | `(tactic| walk_at "s") => `(tactic| first
  | ((with_reducible refine' M.x_setI ?xh ?x0 ?x1 ?_); (case xh => walk_at "hp"); (case x0 => first | decide | omega); (case x1 => first | decide | (simp only [List.length_set, List.length_cons, List.length_nil]; omega)))
  | with_reducible refine M.x_tYes ?_
  | with_reducible refine M.x_forRI ?_
  | with_reducible refine M.x_forLI ?_
  | with_reducible refine M.x_forTI ?_
  | with_reducible refine M.x_lcRI ?_
  | with_reducible refine M.x_lcLI ?_
  | with_reducible refine M.x_lcTI ?_)

section conf5
variable {P : Program} {w : World} {K : PySem.W.Frag} {mg : Str → Option Value} {base : Heap}
theorem DpAll.at {α : Type} {H : Hp} {xs : List V} {l : List α} {f : α → PyData} (h : DpAll K H xs (l.map f)) {i : Nat} {x : V} (hx : xs[i]? = some x) : ∃ z, l[i]? = some z ∧ Dp K H x (f z) := by
  obtain ⟨d, hd, hdx⟩ := M.DpAll.getx h hx
  rw [List.getElem?_map] at hd
  cases hz : l[i]? with
  | none => rw [hz] at hd; cases hd
  | some z =>
    rw [hz] at hd
    cases hd
    exact ⟨z, rfl, hdx⟩
theorem DpAll.ix {α : Type} {H : Hp} {xs : List V} {l : List α} {f : α → PyData} (h : DpAll K H xs (l.map f)) {i : Nat} {z : α} (hz : l[i]? = some z) : ∃ x, xs[i]? = some x ∧ Dp K H x (f z) := M.DpAll.get h (by rw [List.getElem?_map, hz]; rfl)
theorem prE {H : Hp} {x : V} {z : Int × Int} (h : Dp K H x (prD z)) : ∃ t, x = .ref t ∧ SqT K H t [.int z.1, .int z.2] := by
  obtain ⟨t, rfl, ht⟩ := M.Dp.tints (l := [z.1, z.2]) h
  exact ⟨t, rfl, ht⟩
theorem frE {H : Hp} {x : V} {z : Option Int × Int} (h : Dp K H x (frD z)) : ∃ t v, x = .ref t ∧ SqT K H t [v, .int z.2] ∧ Dp K H v (oiD z.1) := by
  obtain ⟨a, xs, rfl, h1, h2⟩ := M.Dp.tupE h
  cases h2 with
  | cons a1 b1 =>
    cases b1 with
    | cons a2 b2 =>
      cases b2
      cases a2
      exact ⟨_, _, rfl, h1, a1⟩
/-! ## may_flow, round_length, frame_start -/
def mayFlow (v : CfgV) (s t : Int) : Bool := decide (s = t) || decide ((s, t) ∈ v.flows)
def sp_may_flow (K : PySem.W.Frag) : Sp := fun vs H Q _ => ∃ (c : Addr) (A : CA) (v : CfgV) (s t : Int), vs = [.ref c, .int s, .int t] ∧ CfgAt K c A v H ∧ ∀ H', Same H H' → Q (.bl (mayFlow v s t)) H'
theorem go_may_flow {c : Addr} {A : CA} {v : CfgV} {s t : Int} {H : Hp} {Q : VK} {E : XK} (h : CfgAt K c A v H) (k : ∀ H', Same H H' → Q (.bl (mayFlow v s t)) H') : sp_may_flow K [.ref c, .int s, .int t] H Q E := ⟨c, A, v, s, t, rfl, h, k⟩
theorem prTs_sh (l : List (Int × Int)) : M.ShN 9 (.tuple (l.map prD)) := M.ShN.tup fun d hd => by
  obtain ⟨z, _, rfl⟩ := List.mem_map.mp hd
  exact prD_sh z
theorem x_inFlT {H : Hp} {Q : VK} {t p : Addr} {a b : Int} {fl : List (Int × Int)} (ht : SqT K H t [.int a, .int b]) (h : Dp K H (.ref p) (.tuple (fl.map prD))) (k : Q (.bl (decide ((a, b) ∈ fl))) H) : M.rInDT K false (.ref t) (.ref p) H Q :=
  M.x_inDT (d := prD (a, b)) (.tup ht (.cons (.int _) (.cons (.int _) .nil))) h (prD_sh _) (prTs_sh _) (by rw [any_prD]; exact k)
abbrev M.N_may_flow : List Str := ["config", "source", "target"]
theorem sc_may_flow : FnScope M.N_may_flow ["config", "source", "target"] (defScope s_may_flow) := ⟨rfl, rfl, rfl, by decide +kernel, rfl, by decide +kernel, by decide +kernel⟩
theorem ok_may_flow (T : Tx K mg) : C8.Cal P w K mg base 1 "may_flow" (sp_may_flow K) [] := by
  refine M.cal_mk T.f_may_flow T.g_may_flow sc_may_flow (fun _ _ _ _ _ _ us hl => match us, hl with | [_, _, _], _ => rfl) (by rintro vs H Q E ⟨c, A, v, s, t, rfl, _⟩; rfl) fun cdv Ar outer s0 H vs Q E hr h => ?_
  obtain ⟨c, A, v, s, t, rfl, h, k⟩ := h
  refine ⟨_, (pss_one (ps_ret (pe_or (pe_cmpR op_eq (pv 1) (pv 2) (nomark _)) (pe_one (pe_cmpR (M.op_inDT (M.hu65 hr)) (pe_tup (pa_cons (pv 1) (pa_cons (pv 2) pa_nil))) (pe_fld (pv 0) rfl) (by rfl)))))), ?_⟩
  refine M.x_st (σ0 := [some _, some _, some _]) rfl ?_
  have hc := h.h
  walk_at "go"
  refine M.x_ifD (fun c1 => ?_) (fun c1 => ?_)
  · have := k H (Same.refl _)
    unfold mayFlow at this
    rw [decide_eq_true c1] at this
    exact this
  · walk_at "go"
    intro t1 H1 ht1 e1 h1
    have h1' := h.same e1
    have hc1 := h1'.h
    walk_at "go"
    refine x_inFlT (SqT.of h1) h1'.q6 ?_
    have := k H1 e1
    unfold mayFlow at this
    rw [decide_eq_false c1, Bool.false_or] at this
    exact this
def rlen (l : List (Option Int × Int)) : Int := (l.map fun z => 256 + z.2).sum
def sp_round_length (K : PySem.W.Frag) : Sp := fun vs H Q _ => ∃ (c : Addr) (A : CA) (v : CfgV), vs = [.ref c] ∧ CfgAt K c A v H ∧ v.frames.length ≤ 1000 ∧ ∀ H', Same H H' → Q (.int (rlen v.frames)) H'
theorem go_round_length {c : Addr} {A : CA} {v : CfgV} {H : Hp} {Q : VK} {E : XK} (h : CfgAt K c A v H) (hl : v.frames.length ≤ 1000) (k : ∀ H', Same H H' → Q (.int (rlen v.frames)) H') : sp_round_length K [.ref c] H Q E := ⟨c, A, v, rfl, h, hl, k⟩
theorem x_sum {H : Hp} {Q : VK} {a : Addr} {l : List Int} (h : SqL K H a (l.map V.int)) (k : Q (.int l.sum) H) : rSum K [.ref a] H Q := ⟨a, l, rfl, h, k⟩
theorem take_succ' {α : Type} {l : List α} {i : Nat} {z : α} (h : l[i]? = some z) : l.take (i + 1) = l.take i ++ [z] := by
  rw [List.take_succ, h]
  rfl
abbrev M.N_round_length : List Str := ["config", "frame"]
theorem sc_round_length : FnScope M.N_round_length ["config"] (defScope s_round_length) := ⟨rfl, rfl, rfl, by decide +kernel, rfl, by decide +kernel, by decide +kernel⟩
theorem ok_round_length (T : Tx K mg) : C8.Cal P w K mg base 1 "round_length" (sp_round_length K) [] := by
  refine M.cal_mk T.f_round_length T.g_round_length sc_round_length (fun _ _ _ _ _ _ us hl => match us, hl with | [_], _ => rfl) (by rintro vs H Q E ⟨c, A, v, rfl, _⟩; rfl) fun cdv Ar outer s0 H vs Q E hr h => ?_
  obtain ⟨c, A, v, rfl, h, hlen, k⟩ := h
  refine ⟨_, (pss_one (ps_ret (pe_callB (cr_sum rfl) (by rfl) T.b_sum (by decide +kernel) (pa_cons (pe_lc (own := [("frame", 1)]) rfl sc_round_length.nd (pi_tup (pe_fld (pv 0) rfl)) (blkOk_by (own := [("frame", 1)]) (N := M.N_round_length) (sc := defScope s_round_length) (by decide +kernel)) (fun _ _ _ _ _ => (pg_name (i := 1) sc_round_length.nd rfl (Or.inl rfl))) (fun _ _ _ _ _ => pts_nil) (fun _ _ _ _ _ => (pe_op op_add (C8.pe_gc (by rfl) T.g_GAP) (pe_ix (ix_tup : IxR _ (rIxT K)) (pv 1) pe_int (fun _ _ => rfl))))) pa_nil)))), ?_⟩
  refine M.x_st (σ0 := [some _, none]) rfl ?_
  have hc := h.h
  walk_at "go"
  obtain ⟨a, xs, ea, s1, d1⟩ := M.Dp.tupE h.q2
  cases ea
  have hxl := M.DpAll.len d1
  rw [List.length_map] at hxl
  refine M.x_isLcT (fun D i acc H' => H D = none ∧ Same H H' ∧ acc = ((v.frames.take i).map fun z => 256 + z.2).map V.int) s1 (by omega) (fun D H' hD e h => ⟨hD, e, rfl⟩) (fun D i acc H' hD hi hq hp => M.Same.st hp.2.1 s1) ?_ ?_
  · rintro D i x acc H' hD hx hl hq ⟨_, e, rfl⟩
    obtain ⟨z, hz, hd⟩ := DpAll.at d1 hx
    obtain ⟨t, u, rfl, ht, _⟩ := frE hd
    have ht := M.Same.st e ht
    have hlt : i < xs.length := (List.getElem?_eq_some_iff.mp hx).1
    unfold M.LcTurn
    walk_at "go"
    refine ⟨rfl, ?_⟩
    walk_at "go"
    refine M.x_lcPut hq hl (by omega) (fun H5 e5 h5 => ⟨hD, same_but hD e e5, ?_⟩)
    rw [take_succ' hz, List.map_append, List.map_append]
    rfl
  rintro D acc H1 hD hl h1 ⟨_, e, rfl⟩
  rw [hxl, List.take_length] at h1
  walk_at "go"
  refine x_sum (SqL.of h1) ?_
  walk_at "go"
  exact k H1 e
def fstart (l : List (Option Int × Int)) (n : Int) : Int := n / l.length * rlen l + rlen (l.take (n % l.length).toNat) + 256
def sp_frame_start (K : PySem.W.Frag) : Sp := fun vs H Q _ => ∃ (c : Addr) (A : CA) (v : CfgV) (n : Int), vs = [.ref c, .int n] ∧ CfgAt K c A v H ∧ (1 ≤ v.frames.length ∧ v.frames.length ≤ 1000) ∧ (0 ≤ n ∧ n < 2 ^ 60) ∧ ∀ H', Same H H' → Q (.int (fstart v.frames n)) H'
theorem go_frame_start {c : Addr} {A : CA} {v : CfgV} {n : Int} {H : Hp} {Q : VK} {E : XK} (h : CfgAt K c A v H) (hl : 1 ≤ v.frames.length ∧ v.frames.length ≤ 1000) (hn : 0 ≤ n ∧ n < 2 ^ 60) (k : ∀ H', Same H H' → Q (.int (fstart v.frames n)) H') : sp_frame_start K [.ref c, .int n] H Q E := ⟨c, A, v, n, rfl, h, hl, hn, k⟩
theorem cut_take {xs : List V} {n : Int} (h0 : 0 ≤ n) (h1 : n ≤ xs.length) (hz : xs.length ≤ 1000) : cutV xs none (some n) = xs.take n.toNat := by
  obtain ⟨m, rfl⟩ := Int.eq_ofNat_of_zero_le h0
  have e0 : HT.sIx xs.length 0 none = 0 := rfl
  have e1 : HT.sIx xs.length xs.length (some (m : Int)) = m := by
    unfold HT.sIx
    simp
    rw [if_neg (by omega)]
    omega
  unfold cutV
  rw [e0, e1, List.drop_zero, Nat.sub_zero]
  rfl
theorem dp_take {H : Hp} {α : Type} {f : α → PyData} : ∀ (m : Nat) {xs : List V} {l : List α}, DpAll K H xs (l.map f) → DpAll K H (xs.take m) ((l.take m).map f)
  | 0, _, _, _ => .nil
  | m + 1, [], [], _ => .nil
  | m + 1, x :: xs, z :: l, .cons a b => .cons a (dp_take m b)
abbrev M.N_frame_start : List Str := ["config", "number", "count", "before", "frame"]
theorem sc_frame_start : FnScope M.N_frame_start ["config", "number"] (defScope s_frame_start) := ⟨rfl, rfl, rfl, by decide +kernel, rfl, by decide +kernel, by decide +kernel⟩
theorem ok_frame_start (T : Tx K mg) : C8.Cal P w K mg base 2 "frame_start" (sp_frame_start K) [] := by
  refine M.cal_mk T.f_frame_start T.g_frame_start sc_frame_start (fun _ _ _ _ _ _ us hl => match us, hl with | [_, _], _ => rfl) (by rintro vs H Q E ⟨c, A, v, n, rfl, _⟩; rfl) fun cdv Ar outer s0 H vs Q E hr h => ?_
  obtain ⟨c, A, v, n, rfl, h, hlen, hnb, k⟩ := h
  refine ⟨_, (pss_cons (ps_set (i := 2) sc_frame_start.nd rfl (Or.inl rfl) (pe_callB M.call_len (by rfl) T.b_len (by decide +kernel) (pa_cons (pe_fld (pv 0) rfl) pa_nil))) (pss_cons (ps_set (i := 3) sc_frame_start.nd rfl (Or.inl rfl) (pe_callB (cr_sum rfl) (by rfl) T.b_sum (by decide +kernel) (pa_cons (pe_lc (own := [("frame", 4)]) rfl sc_frame_start.nd (pi_tup (pe_slice sl_tupA (pe_fld (pv 0) rfl) po_none (po_some (pe_op op_mod (pv 1) (pv 2))))) (blkOk_by (own := [("frame", 4)]) (N := M.N_frame_start) (sc := defScope s_frame_start) (by decide +kernel)) (fun _ _ _ _ _ => (pg_name (i := 4) sc_frame_start.nd rfl (Or.inl rfl))) (fun _ _ _ _ _ => pts_nil) (fun _ _ _ _ _ => (pe_op op_add (C8.pe_gc (by rfl) T.g_GAP) (pe_ix (ix_tup : IxR _ (rIxT K)) (pv 4) pe_int (fun _ _ => rfl))))) pa_nil))) (pss_one (ps_ret (pe_op op_add (pe_op op_add (pe_op op_mul (pe_op op_fdiv (pv 1) (pv 2)) (C8.pe_c (ok_round_length T) hr (by decide) (by rfl) (pa_cons (pv 0) pa_nil))) (pv 3)) (C8.pe_gc (by rfl) T.g_GAP)))))), ?_⟩
  refine M.x_st (σ0 := [some _, some _, none, none, none]) rfl ?_
  have hc := h.h
  obtain ⟨a, xs, ea, s1, d1⟩ := M.Dp.tupE h.q2
  cases ea
  have hxl := M.DpAll.len d1
  rw [List.length_map] at hxl
  have hn0 : 0 ≤ n % (xs.length : Int) := Int.emod_nonneg _ (by omega)
  have hn1 : n % (xs.length : Int) < xs.length := Int.emod_lt_of_pos _ (by omega)
  walk_at "go"
  have ex : (xs.length : Int) = (v.frames.length : Int) := by rw [hxl]
  obtain ⟨m, hm⟩ := Int.eq_ofNat_of_zero_le hn0
  refine M.x_slA s1 (fun q => ?_) (fun p H1 hp e1 h1 => ?_)
  · have := q.2
    rw [hm] at this
    unfold HT.sIx at this
    simp at this
    rw [if_neg (by omega)] at this
    omega
  rw [cut_take hn0 (by omega) (by omega)] at h1
  rw [hm] at h1
  have hmt : m < xs.length := by omega
  have d1' : DpAll K H1 (xs.take m) ((v.frames.take m).map frD) := by
    have d2 := M.DpAll.kp (M.Kp.same e1) _ _ (frDs_t _) d1
    clear h1 hm hn0 hn1 s1 hxl ex d1
    generalize v.frames = l at d2
    exact dp_take m d2
  walk_at "go"
  have h1 : H1 p = some (.tup (xs.take m)) := h1
  refine M.x_isLcT (fun D i acc H' => H1 D = none ∧ Same H1 H' ∧ acc = (((v.frames.take m).take i).map fun z => 256 + z.2).map V.int) (SqT.of h1) (by rw [List.length_take]; omega) (fun D H' hD e h => ⟨hD, e, rfl⟩) (fun D i acc H' hD hi hq hp => M.Same.st hp.2.1 (SqT.of h1)) ?_ ?_
  · rintro D i x acc H' hD hx hl hq ⟨_, e, rfl⟩
    obtain ⟨z, hz, hd⟩ := DpAll.at d1' hx
    obtain ⟨t, u, rfl, ht, _⟩ := frE hd
    have ht := M.Same.st e ht
    have hlt : i < (xs.take m).length := (List.getElem?_eq_some_iff.mp hx).1
    rw [List.length_take] at hlt
    unfold M.LcTurn
    walk_at "go"
    refine ⟨rfl, ?_⟩
    walk_at "go"
    refine M.x_lcPut hq hl (by omega) (fun H5 e5 h5 => ⟨hD, same_but hD e e5, ?_⟩)
    rw [take_succ' hz, List.map_append, List.map_append]
    rfl
  rintro D acc H2 hD hl h2 ⟨_, e2, rfl⟩
  rw [M.DpAll.len d1', List.length_map, List.take_length] at h2
  walk_at "go"
  refine x_sum (SqL.of h2) ?_
  have h3 := h.same (e1.trans e2)
  have hc3 := h3.h
  walk_at "go"
  refine go_round_length h3 hlen.2 (fun H4 e4 => ?_)
  walk_at "go"
  refine M.x_rI (C := CMul) (show CMul (n / (xs.length : Int)) (rlen v.frames) from .inl ⟨by have := Int.ediv_nonneg hnb.1 (show (0 : Int) ≤ xs.length by omega); omega, by have := Int.ediv_le_self (xs.length : Int) hnb.1; omega⟩) ?_
  walk_at "go"
  have kk := k H4 ((e1.trans e2).trans e4)
  unfold fstart at kk
  rw [← ex, hm] at kk
  exact kk
theorem _root_.L2.DpAll.app' {H : Hp} {xs ys : List V} {ds es : List PyData} (h1 : DpAll K H xs ds) (h2 : DpAll K H ys es) : DpAll K H (xs ++ ys) (ds ++ es) := M.DpAll.app h1 h2
/-! ## page_map -/
abbrev Pg := Str × Int × Int
def pgD (z : Pg) : PyData := .tuple [.str z.1, .int z.2.1, .int z.2.2]
theorem pgD_t (z : Pg) : M.tupD (pgD z) = true := rfl
theorem pgDs_t (l : List Pg) : M.tupDs (l.map pgD) = true := M.tupDs_map pgD_t
def ownPgs (n : Nat) : List Pg := (List.range n).map fun k : Nat => (("own", (k : Int), 7) : Pg)
def shOne (p : Int) (k : Nat) (z : Int × Int) : List Pg := if z.1 = p then [("share", (k : Int), 3)] else if z.2 = p then [("share", (k : Int), 1)] else []
def shPgs (p : Int) (l : List (Int × Int)) (n : Nat) : List Pg := (List.range n).flatMap fun k : Nat => match l[k]? with
  | some z => shOne p k z
  | none => []
def dvPgs (p : Int) (l : List Int) (n : Nat) : List Pg := (List.range n).flatMap fun k : Nat => if l[k]? = some p then [(("device", (k : Int), 1) : Pg)] else []
def pageMap (v : CfgV) (p : Int) : List Pg := ownPgs (match v.parts[p.toNat]? with | some x => x.pages.toNat | none => 0) ++ shPgs p v.shares v.shares.length ++ dvPgs p v.devs v.devs.length
theorem ownPgs_succ (n : Nat) : ownPgs (n + 1) = ownPgs n ++ [(("own", (n : Int), 7) : Pg)] := by unfold ownPgs; rw [List.range_succ, List.map_append]; rfl
theorem shPgs_succ {p : Int} {l : List (Int × Int)} {n : Nat} {z : Int × Int} (h : l[n]? = some z) : shPgs p l (n + 1) = shPgs p l n ++ shOne p n z := by unfold shPgs; rw [List.range_succ, List.flatMap_append]; simp [h]
theorem dvPgs_succ {p : Int} {l : List Int} {n : Nat} {z : Int} (h : l[n]? = some z) : dvPgs p l (n + 1) = dvPgs p l n ++ (if z = p then [(("device", (n : Int), 1) : Pg)] else []) := by unfold dvPgs; rw [List.range_succ, List.flatMap_append]; simp [h]
def sp_page_map (K : PySem.W.Frag) : Sp := fun vs H Q _ => ∃ (c : Addr) (A : CA) (v : CfgV) (p : Int) (x : PartV), vs = [.ref c, .int p] ∧ CfgAt K c A v H ∧ 0 ≤ p ∧ v.parts[p.toNat]? = some x ∧ (0 ≤ x.pages ∧ x.pages ≤ 100) ∧ v.shares.length ≤ 100 ∧ v.devs.length ≤ 100 ∧ ∀ q H', H q = none → Same H H' → LD K H' q ((pageMap v p).map pgD) → Q (.ref q) H'
theorem go_page_map {c : Addr} {A : CA} {v : CfgV} {p : Int} {x : PartV} {H : Hp} {Q : VK} {E : XK} (h : CfgAt K c A v H) (hp : 0 ≤ p) (hx : v.parts[p.toNat]? = some x) (h1 : 0 ≤ x.pages ∧ x.pages ≤ 100) (h2 : v.shares.length ≤ 100) (h3 : v.devs.length ≤ 100) (k : ∀ q H', H q = none → Same H H' → LD K H' q ((pageMap v p).map pgD) → Q (.ref q) H') : sp_page_map K [.ref c, .int p] H Q E := ⟨c, A, v, p, x, rfl, h, hp, hx, h1, h2, h3, k⟩
abbrev M.N_page_map : List Str := ["config", "p", "found", "k", "writer", "reader"]
theorem sc_page_map : FnScope M.N_page_map ["config", "p"] (defScope s_page_map) := ⟨rfl, rfl, rfl, by decide +kernel, rfl, by decide +kernel, by decide +kernel⟩
theorem ok_page_map (T : Tx K mg) : C8.Cal P w K mg base 1 "page_map" (sp_page_map K) [] := by
  refine M.cal_mk T.f_page_map T.g_page_map sc_page_map (fun _ _ _ _ _ _ us hl => match us, hl with | [_, _], _ => rfl) (by rintro vs H Q E ⟨c, A, v, p, x, rfl, _⟩; rfl) fun cdv Ar outer s0 H vs Q E hr h => ?_
  obtain ⟨c, A, v, p, x, rfl, h, hp, hx, hpg, hsl, hdl, k⟩ := h
  refine ⟨_, (pss_cons (ps_setLc (i := 2) (own := [("k", 3)]) rfl sc_page_map.nd rfl rfl (sw_true rfl rfl rfl (by decide +kernel)) (pi_range1 (by rfl) T.b_range (pa_cons (pe_fld (pe_ix ix_tup (pe_fld (pv 0) rfl) (pv 1) (fun _ _ => rfl)) rfl) pa_nil)) (blkOk_by (own := [("k", 3)]) (N := M.N_page_map) (sc := defScope s_page_map) (by decide +kernel)) (fun _ _ _ _ _ => (pg_name (i := 3) sc_page_map.nd rfl (Or.inl rfl))) (fun _ _ _ _ _ => pts_nil) (fun _ _ _ _ _ => (pe_tup (pa_cons pe_str (pa_cons (pv 3) (pa_cons (pe_op op_add (pe_op op_add (C8.pe_gc (by rfl) T.g_READ) (C8.pe_gc (by rfl) T.g_WRITE)) (C8.pe_gc (by rfl) T.g_EXECUTE)) pa_nil)))))) (pss_cons (ps_for PassesOwn.never rfl (pi_range1 (by rfl) T.b_range (pa_cons (pe_callB M.call_len (by rfl) T.b_len (by decide +kernel) (pa_cons (pe_fld (pv 0) rfl) pa_nil)) pa_nil)) (pg_name (i := 3) sc_page_map.nd rfl (Or.inl rfl)) (pss_cons (ps_asg (pe_ix ix_tup (pe_fld (pv 0) rfl) (pv 3) (fun _ _ => rfl)) (pg_tup rfl (pgs_cons (pg_name (i := 4) sc_page_map.nd rfl (Or.inl rfl)) (pgs_cons (pg_name (i := 5) sc_page_map.nd rfl (Or.inl rfl)) pgs_nil)))) (pss_one (ps_if (pt_cmpR op_eq (pv 4) (pv 1) (nomark _)) (pss_one (ps_expr (pe_bm PySem.F.plainAttrs_list PySem.F.slot_list_append PySem.F.type_list_append mt_append (pv 2) (pa_cons (pe_tup (pa_cons pe_str (pa_cons (pv 3) (pa_cons (pe_op op_add (C8.pe_gc (by rfl) T.g_READ) (C8.pe_gc (by rfl) T.g_WRITE)) pa_nil)))) pa_nil)))) (pss_one (ps_if (pt_cmpR op_eq (pv 5) (pv 1) (nomark _)) (pss_one (ps_expr (pe_bm PySem.F.plainAttrs_list PySem.F.slot_list_append PySem.F.type_list_append mt_append (pv 2) (pa_cons (pe_tup (pa_cons pe_str (pa_cons (pv 3) (pa_cons (C8.pe_gc (by rfl) T.g_READ) pa_nil)))) pa_nil)))) pss_nil)))))) (pss_cons (ps_for PassesOwn.never rfl (pi_range1 (by rfl) T.b_range (pa_cons (pe_callB M.call_len (by rfl) T.b_len (by decide +kernel) (pa_cons (pe_fld (pv 0) rfl) pa_nil)) pa_nil)) (pg_name (i := 3) sc_page_map.nd rfl (Or.inl rfl)) (pss_one (ps_if (pt_cmpR op_eq (pe_ix ix_tup (pe_fld (pv 0) rfl) (pv 3) (fun _ _ => rfl)) (pv 1) (nomark _)) (pss_one (ps_expr (pe_bm PySem.F.plainAttrs_list PySem.F.slot_list_append PySem.F.type_list_append mt_append (pv 2) (pa_cons (pe_tup (pa_cons pe_str (pa_cons (pv 3) (pa_cons (C8.pe_gc (by rfl) T.g_READ) pa_nil)))) pa_nil)))) pss_nil))) (pss_one (ps_ret (pv 2)))))), ?_⟩
  refine M.x_st (σ0 := [some _, some _, none, none, none, none]) rfl ?_
  have hc := h.h
  have q1 := h.q1
  have hlt : p.toNat < v.parts.length := (List.getElem?_eq_some_iff.mp hx).1
  obtain ⟨y, hy⟩ : ∃ y, A.ps[p.toNat]? = some y := ⟨_, List.getElem?_eq_getElem (by rw [h.pp.1]; exact hlt)⟩
  obtain ⟨dx, t, hyx, _⟩ := h.pp.2 _ _ _ hy hx
  walk_at "go"
  refine M.x_ixT q1 (M.atI_get (f := V.ref) hp hy) ?_
  walk_at "go"
  refine M.x_isLcR (n := x.pages) (fun D i acc H' => H D = none ∧ Same H H' ∧ DpAll K H' acc ((ownPgs i).map pgD)) ⟨by omega, by omega⟩ (fun D H' hD e h => ⟨hD, e, .nil⟩) ?_ ?_
  · rintro D i acc H' hD hi hl hq ⟨_, e, hd⟩
    unfold M.LcTurn
    walk_at "go"
    refine ⟨rfl, ?_⟩
    walk_at "go"
    intro u H2 hu e2 h2
    refine M.x_lcPut (e2 _ _ hq) hl (by omega) (fun H5 e5 h5 => ⟨hD, same_but hD (e.trans e2) e5, ?_⟩)
    rw [ownPgs_succ, List.map_append]
    exact M.DpAll.kp ((M.Kp.same e2).trans (M.Kp.lst e5 (e2 _ _ hq))) _ _ (pgDs_t _) hd |>.app' (.cons (M.Dp.kp (M.Kp.lst e5 (e2 _ _ hq)) _ _ rfl (.tup (SqT.of h2) (.cons (.str _) (.cons (.int _) (.cons (.int _) .nil))))) .nil)
  rintro q acc H1 hq hl h1 ⟨_, e1, hd1⟩
  have L1 : LD K H1 q ((ownPgs x.pages.toNat).map pgD) := ⟨acc, h1, hd1⟩
  have c1 := h.same e1
  have hc1 := c1.h
  walk_at "go"
  obtain ⟨a4, xs4, ea4, s4, d4⟩ := M.Dp.tupE c1.q4
  cases ea4
  have hxl := M.DpAll.len d4
  rw [List.length_map] at hxl
  walk_at "go"
  refine M.x_isForR (n := xs4.length) ⟨by omega, by omega⟩ (fun i σ' Hx => ∃ (v3 v4 v5 : Option V), σ' = [some (.ref c), some (.int p), some (.ref q), v3, v4, v5] ∧ Same H Hx ∧ LD K Hx q ((ownPgs x.pages.toNat ++ shPgs p v.shares i).map pgD)) ⟨_, _, _, rfl, e1, by simpa [shPgs] using L1⟩ ?_ ?_
  · rintro i σ' Hx hi ⟨v3, v4, v5, rfl, ex, Lx⟩
    have cx := h.same ex
    have hcx := cx.h
    obtain ⟨a5, xs5, ea5, s5, d5⟩ := M.Dp.tupE cx.q4
    cases ea5
    have hxl5 := M.DpAll.len d5
    rw [List.length_map] at hxl5
    have hlt : i < xs5.length := by omega
    obtain ⟨z, hz, hdz⟩ := DpAll.at d5 (List.getElem?_eq_getElem hlt)
    obtain ⟨t, et, ht⟩ := prE hdz
    walk_at "go"
    refine M.x_ixT s5 (M.atI_of (v := .ref t) (by omega) (by rw [← et]; exact List.getElem?_eq_getElem hlt)) ?_
    have q1 := Lx.choose_spec.1
    walk_at "go"
    have app : ∀ (r : Int) (u : Addr) (H2 : Hp), Hx u = none → Same Hx H2 → H2 u = some (.tup [.str "share", .int i, .int r]) → shOne p i z = ([("share", (i : Int), r)] : List Pg) → ∀ (H' : Hp) (xs : List V), H2 q = some (.lst xs) → M.Ext [q] H2 H' → H' q = some (.lst (xs ++ [.ref u])) → Same H H' ∧ LD K H' q ((ownPgs x.pages.toNat ++ shPgs p v.shares (i + 1)).map pgD) := by
      intro r u H2 hu e2 h2 ho H' xs hq2 e' hq'
      refine ⟨same_but hq (ex.trans e2) e', ?_⟩
      obtain ⟨ys, y1, y2⟩ := Lx.same e2 (pgDs_t _)
      rw [hq2] at y1
      cases y1
      rw [shPgs_succ hz, ho, ← List.append_assoc, List.map_append]
      exact LD.app hq2 y2 e' hq' (pgDs_t _) rfl (.tup (SqT.of h2) (.cons (.str _) (.cons (.int _) (.cons (.int _) .nil))))
    have hlq : (Lx.choose).length ≤ 1000 := by
      have := M.DpAll.len Lx.choose_spec.2
      rw [this, List.length_map, List.length_append]
      have h1 : (ownPgs x.pages.toNat).length ≤ 100 := by unfold ownPgs; simp; omega
      have h2 : ∀ n : Nat, (shPgs p v.shares n).length ≤ n := by
        intro n
        induction n with
        | zero => simp [shPgs]
        | succ n ih =>
          unfold shPgs at ih ⊢
          rw [List.range_succ, List.flatMap_append, List.length_append]
          have : (([n] : List Nat).flatMap fun k : Nat => match v.shares[k]? with | some z => shOne p k z | none => []).length ≤ 1 := by
            simp only [List.flatMap_cons, List.flatMap_nil, List.append_nil]
            split
            · unfold shOne; split
              · simp
              · split <;> simp
            · simp
          omega
      have := h2 i
      omega
    refine M.x_ifD (fun c2 => ?_) (fun c2 => ?_)
    · walk_at "go"
      intro u H2 hu e2 h2
      walk_at "go"
      refine M.x_append (e2 _ _ q1) (by omega) (fun H3 e3 h3 => ?_)
      walk_at "go"
      have := app 3 u H2 hu e2 h2 (by unfold shOne; rw [if_pos c2]) H3 _ (e2 _ _ q1) e3 h3
      exact ⟨_, _, _, rfl, this.1, this.2⟩
    · walk_at "go"
      refine M.x_ifD (fun c3 => ?_) (fun c3 => ?_)
      · walk_at "go"
        intro u H2 hu e2 h2
        walk_at "go"
        refine M.x_append (e2 _ _ q1) (by omega) (fun H3 e3 h3 => ?_)
        walk_at "go"
        have := app 1 u H2 hu e2 h2 (by unfold shOne; rw [if_neg c2, if_pos c3]) H3 _ (e2 _ _ q1) e3 h3
        exact ⟨_, _, _, rfl, this.1, this.2⟩
      · walk_at "go"
        exact ⟨_, _, _, rfl, ex, by rw [shPgs_succ hz, show shOne p i z = [] by unfold shOne; rw [if_neg c2, if_neg c3], List.append_nil]; exact Lx⟩
  rintro σ' Hx ⟨v3, v4, v5, rfl, ex, Lx⟩
  have cx := h.same ex
  have hcx := cx.h
  have q5 := cx.q5
  rw [Int.toNat_natCast, hxl] at Lx
  walk_at "go"
  refine M.x_isForR (n := v.devs.length) ⟨by omega, by omega⟩ (fun i σ' Hx => ∃ (v3 : Option V), σ' = [some (.ref c), some (.int p), some (.ref q), v3, v4, v5] ∧ Same H Hx ∧ LD K Hx q ((ownPgs x.pages.toNat ++ shPgs p v.shares v.shares.length ++ dvPgs p v.devs i).map pgD)) ⟨_, rfl, ex, by simpa [dvPgs] using Lx⟩ ?_ ?_
  · rintro i σ' Hx hi ⟨v3, rfl, ex, Lx⟩
    have cx := h.same ex
    have hcx := cx.h
    have q5 := cx.q5
    have hlt : i < v.devs.length := by omega
    have hz : v.devs[i]? = some v.devs[i] := List.getElem?_eq_getElem hlt
    generalize v.devs[i] = z at hz
    have q1 := Lx.choose_spec.1
    have hlq : (Lx.choose).length ≤ 50000 := by
      have := M.DpAll.len Lx.choose_spec.2
      rw [this, List.length_map, List.length_append, List.length_append]
      have h1 : (ownPgs x.pages.toNat).length ≤ 100 := by unfold ownPgs; simp; omega
      have h2 : ∀ n : Nat, (shPgs p v.shares n).length ≤ n := by
        intro n
        induction n with
        | zero => simp [shPgs]
        | succ n ih =>
          unfold shPgs at ih ⊢
          rw [List.range_succ, List.flatMap_append, List.length_append]
          have : (([n] : List Nat).flatMap fun k : Nat => match v.shares[k]? with | some z => shOne p k z | none => []).length ≤ 1 := by
            simp only [List.flatMap_cons, List.flatMap_nil, List.append_nil]
            split
            · unfold shOne; split
              · simp
              · split <;> simp
            · simp
          omega
      have h3 : ∀ n : Nat, (dvPgs p v.devs n).length ≤ n := by
        intro n
        induction n with
        | zero => simp [dvPgs]
        | succ n ih =>
          unfold dvPgs at ih ⊢
          rw [List.range_succ, List.flatMap_append, List.length_append]
          have : (([n] : List Nat).flatMap fun k : Nat => if v.devs[k]? = some p then [(("device", (k : Int), 1) : Pg)] else []).length ≤ 1 := by
            simp only [List.flatMap_cons, List.flatMap_nil, List.append_nil]
            split <;> simp
          omega
      have := h2 v.shares.length
      have := h3 i
      omega
    walk_at "go"
    rw [show v.devs.getD ((i : Int)).toNat 0 = z by rw [Int.toNat_natCast, List.getD_eq_getElem?_getD, hz]; rfl]
    refine M.x_ifD (fun c2 => ?_) (fun c2 => ?_)
    · walk_at "go"
      intro u H2 hu e2 h2
      walk_at "go"
      refine M.x_append (e2 _ _ q1) hlq (fun H3 e3 h3 => ?_)
      walk_at "go"
      refine ⟨_, rfl, same_but hq (ex.trans e2) e3, ?_⟩
      obtain ⟨ys, y1, y2⟩ := Lx.same e2 (pgDs_t _)
      rw [e2 _ _ q1] at y1
      cases y1
      rw [dvPgs_succ hz, if_pos c2, ← List.append_assoc, List.map_append]
      exact LD.app (e2 _ _ q1) y2 e3 h3 (pgDs_t _) rfl (.tup (SqT.of h2) (.cons (.str _) (.cons (.int _) (.cons (.int _) .nil))))
    · walk_at "go"
      exact ⟨_, rfl, ex, by rw [dvPgs_succ hz, if_neg c2, List.append_nil]; exact Lx⟩
  rintro σ' Hx ⟨v3, rfl, ex, Lx⟩
  walk_at "go"
  refine k q Hx hq ex ?_
  unfold pageMap
  rw [hx]
  exact Lx
end conf5

end K30
namespace K30
open PySem PySem.Spec PyProof.Rows L2
section reach
/-! ## what may come over others: plain -/
inductive Rch (fl : List (Int × Int)) (t : Int) : Int → Prop where
  | here : Rch fl t t
  | step {q p : Int} (h : (q, p) ∈ fl) (k : Rch fl t p) : Rch fl t q
theorem countP_lt {α : Type} {p p' : α → Bool} : ∀ {l : List α}, (∀ x ∈ l, p x = true → p' x = true) → (∃ x ∈ l, p' x = true ∧ p x = false) → l.countP p < l.countP p'
  | [], _, h => by obtain ⟨x, hx, _⟩ := h; cases hx
  | a :: l, m, h => by
    have ml : ∀ x ∈ l, p x = true → p' x = true := fun x hx => m x (List.mem_cons_of_mem _ hx)
    have le : l.countP p ≤ l.countP p' := List.countP_mono_left ml
    rw [List.countP_cons, List.countP_cons]
    obtain ⟨x, hx, h1, h2⟩ := h
    rcases List.mem_cons.mp hx with rfl | hx
    · rw [h1, h2]
      simp
      omega
    · have := countP_lt ml ⟨x, hx, h1, h2⟩
      have ha := m a (List.mem_cons_self ..)
      cases hpa : p a with
      | true => rw [ha hpa]; simp; omega
      | false => cases p' a <;> simp <;> omega
def iterN {S : Type} (f : S → S) : Nat → S → S
  | 0, s => s
  | n + 1, s => f (iterN f n s)
theorem fix_rounds {S : Type} {f : S → S} {mem : S → Nat → Bool} {C I : S → Prop} {n : Nat} (hI : ∀ s, I s → I (f s)) (hm : ∀ s, I s → ∀ i, mem s i = true → mem (f s) i = true) (hs : ∀ s, I s → C s ∨ ∃ i, i < n ∧ mem (f s) i = true ∧ mem s i = false) (hc : ∀ s, I s → C s → f s = s)
    {s0 : S} (h0 : I s0) (hp : ∃ i, i < n ∧ mem s0 i = true) : C (iterN f n s0) ∧ I (iterN f n s0) := by
  have hi : ∀ k, I (iterN f k s0) := fun k => by
    induction k with
    | zero => exact h0
    | succ k ih => exact hI _ ih
  have key : ∀ k, C (iterN f k s0) ∨ k + 1 ≤ (List.range n).countP (mem (iterN f k s0)) := fun k => by
    induction k with
    | zero =>
      obtain ⟨i, h1, h2⟩ := hp
      have : 0 < (List.range n).countP (mem s0) := List.countP_pos_iff.mpr ⟨i, List.mem_range.mpr h1, h2⟩
      exact .inr this
    | succ k ih =>
      rcases ih with c | c
      · refine .inl ?_
        show C (f (iterN f k s0))
        rw [hc _ (hi k) c]
        exact c
      · rcases hs _ (hi k) with c2 | ⟨i, h1, h2, h3⟩
        · refine .inl ?_
          show C (f (iterN f k s0))
          rw [hc _ (hi k) c2]
          exact c2
        · have := countP_lt (l := List.range n) (fun x _ => hm _ (hi k) x) ⟨i, List.mem_range.mpr h1, h2, h3⟩
          exact .inr (by show k + 1 + 1 ≤ (List.range n).countP (mem (f (iterN f k s0))); omega)
  rcases key n with c | c
  · exact ⟨c, hi n⟩
  · have := List.countP_le_length (p := mem (iterN f n s0)) (l := List.range n)
    rw [List.length_range] at this
    omega
/-! the list of those found -/
def flw (fl : List (Int × Int)) (s t : Int) : Bool := decide (s = t) || decide ((s, t) ∈ fl)
def srcStep (fl : List (Int × Int)) (f : List Int) (q : Int) : List Int := if (!decide (q ∈ f)) && (f.any fun p => flw fl q p) then f ++ [q] else f
def srcQ (fl : List (Int × Int)) (f : List Int) : Nat → List Int
  | 0 => f
  | i + 1 => srcStep fl (srcQ fl f i) i
def srcR (fl : List (Int × Int)) (n : Nat) (f : List Int) : List Int := srcQ fl f n
def Closed (fl : List (Int × Int)) (f : List Int) : Prop := ∀ q p, (q, p) ∈ fl → p ∈ f → q ∈ f
def FlIn (n : Nat) (fl : List (Int × Int)) : Prop := ∀ z ∈ fl, 0 ≤ z.1 ∧ z.1 < n ∧ 0 ≤ z.2 ∧ z.2 < n
structure SrcI (fl : List (Int × Int)) (n : Nat) (t : Int) (f : List Int) : Prop where
  nd : f.Nodup
  rg : ∀ q ∈ f, 0 ≤ q ∧ q < n
  so : ∀ q ∈ f, Rch fl t q
  ht : t ∈ f
theorem srcStep_sub {fl : List (Int × Int)} {f : List Int} {q x : Int} (h : x ∈ f) : x ∈ srcStep fl f q := by
  unfold srcStep
  split
  · exact List.mem_append.mpr (.inl h)
  · exact h
theorem SrcI.step {fl : List (Int × Int)} {n : Nat} {t : Int} {f : List Int} (h : SrcI fl n t f) {q : Int} (hq : 0 ≤ q ∧ q < n) : SrcI fl n t (srcStep fl f q) := by
  unfold srcStep
  split
  · rename_i c
    rw [Bool.and_eq_true, Bool.not_eq_true', decide_eq_false_iff_not, List.any_eq_true] at c
    obtain ⟨c1, p, hp, c2⟩ := c
    refine ⟨?_, fun x hx => ?_, fun x hx => ?_, List.mem_append.mpr (.inl h.ht)⟩
    · rw [List.nodup_append]
      exact ⟨h.nd, by simp, fun a ha b hb e => c1 (by rw [List.mem_singleton.mp hb] at e; exact e ▸ ha)⟩
    · rcases List.mem_append.mp hx with hx | hx
      · exact h.rg x hx
      · rw [List.mem_singleton.mp hx]; exact hq
    · rcases List.mem_append.mp hx with hx | hx
      · exact h.so x hx
      · rw [List.mem_singleton.mp hx]
        unfold flw at c2
        rcases Bool.or_eq_true_iff.mp c2 with e | e
        · rw [of_decide_eq_true e] at c1
          exact absurd hp c1
        · exact .step (of_decide_eq_true e) (h.so p hp)
  · exact h
theorem SrcI.srcQ {fl : List (Int × Int)} {n : Nat} {t : Int} {f : List Int} (h : SrcI fl n t f) : ∀ i, i ≤ n → SrcI fl n t (srcQ fl f i)
  | 0, _ => h
  | i + 1, hi => (SrcI.srcQ h i (by omega)).step (by omega)
theorem srcQ_sub {fl : List (Int × Int)} {f : List Int} {x : Int} (h : x ∈ f) : ∀ i, x ∈ srcQ fl f i
  | 0 => h
  | i + 1 => srcStep_sub (srcQ_sub h i)
theorem srcQ_new {fl : List (Int × Int)} {f : List Int} : ∀ i, srcQ fl f i = f ∧ (∀ j, j < i → srcStep fl f j = f) ∨ ∃ x, x ∉ f ∧ x ∈ srcQ fl f i ∧ 0 ≤ x ∧ x < i
  | 0 => .inl ⟨rfl, fun j h => absurd h (Nat.not_lt_zero j)⟩
  | i + 1 => by
    rcases srcQ_new (fl := fl) (f := f) i with ⟨h1, h2⟩ | ⟨x, h1, h2, h3, h4⟩
    · show srcStep fl (srcQ fl f i) i = f ∧ _ ∨ ∃ x, x ∉ f ∧ x ∈ srcStep fl (srcQ fl f i) i ∧ 0 ≤ x ∧ x < ((i + 1 : Nat) : Int)
      rw [h1]
      by_cases c : (i : Int) ∈ f
      · have e : srcStep fl f i = f := by unfold srcStep; rw [decide_eq_true c]; rfl
        refine .inl ⟨e, fun j hj => ?_⟩
        by_cases hj2 : j = i
        · subst hj2; exact e
        · exact h2 j (by omega)
      · by_cases d : (f.any fun p => flw fl i p) = true
        · refine .inr ⟨i, c, ?_, by omega, by omega⟩
          unfold srcStep
          rw [decide_eq_false c, d]
          simp
        · have e : srcStep fl f i = f := by unfold srcStep; rw [Bool.not_eq_true] at d; rw [d, Bool.and_false]; rfl
          refine .inl ⟨e, fun j hj => ?_⟩
          by_cases hj2 : j = i
          · subst hj2; exact e
          · exact h2 j (by omega)
    · exact .inr ⟨x, h1, srcStep_sub h2, h3, by omega⟩
theorem src_closed_of {fl : List (Int × Int)} {n : Nat} {f : List Int} (hf : FlIn n fl) (h : ∀ j, j < n → srcStep fl f j = f) : Closed fl f := fun q p hq hp => by
  have hz := hf _ hq
  have hs := h q.toNat (by have := hz.1; have := hz.2.1; omega)
  rw [Int.toNat_of_nonneg hz.1] at hs
  by_cases c : q ∈ f
  · exact c
  · unfold srcStep at hs
    have e : ((!decide (q ∈ f)) && (f.any fun p => flw fl q p)) = true := by
      rw [Bool.and_eq_true, Bool.not_eq_true', decide_eq_false_iff_not, List.any_eq_true]
      exact ⟨c, p, hp, by unfold flw; rw [decide_eq_true hq, Bool.or_true]⟩
    rw [if_pos e] at hs
    have := congrArg List.length hs
    simp at this
theorem src_fix {fl : List (Int × Int)} {f : List Int} (h : Closed fl f) : ∀ i, srcQ fl f i = f
  | 0 => rfl
  | i + 1 => by
    show srcStep fl (srcQ fl f i) i = f
    rw [src_fix h i]
    unfold srcStep
    split
    · rename_i c
      rw [Bool.and_eq_true, Bool.not_eq_true', decide_eq_false_iff_not, List.any_eq_true] at c
      obtain ⟨c1, p, hp, c2⟩ := c
      unfold flw at c2
      rcases Bool.or_eq_true_iff.mp c2 with e | e
      · rw [of_decide_eq_true e] at c1
        exact absurd hp c1
      · exact absurd (h _ _ (of_decide_eq_true e) hp) c1
    · rfl
theorem rch_closed {fl : List (Int × Int)} {t : Int} {f : List Int} (h : Closed fl f) (ht : t ∈ f) {q : Int} (k : Rch fl t q) : q ∈ f := by
  induction k with
  | here => exact ht
  | step h1 _ ih => exact h _ _ h1 ih
theorem src_all {fl : List (Int × Int)} {n : Nat} {t : Int} (hf : FlIn n fl) (ht : 0 ≤ t ∧ t < n) : (iterN (srcR fl n) n [t]).Nodup ∧ ∀ q, q ∈ iterN (srcR fl n) n [t] ↔ (Rch fl t q) := by
  have z := fix_rounds (f := srcR fl n) (mem := fun f i => decide ((i : Int) ∈ f)) (C := Closed fl) (I := SrcI fl n t) (n := n) (fun s h => h.srcQ n (Nat.le_refl _)) (fun s h i hi => decide_eq_true (srcQ_sub (of_decide_eq_true hi) n)) (fun s h => ?_) (fun s h c => src_fix c n) (s0 := [t])
    ⟨by simp, fun q hq => by rw [List.mem_singleton.mp hq]; exact ht, fun q hq => by rw [List.mem_singleton.mp hq]; exact .here, by simp⟩ ⟨t.toNat, by omega, decide_eq_true (by rw [Int.toNat_of_nonneg ht.1]; simp)⟩
  · exact ⟨z.2.nd, fun q => ⟨z.2.so q, fun k => rch_closed z.1 z.2.ht k⟩⟩
  · rcases srcQ_new (fl := fl) (f := s) n with ⟨h1, h2⟩ | ⟨x, h1, h2, h3, h4⟩
    · exact .inl (src_closed_of hf h2)
    · refine .inr ⟨x.toNat, by omega, ?_, ?_⟩
      · rw [Int.toNat_of_nonneg h3]; exact decide_eq_true h2
      · rw [Int.toNat_of_nonneg h3]; exact decide_eq_false h1
theorem rch_rg {fl : List (Int × Int)} {n : Nat} {t q : Int} (hf : FlIn n fl) (ht : 0 ≤ t ∧ t < n) (h : Rch fl t q) : 0 ≤ q ∧ q < n := by
  cases h with
  | here => exact ht
  | step h1 _ => exact ⟨(hf _ h1).1, (hf _ h1).2.1⟩
/-- the ascending list -/
noncomputable def upList (n : Nat) (m : Int → Prop) : List Int := by
  classical
  exact ((List.range n).map fun i : Nat => (i : Int)).filter fun q => decide (m q)
theorem mem_upList {n : Nat} {m : Int → Prop} {q : Int} : q ∈ upList n m ↔ (0 ≤ q ∧ q < n) ∧ m q := by
  classical
  unfold upList
  rw [List.mem_filter, List.mem_map]
  constructor
  · rintro ⟨⟨i, hi, rfl⟩, h⟩
    exact ⟨⟨by omega, by have := List.mem_range.mp hi; omega⟩, of_decide_eq_true h⟩
  · rintro ⟨⟨h1, h2⟩, h⟩
    exact ⟨⟨q.toNat, List.mem_range.mpr (by omega), by omega⟩, decide_eq_true h⟩
theorem range_lt (n : Nat) : ((List.range n).map fun i : Nat => (i : Int)).Pairwise (· < ·) := by
  rw [List.pairwise_map]
  exact List.pairwise_lt_range.imp (fun h => by omega)
theorem upList_lt (n : Nat) (m : Int → Prop) : (upList n m).Pairwise (· < ·) := (range_lt n).filter _
theorem up_eq {l r : List Int} (h1 : l.Pairwise (· ≤ ·)) (d1 : l.Nodup) (h2 : r.Pairwise (· < ·)) (h : ∀ q, q ∈ l ↔ q ∈ r) : l = r := by
  have d2 : r.Nodup := h2.imp (fun a e => by omega)
  have p : l.Perm r := (List.perm_ext_iff_of_nodup d1 d2).mpr h
  exact p.eq_of_pairwise (fun a b _ _ h1 h2 => by omega) h1 (h2.imp (fun a => by omega))
/-! the list of marks -/
def mkStep (f : List Bool) (z : Int × Int) : List Bool := if f.getD z.2.toNat false = true then f.set z.1.toNat true else f
def mkQ (fl : List (Int × Int)) (f : List Bool) (i : Nat) : List Bool := (fl.take i).foldl mkStep f
def mkR (fl : List (Int × Int)) (f : List Bool) : List Bool := fl.foldl mkStep f
theorem mkQ_succ {fl : List (Int × Int)} {f : List Bool} {i : Nat} {z : Int × Int} (h : fl[i]? = some z) : mkQ fl f (i + 1) = mkStep (mkQ fl f i) z := by
  unfold mkQ
  rw [List.take_succ, h, List.foldl_append]
  rfl
structure MkI (fl : List (Int × Int)) (n : Nat) (t : Int) (f : List Bool) : Prop where
  len : f.length = n
  so : ∀ i : Nat, f.getD i false = true → Rch fl t i
  ht : f.getD t.toNat false = true
def MkC (fl : List (Int × Int)) (f : List Bool) : Prop := ∀ z ∈ fl, f.getD z.2.toNat false = true → f.getD z.1.toNat false = true
theorem getD_set (f : List Bool) (i j : Nat) : (f.set i true).getD j false = if i = j ∧ i < f.length then true else f.getD j false := by
  rw [List.getD_eq_getElem?_getD, List.getD_eq_getElem?_getD, List.getElem?_set]
  by_cases e : i = j
  · subst e
    by_cases h : i < f.length
    · simp [h]
    · simp [h]
  · simp [e]
theorem mkStep_mono {f : List Bool} {z : Int × Int} {i : Nat} (h : f.getD i false = true) : (mkStep f z).getD i false = true := by
  unfold mkStep
  split
  · rw [getD_set]
    split
    · rfl
    · exact h
  · exact h
theorem mkF_mono : ∀ (l : List (Int × Int)) {f : List Bool} {i : Nat}, f.getD i false = true → (l.foldl mkStep f).getD i false = true
  | [], _, _, h => h
  | z :: l, _, _, h => mkF_mono l (mkStep_mono h)
theorem MkI.step {fl : List (Int × Int)} {n : Nat} {t : Int} {f : List Bool} (hf : FlIn n fl) (h : MkI fl n t f) {z : Int × Int} (hz : z ∈ fl) : MkI fl n t (mkStep f z) := by
  have r := hf z hz
  refine ⟨?_, fun i hi => ?_, mkStep_mono h.ht⟩
  · unfold mkStep
    split
    · rw [List.length_set]; exact h.len
    · exact h.len
  · unfold mkStep at hi
    split at hi
    · rename_i c
      rw [getD_set] at hi
      split at hi
      · rename_i d
        have k := h.so _ c
        rw [Int.toNat_of_nonneg r.2.2.1] at k
        have e : (i : Int) = z.1 := by have := d.1; omega
        rw [e]
        exact .step hz k
      · exact h.so i hi
    · exact h.so i hi
theorem MkI.fold {fl : List (Int × Int)} {n : Nat} {t : Int} (hf : FlIn n fl) : ∀ (l : List (Int × Int)) {f : List Bool}, (∀ z ∈ l, z ∈ fl) → MkI fl n t f → MkI fl n t (l.foldl mkStep f)
  | [], _, _, h => h
  | z :: l, _, hl, h => MkI.fold hf l (fun y hy => hl y (List.mem_cons_of_mem _ hy)) (h.step hf (hl z (List.mem_cons_self ..)))
theorem mk_new {fl : List (Int × Int)} {n : Nat} {t : Int} (hf : FlIn n fl) : ∀ (l : List (Int × Int)) {f : List Bool}, (∀ z ∈ l, z ∈ fl) → MkI fl n t f → (∀ z ∈ l, f.getD z.2.toNat false = true → f.getD z.1.toNat false = true) ∨ ∃ i, i < n ∧ (l.foldl mkStep f).getD i false = true ∧ f.getD i false = false
  | [], _, _, _ => .inl fun z hz => by cases hz
  | z :: l, f, hl, h => by
    have hz := hl z (List.mem_cons_self ..)
    have r := hf z hz
    by_cases c : f.getD z.2.toNat false = true
    · cases d : f.getD z.1.toNat false with
      | true =>
        have e : mkStep f z = f := by
          unfold mkStep
          rw [if_pos c]
          have hlt : z.1.toNat < f.length := by rw [h.len]; omega
          refine List.ext_getElem? fun j => ?_
          rw [List.getElem?_set]
          by_cases q : z.1.toNat = j
          · subst q
            rw [List.getD_eq_getElem?_getD, List.getElem?_eq_getElem hlt] at d
            simp at d
            simp [hlt, d]
          · simp [q]
        rcases mk_new hf l (fun y hy => hl y (List.mem_cons_of_mem _ hy)) h with a | ⟨i, a1, a2, a3⟩
        · refine .inl fun y hy => ?_
          rcases List.mem_cons.mp hy with rfl | hy
          · exact fun _ => d
          · exact a y hy
        · exact .inr ⟨i, a1, by rw [List.foldl_cons, e]; exact a2, a3⟩
      | false =>
        refine .inr ⟨z.1.toNat, by omega, mkF_mono l ?_, d⟩
        unfold mkStep
        rw [if_pos c, getD_set, if_pos ⟨rfl, by rw [h.len]; omega⟩]
    · have e : mkStep f z = f := by unfold mkStep; rw [if_neg c]
      rcases mk_new hf l (fun y hy => hl y (List.mem_cons_of_mem _ hy)) h with a | ⟨i, a1, a2, a3⟩
      · refine .inl fun y hy => ?_
        rcases List.mem_cons.mp hy with rfl | hy
        · exact fun k => absurd k c
        · exact a y hy
      · exact .inr ⟨i, a1, by rw [List.foldl_cons, e]; exact a2, a3⟩
theorem mk_fix : ∀ (l : List (Int × Int)) {f : List Bool}, (∀ z ∈ l, 0 ≤ z.1 ∧ z.1.toNat < f.length) → (∀ z ∈ l, f.getD z.2.toNat false = true → f.getD z.1.toNat false = true) → l.foldl mkStep f = f
  | [], _, _, _ => rfl
  | z :: l, f, hr, h => by
    have e : mkStep f z = f := by
      unfold mkStep
      split
      · rename_i c
        have d := h z (List.mem_cons_self ..) c
        have hlt := (hr z (List.mem_cons_self ..)).2
        refine List.ext_getElem? fun j => ?_
        rw [List.getElem?_set]
        by_cases q : z.1.toNat = j
        · subst q
          rw [List.getD_eq_getElem?_getD, List.getElem?_eq_getElem hlt] at d
          simp at d
          simp [hlt, d]
        · simp [q]
      · rfl
    rw [List.foldl_cons, e]
    exact mk_fix l (fun y hy => hr y (List.mem_cons_of_mem _ hy)) fun y hy => h y (List.mem_cons_of_mem _ hy)
theorem mk_all {fl : List (Int × Int)} {n : Nat} {t : Int} (hf : FlIn n fl) (ht : 0 ≤ t ∧ t < n) {f0 : List Bool} (h0 : MkI fl n t f0) : (iterN (mkR fl) n f0).length = n ∧ ∀ i : Nat, i < n → ((iterN (mkR fl) n f0).getD i false = true ↔ Rch fl t i) := by
  have z := fix_rounds (f := mkR fl) (mem := fun f i => f.getD i false) (C := MkC fl) (I := MkI fl n t) (n := n) (fun s h => MkI.fold hf fl (fun _ h => h) h) (fun s h i hi => mkF_mono fl hi) (fun s h => mk_new hf fl (fun _ h => h) h) (fun s h c => mk_fix fl (fun z hz => ⟨(hf z hz).1, by rw [h.len]; have := hf z hz; omega⟩) c) h0 ⟨t.toNat, by omega, h0.ht⟩
  refine ⟨z.2.len, fun i hi => ⟨z.2.so i, fun k => ?_⟩⟩
  have : ∀ q, Rch fl t q → (iterN (mkR fl) n f0).getD q.toNat false = true := fun q k => by
    induction k with
    | here => exact z.2.ht
    | step h1 _ ih => exact z.1 _ h1 ih
  have := this i k
  rwa [Int.toNat_natCast] at this
end reach

end K30
namespace K30
open PySem PySem.Spec PyProof.Rows L2
local macro_rules | `(tactic| walk_at "s") => `(tactic| first
  | ((with_reducible refine' M.x_var ?xv ?_); (case xv => exact rfl))
  | with_reducible refine M.x_c ?_
  | with_reducible refine M.x_op ?_
  | with_reducible refine M.x_seq ?_
  | with_reducible refine M.x_asg ?_
  | with_reducible refine M.x_gname ?_
  | with_reducible refine M.x_rI0 ?_
  | ((with_reducible refine' M.x_rI ?xc ?_); (case xc => walk_at "side"))
  | with_reducible refine M.x_call ?_
  | with_reducible refine M.x_callB ?_
  | with_reducible refine M.x_cons ?_
  | with_reducible refine M.x_nil ?_
  | with_reducible refine M.x_int ?_
  | with_reducible refine M.x_intB ?_
  | with_reducible refine M.x_ifS ?_
  | with_reducible refine M.x_test ?_
  | with_reducible refine M.x_tB ?_
  | with_reducible refine M.x_isB ?_
  | with_reducible refine M.x_ret ?_
  | with_reducible refine M.x_retN ?_
  | with_reducible refine M.x_next ?_
  | with_reducible refine M.x_brk ?_
  | with_reducible refine M.x_cont ?_
  | with_reducible refine M.x_drop ?_
  | with_reducible refine M.x_eqI ?_
  | with_reducible refine M.x_neI ?_
  | with_reducible refine M.x_eqS ?_
  | with_reducible refine M.x_neS ?_
  | with_reducible refine M.x_eqB ?_
  | with_reducible refine M.x_neB ?_
  | with_reducible refine M.x_ifT ?_
  | with_reducible refine M.x_ifF ?_
  | with_reducible refine M.x_and ?_
  | with_reducible refine M.x_or ?_
  | with_reducible refine M.x_not ?_
  | with_reducible refine M.x_ifNB ?_
  | with_reducible refine M.x_andV ?_
  | with_reducible refine M.x_orV ?_
  | with_reducible refine M.x_notV ?_
  | with_reducible refine M.x_ifE ?_
  | with_reducible refine M.x_chain ?_
  | with_reducible refine M.x_isN ?_
  | with_reducible refine M.x_notN ?_
  | with_reducible refine M.x_un ?_
  | with_reducible refine M.x_rU ?_
  | with_reducible refine M.x_max2 ?_
  | with_reducible refine M.x_min2 ?_
  | with_reducible refine M.x_isiII ?_
  | with_reducible refine M.x_isiIB ?_
  | with_reducible refine M.x_isiBB ?_
  | with_reducible refine M.x_isiSS ?_
  | ((with_reducible refine' M.x_ifTD ?xp ?_); (case xp => first | exact rfl | decide | omega))
  | ((with_reducible refine' M.x_ifFD ?xp ?_); (case xp => first | exact rfl | decide | omega))
  | with_reducible refine M.x_lst' ?_
  | with_reducible refine M.x_tup' ?_)
local macro_rules | `(tactic| walk_at "side") => `(tactic| first
  | decide
  | (show (0 : Int) < _; decide)
  | (show (0 : Int) < _; omega)
  | (show (0 : Int) ≤ _; omega)
  | (exact ⟨by decide, by decide⟩)
  | (exact ⟨by omega, by omega⟩)
  | (exact Or.inr ⟨by decide, by decide⟩)
  | (exact Or.inl ⟨by decide, by decide⟩)
  | (exact Or.inr ⟨by omega, by omega⟩)
  | (exact Or.inl ⟨by omega, by omega⟩)
  | (exact ⟨by decide, by decide, by decide⟩)
  | (exact ⟨by omega, by omega, by omega⟩))
local macro_rules | `(tactic| walk_at "go") => `(tactic| (repeat walk_at "s"))
local macro_rules | `(tactic| walk_at "hp") => `(tactic| first
  | assumption
  | exact upd_same
  | ((refine' M.same_hp ?xe ?xq); (case xe => assumption); (case xq => walk_at "hp")))
local macro_rules | `(tactic| walk_at "seq") => `(tactic| first
  | assumption
  | exact SqL.of (by assumption)
  | ((refine' Same.seq ?xe ?xq); (case xe => assumption); (case xq => walk_at "seq")))
local macro_rules | `(tactic| walk_at "sqt") => `(tactic| first
  | assumption
  | exact SqT.of (by assumption)
  | ((refine' M.Same.st ?xe ?xq); (case xe => assumption); (case xq => walk_at "sqt")))
local macro_rules | `(tactic| walk_at "at") => `(tactic| first
  | with_reducible exact M.atI_ints (by first | decide | omega) (by omega)
  | with_reducible exact M.atI_ints (by first | decide | omega) (by simp; omega)
  | exact rfl)
local macro_rules | `(tactic| walk_at "s") => `(tactic| first
  | with_reducible refine M.x_truV ?_
  | ((with_reducible refine' M.x_truL ?xh ?_); (case xh => walk_at "seq"))
  | with_reducible refine M.x_truI ?_
  | with_reducible refine M.x_isBl ?_
  | with_reducible refine M.x_notBl ?_
  | ((with_reducible refine' M.x_ixL ?xh ?xa ?_); (case xh => walk_at "seq"); (case xa => walk_at "at"))
  | ((with_reducible refine' M.x_ixT ?xh ?xa ?_); (case xh => walk_at "sqt"); (case xa => walk_at "at"))
  | ((with_reducible refine' M.x_lenL ?xh ?_); (case xh => walk_at "seq"))
  | ((with_reducible refine' M.x_lenT ?xh ?_); (case xh => walk_at "sqt"))
  | ((with_reducible refine' M.x_listL ?xh ?_); (case xh => walk_at "seq"))
  | ((with_reducible refine' M.x_newL ?xz ?_); (case xz => exact M.sl4 (by first | decide | (simp; done) | (simp; omega))))
  | ((with_reducible refine' M.x_newT ?xz ?_); (case xz => exact M.sl4 (by first | decide | (simp; done) | (simp; omega))))
  | ((with_reducible refine' M.x_cat ?xh ?xi ?xz ?_); (case xh => walk_at "hp"); (case xi => walk_at "hp"); (case xz => exact M.sl4 (by first | decide | (simp; done) | (simp; omega)))))

local macro_rules | `(tactic| walk_at "s") => `(tactic| first
  | ((with_reducible refine' M.x_inL ?xh ?xf ?xg ?_); (case xh => walk_at "seq"); (case xf => exact rfl); (case xg => first | exact rfl | exact M.flat_strsV _))
  | ((with_reducible refine' M.x_inT ?xh ?xf ?xg ?_); (case xh => walk_at "sqt"); (case xf => exact rfl); (case xg => first | exact rfl | exact M.flat_strsV _))
  | ((with_reducible refine' M.x_notInL ?xh ?xf ?xg ?_); (case xh => walk_at "seq"); (case xf => exact rfl); (case xg => first | exact rfl | exact M.flat_strsV _))
  | ((with_reducible refine' M.x_notInT ?xh ?xf ?xg ?_); (case xh => walk_at "sqt"); (case xf => exact rfl); (case xg => first | exact rfl | exact M.flat_strsV _))
  | with_reducible refine M.x_bm ?_
  | ((with_reducible refine' M.x_tyL ?xh ?_); (case xh => walk_at "seq"))
  | ((with_reducible refine' M.x_tyK ?xh ?_); (case xh => walk_at "tyk"))
  | with_reducible refine M.x_m1 ?_
  | with_reducible refine M.x_txt ?_
  | ((with_reducible refine' M.x_split ?xh ?xi ?_); (case xh => decide +kernel); (case xi => decide +kernel))
  | ((with_reducible refine' M.x_addZ ?xh ?_); (case xh => decide +kernel))
  | ((with_reducible refine' M.x_tupL ?xh ?_); (case xh => walk_at "seq"))
  | ((with_reducible refine' M.x_isiTT ?xh ?_); (case xh => walk_at "hp"))
  | with_reducible refine M.x_rz ?_
  | with_reducible refine M.x_mkE ?_
  | with_reducible refine M.x_tryAs ?_
  | with_reducible refine M.x_callS ?_
  | with_reducible refine M.x_xf ?_)
local macro_rules | `(tactic| walk_at "s") => `(tactic| first
  | with_reducible refine M.x_isN0 ?_
  | with_reducible refine M.x_isNr ?_
  | with_reducible refine M.x_isNi ?_
  | with_reducible refine M.x_isNs ?_
  | with_reducible refine M.x_notN0 ?_
  | with_reducible refine M.x_notNr ?_
  | with_reducible refine M.x_notNi ?_
  | with_reducible refine M.x_notNs ?_)
local macro_rules | `(tactic| walk_at "split") => `(tactic| (walk_at "go"; first | done | ((refine M.x_ifD (fun _ => ?_) (fun _ => ?_)) <;> walk_at "split") | ((refine M.x_if (fun _ => ?_) (fun _ => ?_)) <;> walk_at "split") | skip))
local macro_rules | `(tactic| walk_at "sqt") => `(tactic| first
  | fail
)

local macro_rules | `(tactic| walk_at "cls") => `(tactic| first
  | exact Tx.c_Partition (by assumption)
  | exact Tx.c_Config (by assumption))
local macro_rules | `(tactic| walk_at "noat") => `(tactic| first
  | exact Tx.n_Partition_image (by assumption)
  | exact Tx.n_Partition_pages (by assumption)
  | exact Tx.n_Partition_start (by assumption)
  | exact Tx.n_Config_partitions (by assumption)
  | exact Tx.n_Config_frames (by assumption)
  | exact Tx.n_Config_channels (by assumption)
  | exact Tx.n_Config_shares (by assumption)
  | exact Tx.n_Config_devices (by assumption)
  | exact Tx.n_Config_flows (by assumption))
local macro_rules | `(tactic| walk_at "ne") => `(tactic| first
  | assumption
  | exact Ne.symm (by assumption)
  | exact M.ne_il (by assumption) (by assumption)
  | exact M.ne_li (by assumption) (by assumption))
local macro_rules | `(tactic| walk_at "hp0") => `(tactic| assumption)
local macro_rules | `(tactic| walk_at "s") => `(tactic| first
  | with_reducible refine M.x_gsub ?_
  | with_reducible refine M.x_gnil ?_
  | with_reducible refine M.x_gcons ?_
  | ((with_reducible refine' M.x_gtup ?xh ?xl ?_); (case xh => walk_at "sqt"); (case xl => exact rfl))
  | with_reducible refine M.x_fld ?_
  | ((with_reducible refine' M.x_isFld ?xh ?xc ?xn ?xl ?_); (case xh => walk_at "hp"); (case xc => walk_at "cls"); (case xn => walk_at "noat"); (case xl => exact rfl))
  | with_reducible refine M.x_sfld ?_
  | with_reducible refine M.x_meth ?_
  | with_reducible refine M.x_methS ?_
  | ((with_reducible refine' M.x_isMeth ?xh ?xl ?_); (case xh => walk_at "hp"); (case xl => exact rfl))
  | with_reducible refine M.x_make ?_
  | with_reducible refine M.x_dget ?_
  | ((with_reducible refine' M.x_isDG ?xh ?xl ?_); (case xh => walk_at "hp"); (case xl => exact rfl))
  | with_reducible refine M.x_dput ?_
  | with_reducible refine M.x_mkE2 ?_
  | with_reducible refine M.x_tryO ?_
  | with_reducible refine M.x_fldaug ?_
  | with_reducible refine M.x_turn ?_)
local macro_rules | `(tactic| walk_at "hp") => `(tactic| first
  | assumption
  | exact upd_same
  | ((refine' M.Ext.at1 ?xe ?xn ?xq); (case xe => assumption); (case xn => walk_at "ne"); (case xq => walk_at "hp"))
  | ((refine' M.same_hp ?xe ?xq); (case xe => assumption); (case xq => walk_at "hp")))
local macro_rules | `(tactic| walk_at "seq") => `(tactic| first
  | assumption
  | ((refine' SqL.of ?xq); (case xq => walk_at "hp")))
local macro_rules | `(tactic| walk_at "at") => `(tactic| first
  | assumption
  | with_reducible exact M.atI_ints (by first | decide | omega) (by omega)
  | with_reducible exact M.atI_ints (by first | decide | omega) (by simp; omega)
  | exact rfl)
local macro_rules | `(tactic| walk_at "s") => `(tactic| ((with_reducible refine' M.x_setI ?xh ?x0 ?x1 ?_); (case xh => walk_at "hp"); (case x0 => omega); (case x1 => first | omega | (simp only [List.length_set]; omega))))

local macro_rules | `(tactic| walk_at "s") => `(tactic| first
  | ((with_reducible refine' M.x_lenLI ?xh ?_); (case xh => walk_at "seq"))
  | ((with_reducible refine' M.x_lenTI ?xh ?_); (case xh => walk_at "sqt")))
local macro_rules | `(tactic| walk_at "gn") => `(tactic| first
  | with_reducible refine M.x_gn0 ?_
  | with_reducible refine M.x_gn1 ?_
  | with_reducible refine M.x_gn2 ?_
  | with_reducible refine M.x_gn3 ?_
  | with_reducible refine M.x_gn4 ?_
  | with_reducible refine M.x_gn5 ?_
  | with_reducible refine M.x_gn6 ?_
  | with_reducible refine M.x_gn7 ?_
  | with_reducible refine M.x_gn8 ?_
  | with_reducible refine M.x_gn9 ?_
  | with_reducible refine M.x_gn10 ?_
  | with_reducible refine M.x_gn11 ?_
  | with_reducible refine M.x_gn12 ?_
  | with_reducible refine M.x_gn13 ?_
  | with_reducible refine M.x_gn14 ?_
  | with_reducible refine M.x_gn15 ?_
  | with_reducible refine M.x_gn16 ?_
  | with_reducible refine M.x_gn17 ?_
  | with_reducible refine M.x_gn18 ?_
  | with_reducible refine M.x_gn19 ?_
  | with_reducible refine M.x_gn20 ?_
  | with_reducible refine M.x_gn21 ?_
  | with_reducible refine M.x_gn22 ?_
  | with_reducible refine M.x_gn23 ?_
  | with_reducible refine M.x_gn24 ?_
  | with_reducible refine M.x_gn25 ?_)
local macro_rules | `(tactic| walk_at "s") => `(tactic| walk_at "gn")

local macro_rules | `(tactic| walk_at "s") => `(tactic| first
  | with_reducible refine M.x_lcI ?_
  | with_reducible refine M.x_isOI ?_
  | with_reducible refine M.x_part ?_
  | with_reducible refine M.x_noPart ?_
  | with_reducible refine M.x_sl ?_
  | ((with_reducible refine' M.x_slL ?xh ?_); (case xh => walk_at "seq"))
  | with_reducible refine M.x_pnil ?_
  | with_reducible refine M.x_pcons ?_
  | with_reducible refine M.x_disp ?_)

local macro_rules | `(tactic| walk_at "s") => `(tactic| first
  | ((with_reducible refine' M.x_setI ?xh ?x0 ?x1 ?_); (case xh => walk_at "hp"); (case x0 => first | decide | omega); (case x1 => first | decide | (simp only [List.length_set, List.length_cons, List.length_nil]; omega)))
  | with_reducible refine M.x_tYes ?_
  | with_reducible refine M.x_forRI ?_
  | with_reducible refine M.x_forLI ?_
  | with_reducible refine M.x_forTI ?_
  | with_reducible refine M.x_lcRI ?_
  | with_reducible refine M.x_lcLI ?_
  | with_reducible refine M.x_lcTI ?_)

section conf6
variable {P : Program} {w : World} {K : PySem.W.Frag} {mg : Str → Option Value} {base : Heap}
local macro_rules | `(tactic| walk_at "s") => `(tactic| ((with_reducible refine' go_may_flow ?xd ?_); (case xd => assumption)))
theorem x_sortedI {H : Hp} {Q : VK} {a : Addr} {l : List Int} (h : SqL K H a (l.map V.int)) (k : ∀ (l' : List Int) p H2, l'.Perm l → l'.Pairwise (· ≤ ·) → H p = none → Same H H2 → H2 p = some (.lst (l'.map V.int)) → Q (.ref p) H2) : rSortedI K [.ref a] H Q := ⟨a, l, rfl, h, fun l' p h1 h2 h3 => k l' p _ h1 h2 h3 (M.same_new h3) upd_same⟩
theorem x_anyB {H : Hp} {Q : VK} {a : Addr} {l : List Bool} (h : SqL K H a (l.map V.bl)) (k : Q (.bl (l.any id)) H) : rAny K [.ref a] H Q := ⟨a, l, rfl, h, k⟩
structure CfgR (v : CfgV) : Prop where
  n : v.parts.length ≤ 100
  fl : FlIn v.parts.length v.flows
theorem flat_ints (l : List Int) : (l.map V.int).all flatV = true := List.all_eq_true.mpr fun x hx => by
  obtain ⟨z, _, rfl⟩ := List.mem_map.mp hx
  rfl
def sp_sources_of (K : PySem.W.Frag) : Sp := fun vs H Q _ => ∃ (c : Addr) (A : CA) (v : CfgV) (t : Int), vs = [.ref c, .int t] ∧ CfgAt K c A v H ∧ CfgR v ∧ (0 ≤ t ∧ t < v.parts.length) ∧ ∀ q H', H q = none → Same H H' → H' q = some (.lst ((upList v.parts.length (Rch v.flows t)).map V.int)) → Q (.ref q) H'
theorem go_sources_of {c : Addr} {A : CA} {v : CfgV} {t : Int} {H : Hp} {Q : VK} {E : XK} (h : CfgAt K c A v H) (hv : CfgR v) (ht : 0 ≤ t ∧ t < v.parts.length) (k : ∀ q H', H q = none → Same H H' → H' q = some (.lst ((upList v.parts.length (Rch v.flows t)).map V.int)) → Q (.ref q) H') : sp_sources_of K [.ref c, .int t] H Q E := ⟨c, A, v, t, rfl, h, hv, ht, k⟩
theorem mayFlow_flw (v : CfgV) (s t : Int) : mayFlow v s t = flw v.flows s t := rfl
theorem SrcI.len {fl : List (Int × Int)} {n : Nat} {t : Int} {f : List Int} (h : SrcI fl n t f) : f.length ≤ n := by
  have := List.Nodup.length_le_of_subset (l₁ := f) (l₂ := (List.range n).map fun i : Nat => (i : Int)) h.nd (fun q hq => List.mem_map.mpr ⟨q.toNat, List.mem_range.mpr (by have := h.rg q hq; omega), by have := h.rg q hq; omega⟩)
  simpa using this
abbrev M.N_sources_of : List Str := ["config", "target", "found", "_", "q", "p"]
theorem sc_sources_of : FnScope M.N_sources_of ["config", "target"] (defScope s_sources_of) := ⟨rfl, rfl, rfl, by decide +kernel, rfl, by decide +kernel, by decide +kernel⟩
theorem ok_sources_of (T : Tx K mg) : C8.Cal P w K mg base 2 "sources_of" (sp_sources_of K) [] := by
  refine M.cal_mk T.f_sources_of T.g_sources_of sc_sources_of (fun _ _ _ _ _ _ us hl => match us, hl with | [_, _], _ => rfl) (by rintro vs H Q E ⟨c, A, v, t, rfl, _⟩; rfl) fun cdv Ar outer s0 H vs Q E hr h => ?_
  obtain ⟨c, A, v, t, rfl, h, hv, ht, k⟩ := h
  refine ⟨_, (pss_cons (ps_set (i := 2) sc_sources_of.nd rfl (Or.inl rfl) (pe_lst (pa_cons (pv 1) pa_nil))) (pss_cons (ps_for PassesOwn.never rfl (pi_range1 (by rfl) T.b_range (pa_cons (pe_callB M.call_len (by rfl) T.b_len (by decide +kernel) (pa_cons (pe_fld (pv 0) rfl) pa_nil)) pa_nil)) (pg_name (i := 3) sc_sources_of.nd rfl (Or.inl rfl)) (pss_one (ps_for PassesOwn.never rfl (pi_range1 (by rfl) T.b_range (pa_cons (pe_callB M.call_len (by rfl) T.b_len (by decide +kernel) (pa_cons (pe_fld (pv 0) rfl) pa_nil)) pa_nil)) (pg_name (i := 4) sc_sources_of.nd rfl (Or.inr rfl)) (pss_one (ps_if (PW.pt (pw_and (pt_cmpR op_notIn_seq (pv 4) (pv 2) (by rfl)) (pw_and1 (pt_val (pe_callB (cr_any rfl) (by rfl) T.b_any (by decide +kernel) (pa_cons (pe_lc (own := [("p", 5)]) rfl sc_sources_of.nd (pi_list (pv 2)) (blkOk_by (own := [("p", 5)]) (N := M.N_sources_of) (sc := defScope s_sources_of) (by decide +kernel)) (fun _ _ _ _ _ => (pg_name (i := 5) sc_sources_of.nd rfl (Or.inl rfl))) (fun _ _ _ _ _ => pts_nil) (fun _ _ _ _ _ => (C8.pe_c (ok_may_flow T) hr (by decide) (by rfl) (pa_cons (pv 0) (pa_cons (pv 4) (pa_cons (pv 5) pa_nil)))))) pa_nil)))))) (pss_one (ps_expr (pe_bm PySem.F.plainAttrs_list PySem.F.slot_list_append PySem.F.type_list_append mt_append (pv 2) (pa_cons (pv 4) pa_nil)))) pss_nil))))) (pss_one (ps_ret (pe_callB cr_sortedI (by rfl) T.b_sorted (by decide +kernel) (pa_cons (pv 2) pa_nil)))))), ?_⟩
  refine M.x_st (σ0 := [some _, some _, none, none, none, none]) rfl ?_
  have hpl := h.pp.1
  have hvn := hv.n
  walk_at "go"
  intro f H1 hf e1 h1
  have h1 : H1 f = some (.lst (([t] : List Int).map V.int)) := h1
  have c1 := h.same e1
  have hc1 := c1.h
  have q1 := c1.q1
  walk_at "go"
  have I0 : SrcI v.flows v.parts.length t [t] := ⟨by simp, fun q hq => by rw [List.mem_singleton.mp hq]; exact ht, fun q hq => by rw [List.mem_singleton.mp hq]; exact .here, by simp⟩
  refine M.x_isForR (by simp; omega) (fun i σ' Hx => ∃ (v3 v4 v5 : Option V), σ' = [some (.ref c), some (.int t), some (.ref f), v3, v4, v5] ∧ Same H Hx ∧ SrcI v.flows v.parts.length t (iterN (srcR v.flows v.parts.length) i [t]) ∧ Hx f = some (.lst ((iterN (srcR v.flows v.parts.length) i [t]).map V.int))) ⟨_, _, _, rfl, e1, I0, h1⟩ ?_ ?_
  · rintro i σ' Hx hi ⟨v3, v4, v5, rfl, ex, Ix, hx⟩
    have cx := h.same ex
    have hcx := cx.h
    have qx := cx.q1
    generalize hgs : iterN (srcR v.flows v.parts.length) i [t] = s at Ix hx
    have es : iterN (srcR v.flows v.parts.length) (i + 1) [t] = srcQ v.flows s v.parts.length := by rw [← hgs]; rfl
    walk_at "go"
    refine M.x_isForR (by simp; omega) (fun j σ' Hx => ∃ (v4 v5 : Option V), σ' = [some (.ref c), some (.int t), some (.ref f), some (.int i), v4, v5] ∧ Same H Hx ∧ Hx f = some (.lst ((srcQ v.flows s j).map V.int))) ⟨_, _, rfl, ex, hx⟩ ?_ ?_
    · rintro j σ' Hx hj ⟨v4, v5, rfl, ex, hx⟩
      rw [List.length_map, hpl] at hj
      have cx := h.same ex
      have hcx := cx.h
      have Ij := Ix.srcQ j (by omega)
      have hjl := Ij.len
      walk_at "go"
      refine M.x_notInL (SqL.of hx) rfl (flat_ints _) ?_
      rw [M.inV_ints]
      have hs : srcQ v.flows s (j + 1) = srcStep v.flows (srcQ v.flows s j) j := rfl
      generalize srcQ v.flows s j = g at hs hx Ij hjl
      rw [hs]
      unfold srcStep
      walk_at "go"
      refine M.x_if (fun c1 => ?_) (fun c1 => ?_)
      · walk_at "go"
        rw [c1]
        exact ⟨_, _, rfl, ex, hx⟩
      · walk_at "go"
        refine M.x_isLcL (fun D k acc H' => Hx D = none ∧ Same Hx H' ∧ acc = ((g.take k).map fun p => flw v.flows j p).map V.bl) (SqL.of hx) (by rw [List.length_map]; omega) (fun D H' hD e h => ⟨hD, e, rfl⟩) (fun D k acc H' hD hk hq hp => SqL.same (SqL.of hx) hp.2.1) ?_ ?_
        · rintro D k y acc H' hD hy hl hq ⟨_, e, rfl⟩
          obtain ⟨z, hz, rfl⟩ := M.map_int_get hy
          have hlt : k < g.length := (List.getElem?_eq_some_iff.mp hz).1
          have cy := cx.same e
          unfold M.LcTurn
          walk_at "go"
          refine ⟨rfl, ?_⟩
          walk_at "go"
          intro H2 e2
          refine M.x_lcPut (e2 _ _ hq) hl (by omega) (fun H5 e5 h5 => ⟨hD, same_but hD (e.trans e2) e5, ?_⟩)
          rw [take_succ' hz, List.map_append, List.map_append]
          rfl
        rintro D acc H2 hD hl h2 ⟨_, e2, rfl⟩
        rw [List.length_map, List.take_length] at h2
        walk_at "go"
        refine x_anyB (SqL.of h2) ?_
        walk_at "go"
        have he : (g.map fun p => flw v.flows j p).any id = g.any fun p => flw v.flows j p := by rw [List.any_map]; rfl
        rw [he]
        have hx2 := e2 _ _ hx
        refine M.x_if (fun c2 => ?_) (fun c2 => ?_)
        · walk_at "go"
          refine M.x_appendI hx2 (by omega) (fun H3 e3 h3 => ?_)
          walk_at "go"
          rw [c1, c2]
          exact ⟨_, _, rfl, same_but hf (ex.trans e2) e3, h3⟩
        · walk_at "go"
          rw [c1, c2]
          exact ⟨_, _, rfl, ex.trans e2, hx2⟩
    · rintro σ' Hx ⟨v4, v5, rfl, ex, hx⟩
      rw [List.length_map, hpl, Int.toNat_natCast] at hx
      walk_at "go"
      exact ⟨_, _, _, rfl, ex, by rw [es]; exact Ix.srcQ _ (Nat.le_refl _), by rw [es]; exact hx⟩
  rintro σ' Hx ⟨v3, v4, v5, rfl, ex, Ix, hx⟩
  rw [List.length_map, hpl, Int.toNat_natCast] at hx
  walk_at "go"
  refine x_sortedI (SqL.of hx) (fun l p H2 hp hs h2 e2 hl => ?_)
  obtain ⟨nd, hm⟩ := src_all hv.fl ht
  have e : l = upList v.parts.length (Rch v.flows t) := up_eq hs (hp.nodup_iff.mpr nd) (upList_lt _ _) fun q => by
    rw [hp.mem_iff, hm q, mem_upList]
    exact ⟨fun k => ⟨rch_rg hv.fl ht k, k⟩, fun k => k.2⟩
  rw [e] at hl
  exact k p H2 (ex.free h2) (ex.trans e2) hl
end conf6

end K30
namespace K30
open PySem PySem.Spec PyProof.Rows L2
local macro_rules | `(tactic| walk_at "s") => `(tactic| first
  | ((with_reducible refine' M.x_var ?xv ?_); (case xv => exact rfl))
  | with_reducible refine M.x_c ?_
  | with_reducible refine M.x_op ?_
  | with_reducible refine M.x_seq ?_
  | with_reducible refine M.x_asg ?_
  | with_reducible refine M.x_gname ?_
  | with_reducible refine M.x_rI0 ?_
  | ((with_reducible refine' M.x_rI ?xc ?_); (case xc => walk_at "side"))
  | with_reducible refine M.x_call ?_
  | with_reducible refine M.x_callB ?_
  | with_reducible refine M.x_cons ?_
  | with_reducible refine M.x_nil ?_
  | with_reducible refine M.x_int ?_
  | with_reducible refine M.x_intB ?_
  | with_reducible refine M.x_ifS ?_
  | with_reducible refine M.x_test ?_
  | with_reducible refine M.x_tB ?_
  | with_reducible refine M.x_isB ?_
  | with_reducible refine M.x_ret ?_
  | with_reducible refine M.x_retN ?_
  | with_reducible refine M.x_next ?_
  | with_reducible refine M.x_brk ?_
  | with_reducible refine M.x_cont ?_
  | with_reducible refine M.x_drop ?_
  | with_reducible refine M.x_eqI ?_
  | with_reducible refine M.x_neI ?_
  | with_reducible refine M.x_eqS ?_
  | with_reducible refine M.x_neS ?_
  | with_reducible refine M.x_eqB ?_
  | with_reducible refine M.x_neB ?_
  | with_reducible refine M.x_ifT ?_
  | with_reducible refine M.x_ifF ?_
  | with_reducible refine M.x_and ?_
  | with_reducible refine M.x_or ?_
  | with_reducible refine M.x_not ?_
  | with_reducible refine M.x_ifNB ?_
  | with_reducible refine M.x_andV ?_
  | with_reducible refine M.x_orV ?_
  | with_reducible refine M.x_notV ?_
  | with_reducible refine M.x_ifE ?_
  | with_reducible refine M.x_chain ?_
  | with_reducible refine M.x_isN ?_
  | with_reducible refine M.x_notN ?_
  | with_reducible refine M.x_un ?_
  | with_reducible refine M.x_rU ?_
  | with_reducible refine M.x_max2 ?_
  | with_reducible refine M.x_min2 ?_
  | with_reducible refine M.x_isiII ?_
  | with_reducible refine M.x_isiIB ?_
  | with_reducible refine M.x_isiBB ?_
  | with_reducible refine M.x_isiSS ?_
  | ((with_reducible refine' M.x_ifTD ?xp ?_); (case xp => first | exact rfl | decide | omega))
  | ((with_reducible refine' M.x_ifFD ?xp ?_); (case xp => first | exact rfl | decide | omega))
  | with_reducible refine M.x_lst' ?_
  | with_reducible refine M.x_tup' ?_)
local macro_rules | `(tactic| walk_at "side") => `(tactic| first
  | decide
  | (show (0 : Int) < _; decide)
  | (show (0 : Int) < _; omega)
  | (show (0 : Int) ≤ _; omega)
  | (exact ⟨by decide, by decide⟩)
  | (exact ⟨by omega, by omega⟩)
  | (exact Or.inr ⟨by decide, by decide⟩)
  | (exact Or.inl ⟨by decide, by decide⟩)
  | (exact Or.inr ⟨by omega, by omega⟩)
  | (exact Or.inl ⟨by omega, by omega⟩)
  | (exact ⟨by decide, by decide, by decide⟩)
  | (exact ⟨by omega, by omega, by omega⟩))
local macro_rules | `(tactic| walk_at "go") => `(tactic| (repeat walk_at "s"))
local macro_rules | `(tactic| walk_at "hp") => `(tactic| first
  | assumption
  | exact upd_same
  | ((refine' M.same_hp ?xe ?xq); (case xe => assumption); (case xq => walk_at "hp")))
local macro_rules | `(tactic| walk_at "seq") => `(tactic| first
  | assumption
  | exact SqL.of (by assumption)
  | ((refine' Same.seq ?xe ?xq); (case xe => assumption); (case xq => walk_at "seq")))
local macro_rules | `(tactic| walk_at "sqt") => `(tactic| first
  | assumption
  | exact SqT.of (by assumption)
  | ((refine' M.Same.st ?xe ?xq); (case xe => assumption); (case xq => walk_at "sqt")))
local macro_rules | `(tactic| walk_at "at") => `(tactic| first
  | with_reducible exact M.atI_ints (by first | decide | omega) (by omega)
  | with_reducible exact M.atI_ints (by first | decide | omega) (by simp; omega)
  | exact rfl)
local macro_rules | `(tactic| walk_at "s") => `(tactic| first
  | with_reducible refine M.x_truV ?_
  | ((with_reducible refine' M.x_truL ?xh ?_); (case xh => walk_at "seq"))
  | with_reducible refine M.x_truI ?_
  | with_reducible refine M.x_isBl ?_
  | with_reducible refine M.x_notBl ?_
  | ((with_reducible refine' M.x_ixL ?xh ?xa ?_); (case xh => walk_at "seq"); (case xa => walk_at "at"))
  | ((with_reducible refine' M.x_ixT ?xh ?xa ?_); (case xh => walk_at "sqt"); (case xa => walk_at "at"))
  | ((with_reducible refine' M.x_lenL ?xh ?_); (case xh => walk_at "seq"))
  | ((with_reducible refine' M.x_lenT ?xh ?_); (case xh => walk_at "sqt"))
  | ((with_reducible refine' M.x_listL ?xh ?_); (case xh => walk_at "seq"))
  | ((with_reducible refine' M.x_newL ?xz ?_); (case xz => exact M.sl4 (by first | decide | (simp; done) | (simp; omega))))
  | ((with_reducible refine' M.x_newT ?xz ?_); (case xz => exact M.sl4 (by first | decide | (simp; done) | (simp; omega))))
  | ((with_reducible refine' M.x_cat ?xh ?xi ?xz ?_); (case xh => walk_at "hp"); (case xi => walk_at "hp"); (case xz => exact M.sl4 (by first | decide | (simp; done) | (simp; omega)))))

local macro_rules | `(tactic| walk_at "s") => `(tactic| first
  | ((with_reducible refine' M.x_inL ?xh ?xf ?xg ?_); (case xh => walk_at "seq"); (case xf => exact rfl); (case xg => first | exact rfl | exact M.flat_strsV _))
  | ((with_reducible refine' M.x_inT ?xh ?xf ?xg ?_); (case xh => walk_at "sqt"); (case xf => exact rfl); (case xg => first | exact rfl | exact M.flat_strsV _))
  | ((with_reducible refine' M.x_notInL ?xh ?xf ?xg ?_); (case xh => walk_at "seq"); (case xf => exact rfl); (case xg => first | exact rfl | exact M.flat_strsV _))
  | ((with_reducible refine' M.x_notInT ?xh ?xf ?xg ?_); (case xh => walk_at "sqt"); (case xf => exact rfl); (case xg => first | exact rfl | exact M.flat_strsV _))
  | with_reducible refine M.x_bm ?_
  | ((with_reducible refine' M.x_tyL ?xh ?_); (case xh => walk_at "seq"))
  | ((with_reducible refine' M.x_tyK ?xh ?_); (case xh => walk_at "tyk"))
  | with_reducible refine M.x_m1 ?_
  | with_reducible refine M.x_txt ?_
  | ((with_reducible refine' M.x_split ?xh ?xi ?_); (case xh => decide +kernel); (case xi => decide +kernel))
  | ((with_reducible refine' M.x_addZ ?xh ?_); (case xh => decide +kernel))
  | ((with_reducible refine' M.x_tupL ?xh ?_); (case xh => walk_at "seq"))
  | ((with_reducible refine' M.x_isiTT ?xh ?_); (case xh => walk_at "hp"))
  | with_reducible refine M.x_rz ?_
  | with_reducible refine M.x_mkE ?_
  | with_reducible refine M.x_tryAs ?_
  | with_reducible refine M.x_callS ?_
  | with_reducible refine M.x_xf ?_)
local macro_rules | `(tactic| walk_at "s") => `(tactic| first
  | with_reducible refine M.x_isN0 ?_
  | with_reducible refine M.x_isNr ?_
  | with_reducible refine M.x_isNi ?_
  | with_reducible refine M.x_isNs ?_
  | with_reducible refine M.x_notN0 ?_
  | with_reducible refine M.x_notNr ?_
  | with_reducible refine M.x_notNi ?_
  | with_reducible refine M.x_notNs ?_)
local macro_rules | `(tactic| walk_at "split") => `(tactic| (walk_at "go"; first | done | ((refine M.x_ifD (fun _ => ?_) (fun _ => ?_)) <;> walk_at "split") | ((refine M.x_if (fun _ => ?_) (fun _ => ?_)) <;> walk_at "split") | skip))
local macro_rules | `(tactic| walk_at "sqt") => `(tactic| first
  | fail
)

local macro_rules | `(tactic| walk_at "cls") => `(tactic| first
  | exact Tx.c_Partition (by assumption)
  | exact Tx.c_Config (by assumption))
local macro_rules | `(tactic| walk_at "noat") => `(tactic| first
  | exact Tx.n_Partition_image (by assumption)
  | exact Tx.n_Partition_pages (by assumption)
  | exact Tx.n_Partition_start (by assumption)
  | exact Tx.n_Config_partitions (by assumption)
  | exact Tx.n_Config_frames (by assumption)
  | exact Tx.n_Config_channels (by assumption)
  | exact Tx.n_Config_shares (by assumption)
  | exact Tx.n_Config_devices (by assumption)
  | exact Tx.n_Config_flows (by assumption))
local macro_rules | `(tactic| walk_at "ne") => `(tactic| first
  | assumption
  | exact Ne.symm (by assumption)
  | exact M.ne_il (by assumption) (by assumption)
  | exact M.ne_li (by assumption) (by assumption))
local macro_rules | `(tactic| walk_at "hp0") => `(tactic| assumption)
local macro_rules | `(tactic| walk_at "s") => `(tactic| first
  | with_reducible refine M.x_gsub ?_
  | with_reducible refine M.x_gnil ?_
  | with_reducible refine M.x_gcons ?_
  | ((with_reducible refine' M.x_gtup ?xh ?xl ?_); (case xh => walk_at "sqt"); (case xl => exact rfl))
  | with_reducible refine M.x_fld ?_
  | ((with_reducible refine' M.x_isFld ?xh ?xc ?xn ?xl ?_); (case xh => walk_at "hp"); (case xc => walk_at "cls"); (case xn => walk_at "noat"); (case xl => exact rfl))
  | with_reducible refine M.x_sfld ?_
  | with_reducible refine M.x_meth ?_
  | with_reducible refine M.x_methS ?_
  | ((with_reducible refine' M.x_isMeth ?xh ?xl ?_); (case xh => walk_at "hp"); (case xl => exact rfl))
  | with_reducible refine M.x_make ?_
  | with_reducible refine M.x_dget ?_
  | ((with_reducible refine' M.x_isDG ?xh ?xl ?_); (case xh => walk_at "hp"); (case xl => exact rfl))
  | with_reducible refine M.x_dput ?_
  | with_reducible refine M.x_mkE2 ?_
  | with_reducible refine M.x_tryO ?_
  | with_reducible refine M.x_fldaug ?_
  | with_reducible refine M.x_turn ?_)
local macro_rules | `(tactic| walk_at "hp") => `(tactic| first
  | assumption
  | exact upd_same
  | ((refine' M.Ext.at1 ?xe ?xn ?xq); (case xe => assumption); (case xn => walk_at "ne"); (case xq => walk_at "hp"))
  | ((refine' M.same_hp ?xe ?xq); (case xe => assumption); (case xq => walk_at "hp")))
local macro_rules | `(tactic| walk_at "seq") => `(tactic| first
  | assumption
  | ((refine' SqL.of ?xq); (case xq => walk_at "hp")))
local macro_rules | `(tactic| walk_at "at") => `(tactic| first
  | assumption
  | with_reducible exact M.atI_ints (by first | decide | omega) (by omega)
  | with_reducible exact M.atI_ints (by first | decide | omega) (by simp; omega)
  | exact rfl)
local macro_rules | `(tactic| walk_at "s") => `(tactic| ((with_reducible refine' M.x_setI ?xh ?x0 ?x1 ?_); (case xh => walk_at "hp"); (case x0 => omega); (case x1 => first | omega | (simp only [List.length_set]; omega))))

local macro_rules | `(tactic| walk_at "s") => `(tactic| first
  | ((with_reducible refine' M.x_lenLI ?xh ?_); (case xh => walk_at "seq"))
  | ((with_reducible refine' M.x_lenTI ?xh ?_); (case xh => walk_at "sqt")))
local macro_rules | `(tactic| walk_at "gn") => `(tactic| first
  | with_reducible refine M.x_gn0 ?_
  | with_reducible refine M.x_gn1 ?_
  | with_reducible refine M.x_gn2 ?_
  | with_reducible refine M.x_gn3 ?_
  | with_reducible refine M.x_gn4 ?_
  | with_reducible refine M.x_gn5 ?_
  | with_reducible refine M.x_gn6 ?_
  | with_reducible refine M.x_gn7 ?_
  | with_reducible refine M.x_gn8 ?_
  | with_reducible refine M.x_gn9 ?_
  | with_reducible refine M.x_gn10 ?_
  | with_reducible refine M.x_gn11 ?_
  | with_reducible refine M.x_gn12 ?_
  | with_reducible refine M.x_gn13 ?_
  | with_reducible refine M.x_gn14 ?_
  | with_reducible refine M.x_gn15 ?_
  | with_reducible refine M.x_gn16 ?_
  | with_reducible refine M.x_gn17 ?_
  | with_reducible refine M.x_gn18 ?_
  | with_reducible refine M.x_gn19 ?_
  | with_reducible refine M.x_gn20 ?_
  | with_reducible refine M.x_gn21 ?_
  | with_reducible refine M.x_gn22 ?_
  | with_reducible refine M.x_gn23 ?_
  | with_reducible refine M.x_gn24 ?_
  | with_reducible refine M.x_gn25 ?_)
local macro_rules | `(tactic| walk_at "s") => `(tactic| walk_at "gn")

local macro_rules | `(tactic| walk_at "s") => `(tactic| first
  | with_reducible refine M.x_lcI ?_
  | with_reducible refine M.x_isOI ?_
  | with_reducible refine M.x_part ?_
  | with_reducible refine M.x_noPart ?_
  | with_reducible refine M.x_sl ?_
  | ((with_reducible refine' M.x_slL ?xh ?_); (case xh => walk_at "seq"))
  | with_reducible refine M.x_pnil ?_
  | with_reducible refine M.x_pcons ?_
  | with_reducible refine M.x_disp ?_)

local macro_rules | `(tactic| walk_at "s") => `(tactic| first
  | ((with_reducible refine' M.x_setI ?xh ?x0 ?x1 ?_); (case xh => walk_at "hp"); (case x0 => first | decide | omega); (case x1 => first | decide | (simp only [List.length_set, List.length_cons, List.length_nil]; omega)))
  | with_reducible refine M.x_tYes ?_
  | with_reducible refine M.x_forRI ?_
  | with_reducible refine M.x_forLI ?_
  | with_reducible refine M.x_forTI ?_
  | with_reducible refine M.x_lcRI ?_
  | with_reducible refine M.x_lcLI ?_
  | with_reducible refine M.x_lcTI ?_)

section conf7
def tBMF (r : V → List V → Hp → VK → Prop) (to : TE) (t : TA) : TE := fun σ H Q => to σ H fun x H1 => TupN H1 x ∧ t σ H1 fun xs H2 => r x xs H2 Q
theorem pe_bmF {X : Cx} {o e : Expr} {es : List Expr} {to : TE} {t : TA} {name : Str} {apos cpos : Pos} {id : String} {r : V → List V → Hp → VK → Prop} (pa : PlainAttrs "tuple") (slot : Slot "tuple" name id) (hty : typeOf (.builtin id) = pure (.type "method_descriptor")) (hm : MtR X id r) (ho : PE X o to) (ha : PA X (e :: es) t)
    (hbase : attributeBase o name X.env (eval o X.env) = eval o X.env := by rfl)
    (hfew : ((backTo cpos (starEach (e :: es) X.env)).all (fun x => !x.1) && (backToKw cpos (keywordEach [] X.env)).all (fun x => x.1.isSome)
      && decide ((e :: es).length + ([] : List Keyword).length + (if ([] : List Keyword).isEmpty then 0 else 1) < 30)) = true := by rfl)
    (hline : (apos.endLine == cpos.line) = true := by rfl) (hs : starEach (e :: es) X.env = (false, eval e X.env) :: starEach es X.env := by rfl) (hplain : (backTo cpos (starEach es X.env)).any (·.1) = false := by rfl) :
    PE X (.Call (.Attribute o name apos) (e :: es) [] cpos) (tBMF r to t) := by
  refine ⟨fun pins s σ H Q I h => ?_⟩
  refine wpAny_Call_method_late hbase hfew hline rfl (thn (ho.run pins s σ H _ I h) fun v s1 ⟨x, H1, I1, r1, ty, q1⟩ => ?_)
  obtain ⟨p, ob, ys, rfl, hp, hc, hd⟩ := ty
  cases r1
  have hg := (show ObjOk X.prog X.w H1 s1.heap p (.frz ob (.tup ys)) from I1.hok p _ hp).1
  refine ⟨"tuple", id, pa, slot, hty, ⟨ob, hg, hc⟩, fun a e => by cases e; exact ⟨ob, hg, hd⟩, ?_⟩
  have hA := ha.run cpos pins s1 σ H1 _ I1 q1
  rw [hs] at hA ⊢
  refine Calls.callWith_builtin (by show (false || (backTo cpos (starEach es X.env)).any (·.1)) = false; rw [hplain] <;> rfl) (Calls.evalArgs_plain ?_)
  exact thn hA fun us s2 ⟨vs, H2, I2, r2, q2⟩ => hm pins s2 σ H2 (.ref p) vs _ us Q I2 rfl r2 q2
theorem x_bmF {r : V → List V → Hp → VK → Prop} {to : TE} {t : TA} {σ : L2.St} {H : Hp} {Q : VK} (k : to σ H fun x H1 => TupN H1 x ∧ t σ H1 fun xs H2 => r x xs H2 Q) : tBMF r to t σ H Q := k
theorem x_tidxI {K : PySem.W.Frag} {H : Hp} {Q : VK} {p : Addr} {l : List Int} {z : Int} (h : SqT K H p (l.map V.int)) (hz : z ∈ l) (k : Q (.int (l.idxOf z : Nat)) H) : M.rTIdxI K (.ref p) [.int z] H Q := ⟨p, l, z, rfl, rfl, h, hz, k⟩
variable {P : Program} {w : World} {K : PySem.W.Frag} {mg : Str → Option Value} {base : Heap}
local macro_rules | `(tactic| walk_at "s") => `(tactic| with_reducible refine x_bmF ?_)
def sp__law_pages (K : PySem.W.Frag) : Sp := fun vs H Q _ => ∃ (c : Addr) (A : CA) (v : CfgV) (p : Int) (x : PartV), vs = [.ref c, .int p] ∧ CfgAt K c A v H ∧ ShF K A v H ∧ 0 ≤ p ∧ v.parts[p.toNat]? = some x ∧ (0 ≤ x.pages ∧ x.pages ≤ 100) ∧ v.shares.length ≤ 100 ∧ v.devs.length ≤ 100 ∧ ∀ q H', H q = none → Same H H' → LD K H' q ((pageMap v p).map pgD) → Q (.ref q) H'
theorem shPgs_le {p : Int} {l : List (Int × Int)} : ∀ n : Nat, (shPgs p l n).length ≤ n := by
  intro n
  induction n with
  | zero => simp [shPgs]
  | succ n ih =>
    cases hz : l[n]? with
    | none =>
      have : shPgs p l (n + 1) = shPgs p l n := by unfold shPgs; rw [List.range_succ, List.flatMap_append]; simp [hz]
      rw [this]
      omega
    | some z =>
      rw [shPgs_succ hz, List.length_append]
      have : (shOne p n z).length ≤ 1 := by
        unfold shOne
        split
        · simp
        · split <;> simp
      omega
theorem dvPgs_le {p : Int} {l : List Int} : ∀ n : Nat, (dvPgs p l n).length ≤ n := by
  intro n
  induction n with
  | zero => simp [dvPgs]
  | succ n ih =>
    unfold dvPgs at ih ⊢
    rw [List.range_succ, List.flatMap_append, List.length_append]
    have : (([n] : List Nat).flatMap fun k : Nat => if l[k]? = some p then [(("device", (k : Int), 1) : Pg)] else []).length ≤ 1 := by
      simp only [List.flatMap_cons, List.flatMap_nil, List.append_nil]
      split <;> simp
    omega
theorem idx2 {a b p : Int} (h : p ∈ ([a, b] : List Int)) : ((([a, b] : List Int).idxOf p : Nat) : Int) = if a = p then 0 else 1 := by
  by_cases c : a = p
  · subst c
    simp [List.idxOf_cons]
  · have hb : b = p := by
      simp at h
      rcases h with e | e
      · exact absurd e.symm c
      · exact e.symm
    subst hb
    rw [if_neg c]
    have e : (a == b) = false := beq_eq_false_iff_ne.mpr c
    simp [List.idxOf_cons, e]
theorem ownPgs_le (n : Nat) : (ownPgs n).length = n := by unfold ownPgs; simp
abbrev M.N__law_pages : List Str := ["config", "p", "found", "k"]
theorem sc__law_pages : FnScope M.N__law_pages ["config", "p"] (defScope s__law_pages) := ⟨rfl, rfl, rfl, by decide +kernel, rfl, by decide +kernel, by decide +kernel⟩
theorem ok__law_pages (T : Tx K mg) : C8.Cal P w K mg base 1 "_law_pages" (sp__law_pages K) [] := by
  refine M.cal_mk T.f__law_pages T.g__law_pages sc__law_pages (fun _ _ _ _ _ _ us hl => match us, hl with | [_, _], _ => rfl) (by rintro vs H Q E ⟨c, A, v, p, x, rfl, _⟩; rfl) fun cdv Ar outer s0 H vs Q E hr h => ?_
  obtain ⟨c, A, v, p, x, rfl, h, hF, hp, hx, hpg, hsl, hdl, k⟩ := h
  refine ⟨_, (pss_cons (ps_set (i := 2) sc__law_pages.nd rfl (Or.inl rfl) (pe_lst pa_nil)) (pss_cons (ps_for PassesOwn.never rfl (pi_range1 (by rfl) T.b_range (pa_cons (pe_fld (pe_ix ix_tup (pe_fld (pv 0) rfl) (pv 1) (fun _ _ => rfl)) rfl) pa_nil)) (pg_name (i := 3) sc__law_pages.nd rfl (Or.inl rfl)) (pss_one (ps_expr (pe_bm PySem.F.plainAttrs_list PySem.F.slot_list_append PySem.F.type_list_append mt_append (pv 2) (pa_cons (pe_tup (pa_cons pe_str (pa_cons (pv 3) (pa_cons pe_int pa_nil)))) pa_nil))))) (pss_cons (ps_for PassesOwn.never rfl (pi_range1 (by rfl) T.b_range (pa_cons (pe_callB M.call_len (by rfl) T.b_len (by decide +kernel) (pa_cons (pe_fld (pv 0) rfl) pa_nil)) pa_nil)) (pg_name (i := 3) sc__law_pages.nd rfl (Or.inl rfl)) (pss_one (ps_if (pt_cmpR op_in_seq (pv 1) (pe_ix ix_tup (pe_fld (pv 0) rfl) (pv 3) (fun _ _ => rfl)) (by rfl)) (pss_one (ps_expr (pe_bm PySem.F.plainAttrs_list PySem.F.slot_list_append PySem.F.type_list_append mt_append (pv 2) (pa_cons (pe_tup (pa_cons pe_str (pa_cons (pv 3) (pa_cons (pe_ix ix_list (pe_lst (pa_cons pe_int (pa_cons pe_int pa_nil))) (pe_bmF PySem.F.plainAttrs_tuple PySem.F.slot_tuple_index PySem.F.type_tuple_index M.mt_tindexI (pe_ix ix_tup (pe_fld (pv 0) rfl) (pv 3) (fun _ _ => rfl)) (pa_cons (pv 1) pa_nil)) (fun _ _ => rfl)) pa_nil)))) pa_nil)))) pss_nil))) (pss_cons (ps_for PassesOwn.never rfl (pi_range1 (by rfl) T.b_range (pa_cons (pe_callB M.call_len (by rfl) T.b_len (by decide +kernel) (pa_cons (pe_fld (pv 0) rfl) pa_nil)) pa_nil)) (pg_name (i := 3) sc__law_pages.nd rfl (Or.inl rfl)) (pss_one (ps_if (pt_cmpR op_eq (pe_ix ix_tup (pe_fld (pv 0) rfl) (pv 3) (fun _ _ => rfl)) (pv 1) (nomark _)) (pss_one (ps_expr (pe_bm PySem.F.plainAttrs_list PySem.F.slot_list_append PySem.F.type_list_append mt_append (pv 2) (pa_cons (pe_tup (pa_cons pe_str (pa_cons (pv 3) (pa_cons pe_int pa_nil)))) pa_nil)))) pss_nil))) (pss_one (ps_ret (pv 2))))))), ?_⟩
  refine M.x_st (σ0 := [some _, some _, none, none]) rfl ?_
  walk_at "go"
  intro q H1 hq e1 h1
  have c1 := h.same e1
  have hc1 := c1.h
  have q1 := c1.q1
  have hlt : p.toNat < v.parts.length := (List.getElem?_eq_some_iff.mp hx).1
  obtain ⟨y, hy⟩ : ∃ y, A.ps[p.toNat]? = some y := ⟨_, List.getElem?_eq_getElem (by rw [h.pp.1]; exact hlt)⟩
  obtain ⟨dx, t, hyx, _⟩ := c1.pp.2 _ _ _ hy hx
  walk_at "go"
  refine M.x_ixT q1 (M.atI_get (f := V.ref) hp hy) ?_
  walk_at "go"
  refine M.x_isForR (n := x.pages) ⟨by omega, by omega⟩ (fun i σ' Hx => ∃ (v3 : Option V), σ' = [some (.ref c), some (.int p), some (.ref q), v3] ∧ Same H Hx ∧ LD K Hx q ((ownPgs i).map pgD)) ⟨_, rfl, e1, LD.nil h1⟩ ?_ ?_
  · rintro i σ' Hx hi ⟨v3, rfl, ex, Lx⟩
    have q1 := Lx.choose_spec.1
    have hlq : (Lx.choose).length ≤ 1000 := by
      have := M.DpAll.len Lx.choose_spec.2
      rw [this, List.length_map, ownPgs_le]
      omega
    walk_at "go"
    intro u H2 hu e2 h2
    walk_at "go"
    refine M.x_append (e2 _ _ q1) (by omega) (fun H3 e3 h3 => ?_)
    walk_at "go"
    refine ⟨_, rfl, same_but hq (ex.trans e2) e3, ?_⟩
    obtain ⟨ys, y1, y2⟩ := Lx.same e2 (pgDs_t _)
    rw [e2 _ _ q1] at y1
    cases y1
    rw [ownPgs_succ, List.map_append]
    exact LD.app (e2 _ _ q1) y2 e3 h3 (pgDs_t _) rfl (.tup (SqT.of h2) (.cons (.str _) (.cons (.int _) (.cons (.int _) .nil))))
  rintro σ' Hx ⟨v3, rfl, ex, Lx⟩
  obtain ⟨xs4, s4, d4, f4⟩ := hF.kp (M.Kp.same ex)
  have cx := h.same ex
  have hcx := cx.h
  have hxl := M.DpAll.len d4
  rw [List.length_map] at hxl
  walk_at "go"
  refine M.x_isForR (n := xs4.length) ⟨by omega, by omega⟩ (fun i σ' Hx => ∃ (v3 : Option V), σ' = [some (.ref c), some (.int p), some (.ref q), v3] ∧ Same H Hx ∧ LD K Hx q ((ownPgs x.pages.toNat ++ shPgs p v.shares i).map pgD)) ⟨_, rfl, ex, by simpa [shPgs] using Lx⟩ ?_ ?_
  · rintro i σ' Hx hi ⟨v3, rfl, ex, Lx⟩
    have cx := h.same ex
    have hcx := cx.h
    obtain ⟨xs5, s5, d5, f5⟩ := hF.kp (M.Kp.same ex)
    have hxl5 := M.DpAll.len d5
    rw [List.length_map] at hxl5
    have hlt : i < xs5.length := by omega
    obtain ⟨z, hz, hdz⟩ := DpAll.at d5 (List.getElem?_eq_getElem hlt)
    obtain ⟨t, et, ht⟩ := prE hdz
    have nt : TupN Hx (.ref t) := by rw [← et]; exact f5 _ (List.getElem_mem hlt)
    have hat : atI xs5 (i : Int) = some (.ref t) := M.atI_of (v := V.ref t) (by omega) (by rw [← et]; exact List.getElem?_eq_getElem hlt)
    have ht' : SqT K Hx t (([z.1, z.2] : List Int).map V.int) := ht
    have q1 := Lx.choose_spec.1
    have hlq : (Lx.choose).length ≤ 1000 := by
      have := M.DpAll.len Lx.choose_spec.2
      have h2 := shPgs_le (p := p) (l := v.shares) i
      rw [this, List.length_map, List.length_append, ownPgs_le]
      omega
    walk_at "go"
    rw [M.inV_ints]
    refine M.x_ifD (fun c2 => ?_) (fun c2 => ?_)
    · walk_at "go"
      intro u H2 hu e2 h2
      have cy := cx.same e2
      have hcy := cy.h
      have s6 := M.Same.st e2 s5
      have nt2 := nt.kp (M.Kp.same e2)
      have ht2 := M.Same.st e2 ht'
      walk_at "go"
      refine ⟨nt2, ?_⟩
      walk_at "go"
      refine x_tidxI ht2 c2 ?_
      have hix := idx2 c2
      rw [hix]
      have fin : ∀ r : Int, shOne p i z = ([("share", (i : Int), r)] : List Pg) → ∀ a H3, H2 a = none → Same H2 H3 → H3 a = some (.tup [V.str "share", V.int i, V.int r]) → rAppend (V.ref q) [V.ref a] H3 fun x_1 H1 => ∃ v3, [some (V.ref c), some (V.int p), some (V.ref q), some (V.int i)] = [some (V.ref c), some (V.int p), some (V.ref q), v3] ∧ Same H H1 ∧ LD K H1 q ((ownPgs x.pages.toNat ++ shPgs p v.shares (i + 1)).map pgD) := by
        intro r ho a H3 ha e3 h3
        have e23 := e2.trans e3
        refine M.x_append (e23 _ _ q1) (by omega) (fun H4 e4 h4 => ?_)
        refine ⟨_, rfl, same_but hq (ex.trans e23) e4, ?_⟩
        obtain ⟨ys, y1, y2⟩ := Lx.same e23 (pgDs_t _)
        rw [e23 _ _ q1] at y1
        cases y1
        rw [shPgs_succ hz, ho, ← List.append_assoc, List.map_append]
        exact LD.app (e23 _ _ q1) y2 e4 h4 (pgDs_t _) rfl (.tup (SqT.of h3) (.cons (.str _) (.cons (.int _) (.cons (.int _) .nil))))
      by_cases c : z.1 = p
      · rw [if_pos c]
        refine M.x_ixL (xs := ([3, 1] : List Int).map V.int) (j := 0) (v := .int 3) (SqL.of h2) rfl ?_
        walk_at "go"
        intro a H3 ha e3 h3
        walk_at "go"
        exact fin 3 (by unfold shOne; rw [if_pos c]) a H3 ha e3 h3
      · rw [if_neg c]
        refine M.x_ixL (xs := ([3, 1] : List Int).map V.int) (j := 1) (v := .int 1) (SqL.of h2) rfl ?_
        walk_at "go"
        intro a H3 ha e3 h3
        walk_at "go"
        refine fin 1 ?_ a H3 ha e3 h3
        have : z.2 = p := by
          simp at c2
          rcases c2 with e | e
          · exact absurd e.symm c
          · exact e.symm
        unfold shOne
        rw [if_neg c, if_pos this]
    · walk_at "go"
      refine ⟨_, rfl, ex, ?_⟩
      have : shOne p i z = [] := by
        unfold shOne
        simp at c2
        rw [if_neg (fun e => c2.1 e.symm), if_neg (fun e => c2.2 e.symm)]
      rw [shPgs_succ hz, this, List.append_nil]
      exact Lx
  rintro σ' Hx ⟨v3, rfl, ex, Lx⟩
  have cx := h.same ex
  have hcx := cx.h
  have q5 := cx.q5
  rw [Int.toNat_natCast, hxl] at Lx
  walk_at "go"
  refine M.x_isForR (n := v.devs.length) ⟨by omega, by omega⟩ (fun i σ' Hx => ∃ (v3 : Option V), σ' = [some (.ref c), some (.int p), some (.ref q), v3] ∧ Same H Hx ∧ LD K Hx q ((ownPgs x.pages.toNat ++ shPgs p v.shares v.shares.length ++ dvPgs p v.devs i).map pgD)) ⟨_, rfl, ex, by simpa [dvPgs] using Lx⟩ ?_ ?_
  · rintro i σ' Hx hi ⟨v3, rfl, ex, Lx⟩
    have cx := h.same ex
    have hcx := cx.h
    have q5 := cx.q5
    have hlt : i < v.devs.length := by omega
    have hz : v.devs[i]? = some v.devs[i] := List.getElem?_eq_getElem hlt
    generalize v.devs[i] = z at hz
    have q1 := Lx.choose_spec.1
    have hlq : (Lx.choose).length ≤ 50000 := by
      have := M.DpAll.len Lx.choose_spec.2
      have h2 := shPgs_le (p := p) (l := v.shares) v.shares.length
      have h3 := dvPgs_le (p := p) (l := v.devs) i
      rw [this, List.length_map, List.length_append, List.length_append, ownPgs_le]
      omega
    walk_at "go"
    rw [show v.devs.getD ((i : Int)).toNat 0 = z by rw [Int.toNat_natCast, List.getD_eq_getElem?_getD, hz]; rfl]
    refine M.x_ifD (fun c2 => ?_) (fun c2 => ?_)
    · walk_at "go"
      intro u H2 hu e2 h2
      walk_at "go"
      refine M.x_append (e2 _ _ q1) hlq (fun H3 e3 h3 => ?_)
      walk_at "go"
      refine ⟨_, rfl, same_but hq (ex.trans e2) e3, ?_⟩
      obtain ⟨ys, y1, y2⟩ := Lx.same e2 (pgDs_t _)
      rw [e2 _ _ q1] at y1
      cases y1
      rw [dvPgs_succ hz, if_pos c2, ← List.append_assoc, List.map_append]
      exact LD.app (e2 _ _ q1) y2 e3 h3 (pgDs_t _) rfl (.tup (SqT.of h2) (.cons (.str _) (.cons (.int _) (.cons (.int _) .nil))))
    · walk_at "go"
      exact ⟨_, rfl, ex, by rw [dvPgs_succ hz, if_neg c2, List.append_nil]; exact Lx⟩
  rintro σ' Hx ⟨v3, rfl, ex, Lx⟩
  walk_at "go"
  refine k q Hx hq ex ?_
  unfold pageMap
  rw [hx]
  exact Lx
/-! ## _law_reach -/
def sp__law_reach (K : PySem.W.Frag) : Sp := fun vs H Q _ => ∃ (c : Addr) (A : CA) (v : CfgV) (t : Int), vs = [.ref c, .int t] ∧ CfgAt K c A v H ∧ CfgR v ∧ (0 ≤ t ∧ t < v.parts.length) ∧ ∀ q H', H q = none → Same H H' → H' q = some (.lst ((upList v.parts.length (Rch v.flows t)).map V.int)) → Q (.ref q) H'
def mk0 (n : Nat) (t : Int) : List Bool := (List.range n).map fun i : Nat => decide ((i : Int) = t)
theorem mk0_succ (n : Nat) (t : Int) : mk0 (n + 1) t = mk0 n t ++ [decide ((n : Int) = t)] := by unfold mk0; rw [List.range_succ, List.map_append]; rfl
theorem mk0_get {n : Nat} {t : Int} {i : Nat} (h : i < n) : (mk0 n t).getD i false = decide ((i : Int) = t) := by
  unfold mk0
  rw [List.getD_eq_getElem?_getD, List.getElem?_map, List.getElem?_range h]
  rfl
theorem mk0_I {fl : List (Int × Int)} {n : Nat} {t : Int} (ht : 0 ≤ t ∧ t < n) : MkI fl n t (mk0 n t) := by
  refine ⟨by unfold mk0; simp, fun i hi => ?_, ?_⟩
  · by_cases h : i < n
    · rw [mk0_get h] at hi
      rw [of_decide_eq_true hi]
      exact .here
    · rw [List.getD_eq_getElem?_getD, List.getElem?_eq_none (by unfold mk0; simp; omega)] at hi
      cases hi
  · rw [mk0_get (by omega), Int.toNat_of_nonneg ht.1]
    exact decide_eq_true rfl
theorem atI_bl {f : List Bool} {i : Int} (h0 : 0 ≤ i) (h1 : i.toNat < f.length) : atI (f.map V.bl) i = some (.bl (f.getD i.toNat false)) := by
  refine M.atI_get (f := V.bl) h0 ?_
  rw [List.getD_eq_getElem?_getD, List.getElem?_eq_getElem h1]
  rfl
theorem map_set_bl : ∀ (f : List Bool) (i : Nat), (f.map V.bl).set i (.bl true) = (f.set i true).map V.bl
  | [], _ => rfl
  | _ :: _, 0 => rfl
  | a :: f, i + 1 => by
    show V.bl a :: (f.map V.bl).set i _ = _
    rw [map_set_bl f i]
    rfl
def upTo (f : List Bool) (n : Nat) : List Int := ((List.range n).filter fun i => f.getD i false).map fun i : Nat => (i : Int)
theorem upTo_succ (f : List Bool) (n : Nat) : upTo f (n + 1) = upTo f n ++ (if f.getD n false = true then [(n : Int)] else []) := by
  unfold upTo
  rw [List.range_succ, List.filter_append, List.map_append]
  congr 1
  rw [List.filter_cons, List.filter_nil]
  cases f.getD n false <;> rfl
theorem upTo_lt (f : List Bool) (n : Nat) : (upTo f n).Pairwise (· < ·) := by
  unfold upTo
  rw [List.pairwise_map]
  exact (List.pairwise_lt_range.filter _).imp (fun h => by omega)
abbrev M.N__law_reach : List Str := ["config", "target", "found", "k", "source", "other", "p"]
theorem sc__law_reach : FnScope M.N__law_reach ["config", "target"] (defScope s__law_reach) := ⟨rfl, rfl, rfl, by decide +kernel, rfl, by decide +kernel, by decide +kernel⟩
theorem ok__law_reach (T : Tx K mg) : C8.Cal P w K mg base 1 "_law_reach" (sp__law_reach K) [] := by
  refine M.cal_mk T.f__law_reach T.g__law_reach sc__law_reach (fun _ _ _ _ _ _ us hl => match us, hl with | [_, _], _ => rfl) (by rintro vs H Q E ⟨c, A, v, t, rfl, _⟩; rfl) fun cdv Ar outer s0 H vs Q E hr h => ?_
  obtain ⟨c, A, v, t, rfl, h, hv, ht, k⟩ := h
  refine ⟨_, (pss_cons (ps_set (i := 2) sc__law_reach.nd rfl (Or.inr rfl) (pe_lc (own := [("p", 6)]) rfl sc__law_reach.nd (pi_range1 (by rfl) T.b_range (pa_cons (pe_callB M.call_len (by rfl) T.b_len (by decide +kernel) (pa_cons (pe_fld (pv 0) rfl) pa_nil)) pa_nil)) (blkOk_by (own := [("p", 6)]) (N := M.N__law_reach) (sc := defScope s__law_reach) (by decide +kernel)) (fun _ _ _ _ _ => (pg_name (i := 6) sc__law_reach.nd rfl (Or.inl rfl))) (fun _ _ _ _ _ => pts_nil) (fun _ _ _ _ _ => (pe_cmpR op_eq (pv 6) (pv 1) (nomark _))))) (pss_cons (ps_for PassesOwn.never rfl (pi_range1 (by rfl) T.b_range (pa_cons (pe_callB M.call_len (by rfl) T.b_len (by decide +kernel) (pa_cons (pe_fld (pv 0) rfl) pa_nil)) pa_nil)) (pg_name (i := 3) sc__law_reach.nd rfl (Or.inl rfl)) (pss_one (ps_for PassesOwn.never rfl (pi_tup (pe_fld (pv 0) rfl)) (pg_tup rfl (pgs_cons (pg_name (i := 4) sc__law_reach.nd rfl (Or.inl rfl)) (pgs_cons (pg_name (i := 5) sc__law_reach.nd rfl (Or.inl rfl)) pgs_nil))) (pss_one (ps_if (pt_val (pe_ix ix_list (pv 2) (pv 5) (fun _ _ => rfl))) (pss_one (ps_asg pe_bl (pg_sub (pv 2) (pv 4) set_list))) pss_nil))))) (pss_one (ps_ret (pe_lc (own := [("p", 6)]) rfl sc__law_reach.nd (pi_range1 (by rfl) T.b_range (pa_cons (pe_callB M.call_len (by rfl) T.b_len (by decide +kernel) (pa_cons (pv 2) pa_nil)) pa_nil)) (blkOk_by (own := [("p", 6)]) (N := M.N__law_reach) (sc := defScope s__law_reach) (by decide +kernel)) (fun _ _ _ _ _ => (pg_name (i := 6) sc__law_reach.nd rfl (Or.inl rfl))) (fun _ _ _ _ _ => (pts_one (pt_val (pe_ix (ix_list : IxR _ (rIxL K)) (pv 2) (pv 6) (fun _ _ => rfl))))) (fun _ _ _ _ _ => (pv 6))))))), ?_⟩
  refine M.x_st (σ0 := [some _, some _, none, none, none, none, none]) rfl ?_
  have hpl := h.pp.1
  have hvn := hv.n
  have hc := h.h
  have q1 := h.q1
  walk_at "go"
  refine M.x_isLcR (fun D i acc H' => H D = none ∧ Same H H' ∧ acc = (mk0 i t).map V.bl) ⟨by omega, by simp; omega⟩ (fun D H' hD e h => ⟨hD, e, rfl⟩) ?_ ?_
  · rintro D i acc H' hD hi hl hq ⟨_, e, rfl⟩
    rw [List.length_map, hpl] at hi
    unfold M.LcTurn
    walk_at "go"
    refine ⟨rfl, ?_⟩
    walk_at "go"
    refine M.x_lcPut hq hl (by omega) (fun H5 e5 h5 => ⟨hD, same_but hD e e5, ?_⟩)
    rw [mk0_succ, List.map_append]
    rfl
  rintro f acc H1 hf hl h1 ⟨_, e1, rfl⟩
  rw [List.length_map, hpl, Int.toNat_natCast] at h1
  have c1 := h.same e1
  have hc1 := c1.h
  have q1 := c1.q1
  walk_at "go"
  refine M.x_isForR (by simp; omega) (fun i σ' Hx => ∃ (v3 v4 v5 : Option V), σ' = [some (.ref c), some (.int t), some (.ref f), v3, v4, v5, none] ∧ Same H Hx ∧ MkI v.flows v.parts.length t (iterN (mkR v.flows) i (mk0 v.parts.length t)) ∧ Hx f = some (.lst ((iterN (mkR v.flows) i (mk0 v.parts.length t)).map V.bl))) ⟨_, _, _, rfl, e1, mk0_I ht, h1⟩ ?_ ?_
  · rintro i σ' Hx hi ⟨v3, v4, v5, rfl, ex, Ix, hx⟩
    have cx := h.same ex
    have hcx := cx.h
    obtain ⟨a6, xs6, ea6, s6, d6⟩ := M.Dp.tupE cx.q6
    cases ea6
    have hxl := M.DpAll.len d6
    rw [List.length_map] at hxl
    generalize hgs : iterN (mkR v.flows) i (mk0 v.parts.length t) = s at Ix hx
    have es : iterN (mkR v.flows) (i + 1) (mk0 v.parts.length t) = mkR v.flows s := by rw [← hgs]; rfl
    walk_at "go"
    refine M.x_isForT s6 (fun j σ' Hy => ∃ (v4 v5 : Option V), σ' = [some (.ref c), some (.int t), some (.ref f), some (.int i), v4, v5, none] ∧ Same H Hy ∧ M.Kp Hx Hy ∧ MkI v.flows v.parts.length t (mkQ v.flows s j) ∧ Hy f = some (.lst ((mkQ v.flows s j).map V.bl))) ⟨_, _, rfl, ex, M.Kp.refl _, Ix, hx⟩ ?_ ?_ ?_
    · rintro j σ' Hy hj ⟨v4, v5, rfl, ey, ky, Iy, hy⟩
      exact M.SqT.kp ky s6
    · rintro j x σ' Hy hx ⟨v4, v5, rfl, ey, ky, Iy, hy⟩
      obtain ⟨z, hz, hd⟩ := DpAll.at d6 hx
      obtain ⟨u, rfl, hu⟩ := prE hd
      have hu := M.SqT.kp ky hu
      have hr := hv.fl z (List.mem_of_getElem? hz)
      have hlen := Iy.len
      have hat := atI_bl (f := mkQ v.flows s j) hr.2.2.1 (by omega)
      have zm : z ∈ v.flows := List.mem_of_getElem? hz
      walk_at "go"
      rw [mkQ_succ hz]
      refine M.x_if (fun c1 => ?_) (fun c1 => ?_)
      · walk_at "go"
        refine M.x_setL hy hr.1 (by rw [List.length_map]; omega) (fun H2 e2 h2 => ?_)
        rw [map_set_bl] at h2
        have em : mkStep (mkQ v.flows s j) z = (mkQ v.flows s j).set z.1.toNat true := by unfold mkStep; rw [if_pos c1]
        exact ⟨_, _, rfl, same_but hf ey e2, ky.trans (M.Kp.lst e2 hy), Iy.step hv.fl zm, by rw [em]; exact h2⟩
      · walk_at "go"
        have em : mkStep (mkQ v.flows s j) z = mkQ v.flows s j := by unfold mkStep; rw [if_neg (by rw [c1]; exact Bool.false_ne_true)]
        exact ⟨_, _, rfl, ey, ky, by rw [em]; exact Iy, by rw [em]; exact hy⟩
    · rintro σ' Hy ⟨v4, v5, rfl, ey, ky, Iy, hy⟩
      have ef : mkQ v.flows s xs6.length = mkR v.flows s := by unfold mkQ mkR; rw [hxl, List.take_length]
      rw [ef] at Iy hy
      walk_at "go"
      exact ⟨_, _, _, rfl, ey, by rw [es]; exact Iy, by rw [es]; exact hy⟩
  rintro σ' Hx ⟨v3, v4, v5, rfl, ex, Ix, hx⟩
  rw [List.length_map, hpl, Int.toNat_natCast] at hx
  obtain ⟨hml, hm⟩ := mk_all hv.fl ht (mk0_I ht)
  generalize iterN (mkR v.flows) v.parts.length (mk0 v.parts.length t) = s at hx hml hm
  walk_at "go"
  refine M.x_isLcR (n := ((s.map V.bl).length : Int)) (fun D i acc H' => Hx D = none ∧ Same Hx H' ∧ acc = (upTo s i).map V.int) ⟨by omega, by simp; omega⟩ (fun D H' hD e h => ⟨hD, e, rfl⟩) ?_ ?_
  · rintro D i acc H' hD hi hl hq ⟨_, e, rfl⟩
    rw [List.length_map] at hi
    have hx' := e _ _ hx
    have hat := atI_bl (f := s) (i := (i : Int)) (by omega) (by omega)
    rw [Int.toNat_natCast] at hat
    unfold M.LcTurn
    walk_at "go"
    refine ⟨rfl, ?_⟩
    walk_at "go"
    refine M.x_if (fun c1 => ?_) (fun c1 => ?_)
    · walk_at "go"
      refine M.x_lcPut hq hl (by omega) (fun H5 e5 h5 => ⟨hD, same_but hD e e5, ?_⟩)
      rw [upTo_succ, if_pos c1, List.map_append]
      rfl
    · refine M.x_lcNo hq hl ⟨hD, e, ?_⟩
      rw [upTo_succ, if_neg (by rw [c1]; exact Bool.false_ne_true), List.append_nil]
  rintro D acc H2 hD hl h2 ⟨_, e2, rfl⟩
  rw [List.length_map, Int.toNat_natCast] at h2
  walk_at "go"
  have e : upTo s s.length = upList v.parts.length (Rch v.flows t) := by
    refine up_eq ((upTo_lt s _).imp (fun h => by omega)) ((upTo_lt s _).imp (fun h e => by omega)) (upList_lt _ _) fun q => ?_
    rw [mem_upList]
    unfold upTo
    rw [List.mem_map]
    constructor
    · rintro ⟨i, hi, rfl⟩
      rw [List.mem_filter, List.mem_range] at hi
      exact ⟨⟨by omega, by omega⟩, (hm i (by omega)).mp hi.2⟩
    · rintro ⟨⟨q0, q1⟩, hq⟩
      refine ⟨q.toNat, ?_, by omega⟩
      rw [List.mem_filter, List.mem_range]
      exact ⟨by omega, (hm _ (by omega)).mpr (by rw [Int.toNat_of_nonneg q0]; exact hq)⟩
  rw [e] at h2
  exact k D H2 (ex.free hD) (ex.trans e2) h2
end conf7

end K30
namespace K30
open PySem PySem.Spec PyProof.Rows L2
local macro_rules | `(tactic| walk_at "s") => `(tactic| first
  | ((with_reducible refine' M.x_var ?xv ?_); (case xv => exact rfl))
  | with_reducible refine M.x_c ?_
  | with_reducible refine M.x_op ?_
  | with_reducible refine M.x_seq ?_
  | with_reducible refine M.x_asg ?_
  | with_reducible refine M.x_gname ?_
  | with_reducible refine M.x_rI0 ?_
  | ((with_reducible refine' M.x_rI ?xc ?_); (case xc => walk_at "side"))
  | with_reducible refine M.x_call ?_
  | with_reducible refine M.x_callB ?_
  | with_reducible refine M.x_cons ?_
  | with_reducible refine M.x_nil ?_
  | with_reducible refine M.x_int ?_
  | with_reducible refine M.x_intB ?_
  | with_reducible refine M.x_ifS ?_
  | with_reducible refine M.x_test ?_
  | with_reducible refine M.x_tB ?_
  | with_reducible refine M.x_isB ?_
  | with_reducible refine M.x_ret ?_
  | with_reducible refine M.x_retN ?_
  | with_reducible refine M.x_next ?_
  | with_reducible refine M.x_brk ?_
  | with_reducible refine M.x_cont ?_
  | with_reducible refine M.x_drop ?_
  | with_reducible refine M.x_eqI ?_
  | with_reducible refine M.x_neI ?_
  | with_reducible refine M.x_eqS ?_
  | with_reducible refine M.x_neS ?_
  | with_reducible refine M.x_eqB ?_
  | with_reducible refine M.x_neB ?_
  | with_reducible refine M.x_ifT ?_
  | with_reducible refine M.x_ifF ?_
  | with_reducible refine M.x_and ?_
  | with_reducible refine M.x_or ?_
  | with_reducible refine M.x_not ?_
  | with_reducible refine M.x_ifNB ?_
  | with_reducible refine M.x_andV ?_
  | with_reducible refine M.x_orV ?_
  | with_reducible refine M.x_notV ?_
  | with_reducible refine M.x_ifE ?_
  | with_reducible refine M.x_chain ?_
  | with_reducible refine M.x_isN ?_
  | with_reducible refine M.x_notN ?_
  | with_reducible refine M.x_un ?_
  | with_reducible refine M.x_rU ?_
  | with_reducible refine M.x_max2 ?_
  | with_reducible refine M.x_min2 ?_
  | with_reducible refine M.x_isiII ?_
  | with_reducible refine M.x_isiIB ?_
  | with_reducible refine M.x_isiBB ?_
  | with_reducible refine M.x_isiSS ?_
  | ((with_reducible refine' M.x_ifTD ?xp ?_); (case xp => first | exact rfl | decide | omega))
  | ((with_reducible refine' M.x_ifFD ?xp ?_); (case xp => first | exact rfl | decide | omega))
  | with_reducible refine M.x_lst' ?_
  | with_reducible refine M.x_tup' ?_)
local macro_rules | `(tactic| walk_at "side") => `(tactic| first
  | decide
  | (show (0 : Int) < _; decide)
  | (show (0 : Int) < _; omega)
  | (show (0 : Int) ≤ _; omega)
  | (exact ⟨by decide, by decide⟩)
  | (exact ⟨by omega, by omega⟩)
  | (exact Or.inr ⟨by decide, by decide⟩)
  | (exact Or.inl ⟨by decide, by decide⟩)
  | (exact Or.inr ⟨by omega, by omega⟩)
  | (exact Or.inl ⟨by omega, by omega⟩)
  | (exact ⟨by decide, by decide, by decide⟩)
  | (exact ⟨by omega, by omega, by omega⟩))
local macro_rules | `(tactic| walk_at "go") => `(tactic| (repeat walk_at "s"))
local macro_rules | `(tactic| walk_at "hp") => `(tactic| first
  | assumption
  | exact upd_same
  | ((refine' M.same_hp ?xe ?xq); (case xe => assumption); (case xq => walk_at "hp")))
local macro_rules | `(tactic| walk_at "seq") => `(tactic| first
  | assumption
  | exact SqL.of (by assumption)
  | ((refine' Same.seq ?xe ?xq); (case xe => assumption); (case xq => walk_at "seq")))
local macro_rules | `(tactic| walk_at "sqt") => `(tactic| first
  | assumption
  | exact SqT.of (by assumption)
  | ((refine' M.Same.st ?xe ?xq); (case xe => assumption); (case xq => walk_at "sqt")))
local macro_rules | `(tactic| walk_at "at") => `(tactic| first
  | with_reducible exact M.atI_ints (by first | decide | omega) (by omega)
  | with_reducible exact M.atI_ints (by first | decide | omega) (by simp; omega)
  | exact rfl)
local macro_rules | `(tactic| walk_at "s") => `(tactic| first
  | with_reducible refine M.x_truV ?_
  | ((with_reducible refine' M.x_truL ?xh ?_); (case xh => walk_at "seq"))
  | with_reducible refine M.x_truI ?_
  | with_reducible refine M.x_isBl ?_
  | with_reducible refine M.x_notBl ?_
  | ((with_reducible refine' M.x_ixL ?xh ?xa ?_); (case xh => walk_at "seq"); (case xa => walk_at "at"))
  | ((with_reducible refine' M.x_ixT ?xh ?xa ?_); (case xh => walk_at "sqt"); (case xa => walk_at "at"))
  | ((with_reducible refine' M.x_lenL ?xh ?_); (case xh => walk_at "seq"))
  | ((with_reducible refine' M.x_lenT ?xh ?_); (case xh => walk_at "sqt"))
  | ((with_reducible refine' M.x_listL ?xh ?_); (case xh => walk_at "seq"))
  | ((with_reducible refine' M.x_newL ?xz ?_); (case xz => exact M.sl4 (by first | decide | (simp; done) | (simp; omega))))
  | ((with_reducible refine' M.x_newT ?xz ?_); (case xz => exact M.sl4 (by first | decide | (simp; done) | (simp; omega))))
  | ((with_reducible refine' M.x_cat ?xh ?xi ?xz ?_); (case xh => walk_at "hp"); (case xi => walk_at "hp"); (case xz => exact M.sl4 (by first | decide | (simp; done) | (simp; omega)))))

local macro_rules | `(tactic| walk_at "s") => `(tactic| first
  | ((with_reducible refine' M.x_inL ?xh ?xf ?xg ?_); (case xh => walk_at "seq"); (case xf => exact rfl); (case xg => first | exact rfl | exact M.flat_strsV _))
  | ((with_reducible refine' M.x_inT ?xh ?xf ?xg ?_); (case xh => walk_at "sqt"); (case xf => exact rfl); (case xg => first | exact rfl | exact M.flat_strsV _))
  | ((with_reducible refine' M.x_notInL ?xh ?xf ?xg ?_); (case xh => walk_at "seq"); (case xf => exact rfl); (case xg => first | exact rfl | exact M.flat_strsV _))
  | ((with_reducible refine' M.x_notInT ?xh ?xf ?xg ?_); (case xh => walk_at "sqt"); (case xf => exact rfl); (case xg => first | exact rfl | exact M.flat_strsV _))
  | with_reducible refine M.x_bm ?_
  | ((with_reducible refine' M.x_tyL ?xh ?_); (case xh => walk_at "seq"))
  | ((with_reducible refine' M.x_tyK ?xh ?_); (case xh => walk_at "tyk"))
  | with_reducible refine M.x_m1 ?_
  | with_reducible refine M.x_txt ?_
  | ((with_reducible refine' M.x_split ?xh ?xi ?_); (case xh => decide +kernel); (case xi => decide +kernel))
  | ((with_reducible refine' M.x_addZ ?xh ?_); (case xh => decide +kernel))
  | ((with_reducible refine' M.x_tupL ?xh ?_); (case xh => walk_at "seq"))
  | ((with_reducible refine' M.x_isiTT ?xh ?_); (case xh => walk_at "hp"))
  | with_reducible refine M.x_rz ?_
  | with_reducible refine M.x_mkE ?_
  | with_reducible refine M.x_tryAs ?_
  | with_reducible refine M.x_callS ?_
  | with_reducible refine M.x_xf ?_)
local macro_rules | `(tactic| walk_at "s") => `(tactic| first
  | with_reducible refine M.x_isN0 ?_
  | with_reducible refine M.x_isNr ?_
  | with_reducible refine M.x_isNi ?_
  | with_reducible refine M.x_isNs ?_
  | with_reducible refine M.x_notN0 ?_
  | with_reducible refine M.x_notNr ?_
  | with_reducible refine M.x_notNi ?_
  | with_reducible refine M.x_notNs ?_)
local macro_rules | `(tactic| walk_at "split") => `(tactic| (walk_at "go"; first | done | ((refine M.x_ifD (fun _ => ?_) (fun _ => ?_)) <;> walk_at "split") | ((refine M.x_if (fun _ => ?_) (fun _ => ?_)) <;> walk_at "split") | skip))
local macro_rules | `(tactic| walk_at "sqt") => `(tactic| first
  | fail
)

local macro_rules | `(tactic| walk_at "cls") => `(tactic| first
  | exact Tx.c_Partition (by assumption)
  | exact Tx.c_Config (by assumption))
local macro_rules | `(tactic| walk_at "noat") => `(tactic| first
  | exact Tx.n_Partition_image (by assumption)
  | exact Tx.n_Partition_pages (by assumption)
  | exact Tx.n_Partition_start (by assumption)
  | exact Tx.n_Config_partitions (by assumption)
  | exact Tx.n_Config_frames (by assumption)
  | exact Tx.n_Config_channels (by assumption)
  | exact Tx.n_Config_shares (by assumption)
  | exact Tx.n_Config_devices (by assumption)
  | exact Tx.n_Config_flows (by assumption))
local macro_rules | `(tactic| walk_at "ne") => `(tactic| first
  | assumption
  | exact Ne.symm (by assumption)
  | exact M.ne_il (by assumption) (by assumption)
  | exact M.ne_li (by assumption) (by assumption))
local macro_rules | `(tactic| walk_at "hp0") => `(tactic| assumption)
local macro_rules | `(tactic| walk_at "s") => `(tactic| first
  | with_reducible refine M.x_gsub ?_
  | with_reducible refine M.x_gnil ?_
  | with_reducible refine M.x_gcons ?_
  | ((with_reducible refine' M.x_gtup ?xh ?xl ?_); (case xh => walk_at "sqt"); (case xl => exact rfl))
  | with_reducible refine M.x_fld ?_
  | ((with_reducible refine' M.x_isFld ?xh ?xc ?xn ?xl ?_); (case xh => walk_at "hp"); (case xc => walk_at "cls"); (case xn => walk_at "noat"); (case xl => exact rfl))
  | with_reducible refine M.x_sfld ?_
  | with_reducible refine M.x_meth ?_
  | with_reducible refine M.x_methS ?_
  | ((with_reducible refine' M.x_isMeth ?xh ?xl ?_); (case xh => walk_at "hp"); (case xl => exact rfl))
  | with_reducible refine M.x_make ?_
  | with_reducible refine M.x_dget ?_
  | ((with_reducible refine' M.x_isDG ?xh ?xl ?_); (case xh => walk_at "hp"); (case xl => exact rfl))
  | with_reducible refine M.x_dput ?_
  | with_reducible refine M.x_mkE2 ?_
  | with_reducible refine M.x_tryO ?_
  | with_reducible refine M.x_fldaug ?_
  | with_reducible refine M.x_turn ?_)
local macro_rules | `(tactic| walk_at "hp") => `(tactic| first
  | assumption
  | exact upd_same
  | ((refine' M.Ext.at1 ?xe ?xn ?xq); (case xe => assumption); (case xn => walk_at "ne"); (case xq => walk_at "hp"))
  | ((refine' M.same_hp ?xe ?xq); (case xe => assumption); (case xq => walk_at "hp")))
local macro_rules | `(tactic| walk_at "seq") => `(tactic| first
  | assumption
  | ((refine' SqL.of ?xq); (case xq => walk_at "hp")))
local macro_rules | `(tactic| walk_at "at") => `(tactic| first
  | assumption
  | with_reducible exact M.atI_ints (by first | decide | omega) (by omega)
  | with_reducible exact M.atI_ints (by first | decide | omega) (by simp; omega)
  | exact rfl)
local macro_rules | `(tactic| walk_at "s") => `(tactic| ((with_reducible refine' M.x_setI ?xh ?x0 ?x1 ?_); (case xh => walk_at "hp"); (case x0 => omega); (case x1 => first | omega | (simp only [List.length_set]; omega))))

local macro_rules | `(tactic| walk_at "s") => `(tactic| first
  | ((with_reducible refine' M.x_lenLI ?xh ?_); (case xh => walk_at "seq"))
  | ((with_reducible refine' M.x_lenTI ?xh ?_); (case xh => walk_at "sqt")))
local macro_rules | `(tactic| walk_at "gn") => `(tactic| first
  | with_reducible refine M.x_gn0 ?_
  | with_reducible refine M.x_gn1 ?_
  | with_reducible refine M.x_gn2 ?_
  | with_reducible refine M.x_gn3 ?_
  | with_reducible refine M.x_gn4 ?_
  | with_reducible refine M.x_gn5 ?_
  | with_reducible refine M.x_gn6 ?_
  | with_reducible refine M.x_gn7 ?_
  | with_reducible refine M.x_gn8 ?_
  | with_reducible refine M.x_gn9 ?_
  | with_reducible refine M.x_gn10 ?_
  | with_reducible refine M.x_gn11 ?_
  | with_reducible refine M.x_gn12 ?_
  | with_reducible refine M.x_gn13 ?_
  | with_reducible refine M.x_gn14 ?_
  | with_reducible refine M.x_gn15 ?_
  | with_reducible refine M.x_gn16 ?_
  | with_reducible refine M.x_gn17 ?_
  | with_reducible refine M.x_gn18 ?_
  | with_reducible refine M.x_gn19 ?_
  | with_reducible refine M.x_gn20 ?_
  | with_reducible refine M.x_gn21 ?_
  | with_reducible refine M.x_gn22 ?_
  | with_reducible refine M.x_gn23 ?_
  | with_reducible refine M.x_gn24 ?_
  | with_reducible refine M.x_gn25 ?_)
local macro_rules | `(tactic| walk_at "s") => `(tactic| walk_at "gn")

local macro_rules | `(tactic| walk_at "s") => `(tactic| first
  | with_reducible refine M.x_lcI ?_
  | with_reducible refine M.x_isOI ?_
  | with_reducible refine M.x_part ?_
  | with_reducible refine M.x_noPart ?_
  | with_reducible refine M.x_sl ?_
  | ((with_reducible refine' M.x_slL ?xh ?_); (case xh => walk_at "seq"))
  | with_reducible refine M.x_pnil ?_
  | with_reducible refine M.x_pcons ?_
  | with_reducible refine M.x_disp ?_)

local macro_rules | `(tactic| walk_at "s") => `(tactic| first
  | ((with_reducible refine' M.x_setI ?xh ?x0 ?x1 ?_); (case xh => walk_at "hp"); (case x0 => first | decide | omega); (case x1 => first | decide | (simp only [List.length_set, List.length_cons, List.length_nil]; omega)))
  | with_reducible refine M.x_tYes ?_
  | with_reducible refine M.x_forRI ?_
  | with_reducible refine M.x_forLI ?_
  | with_reducible refine M.x_forTI ?_
  | with_reducible refine M.x_lcRI ?_
  | with_reducible refine M.x_lcLI ?_
  | with_reducible refine M.x_lcTI ?_)

section conf8
variable {P : Program} {w : World} {K : PySem.W.Frag} {mg : Str → Option Value} {base : Heap}
def ptD (v : PartV) : PyData := .tuple [.tuple (v.img.map PyData.int), .int v.pages, .int v.start]
theorem ptD_sh (v : PartV) : M.ShN 9 (ptD v) := M.ShN.tup (n := 8) fun d hd => by
  simp only [List.mem_cons, List.not_mem_nil, or_false] at hd
  rcases hd with rfl | rfl | rfl
  · exact M.ShN.tints _
  · exact M.ShN.int _
  · exact M.ShN.int _
def sp_Partition_fields (K : PySem.W.Frag) : Sp := fun vs H Q _ => ∃ (x : Addr) (v : PartV), vs = [.ref x] ∧ PartAt K x v H ∧ ∀ q H', H q = none → Same H H' → Dp K H' (.ref q) (ptD v) → Q (.ref q) H'
theorem go_Partition_fields {x : Addr} {v : PartV} {H : Hp} {Q : VK} {E : XK} (h : PartAt K x v H) (k : ∀ q H', H q = none → Same H H' → Dp K H' (.ref q) (ptD v) → Q (.ref q) H') : sp_Partition_fields K [.ref x] H Q E := ⟨x, v, rfl, h, k⟩
abbrev M.N_Partition_fields : List Str := ["self"]
theorem sc_Partition_fields : FnScope M.N_Partition_fields ["self"] (defScope s_Partition_fields) := ⟨rfl, rfl, rfl, by decide +kernel, rfl, by decide +kernel, by decide +kernel⟩
theorem ok_Partition_fields (T : Tx K mg) : C8.Met P w K mg base 1 (He.ga K "Partition") "fields" (sp_Partition_fields K) [] := by
  refine M.met_mk T.f_Partition_fields T.c_Partition T.m_Partition_fields sc_Partition_fields (fun _ _ _ _ _ _ us hl => match us, hl with | [_], _ => rfl) (by rintro vs H Q E ⟨x, v, rfl, _⟩; rfl) fun cdv A outer s0 H vs Q E hr h => ?_
  obtain ⟨x, v, rfl, ⟨dx, t, hx, ht⟩, k⟩ := h
  refine ⟨_, (pss_one (ps_ret (pe_tup (pa_cons (pe_fld (pv 0) rfl) (pa_cons (pe_fld (pv 0) rfl) (pa_cons (pe_fld (pv 0) rfl) pa_nil)))))), ?_⟩
  refine M.x_st (σ0 := [some _]) rfl ?_
  walk_at "go"
  intro q H1 hq e1 h1
  exact k q H1 hq e1 (.tup (SqT.of h1) (.cons (M.Dp.ti (M.Same.st e1 ht)) (.cons (.int _) (.cons (.int _) .nil))))
theorem insC_P (T : Tx K mg) : C8.InsC K (He.ga K "Partition") := ⟨T.c_Partition, T.ha_Partition, T.hn_, T.ht_, T.hm_Partition, T.ik_Partition⟩
theorem insC_C (T : Tx K mg) : C8.InsC K (He.ga K "Config") := ⟨T.c_Config, T.ha_Config, T.hn_, T.ht_, T.hm_Config, T.ik_Config⟩
theorem x_isiOK {H : Hp} {Q : VK} {b C : Addr} {dy : Addr} {gs : List (Str × V)} (c : C8.InsC K C) (h : H b = some (.ins C dy gs)) (q : Q (.bl true) H) : rIsi K [.ref b, .ref C] H Q := ⟨_, _, .ref C, .ref C, true, rfl, .own C, .base (TyOf.ins h c.cl c.ha c.hn c.htk c.hm), c.me, q⟩
def sp_Partition_eq (K : PySem.W.Frag) : Sp := fun vs H Q _ => ∃ (x : Addr) (v : PartV) (y : V), vs = [.ref x, y] ∧ PartAt K x v H ∧ ((∃ b u, y = .ref b ∧ PartAt K b u H ∧ ∀ H', Same H H' → Q (.bl (PyData.eqv (ptD v) (ptD u))) H') ∨ (∃ i, y = .int i ∧ ∀ H', Same H H' → Q (.bl false) H'))
abbrev M.N_Partition___eq__ : List Str := ["self", "other"]
theorem sc_Partition___eq__ : FnScope M.N_Partition___eq__ ["self", "other"] (defScope s_Partition___eq__) := ⟨rfl, rfl, rfl, by decide +kernel, rfl, by decide +kernel, by decide +kernel⟩
theorem ok_Partition___eq__ (T : Tx K mg) : C8.Met P w K mg base 2 (He.ga K "Partition") "__eq__" (sp_Partition_eq K) [] := by
  refine M.met_mk T.f_Partition___eq__ T.c_Partition T.m_Partition___eq__ sc_Partition___eq__ (fun _ _ _ _ _ _ us hl => match us, hl with | [_, _], _ => rfl) (by rintro vs H Q E ⟨x, v, y, rfl, _⟩; rfl) fun cdv A outer s0 H vs Q E hr h => ?_
  obtain ⟨x, v, y, rfl, hx, hy⟩ := h
  refine ⟨_, (pss_cons (ps_if (pt_not (pt_val (pe_callB M.call_isi (by rfl) T.b_isinstance (by decide +kernel) (pa_cons (pv 1) (pa_cons (C8.pe_gc (v := V.ref (He.ga K "Partition")) (by rfl) ⟨_, T.g_Partition, rfl⟩) pa_nil))))) (pss_one (ps_ret pe_bl)) pss_nil) (pss_one (ps_ret (pe_cmpR (op_eqD hr.units) (C8.pe_mt0 (ok_Partition_fields T) hr (by decide) (pv 0)) (C8.pe_mt0 (ok_Partition_fields T) hr (by decide) (pv 1)) (nomark _))))), ?_⟩
  refine M.x_st (σ0 := [some _, some _]) rfl ?_
  rcases hy with ⟨b, u, rfl, hb, k⟩ | ⟨i, rfl, k⟩
  · obtain ⟨dx, tx, hx1, _⟩ := id hx
    obtain ⟨dy, ty, hb1, _⟩ := id hb
    walk_at "go"
    refine x_isiOK (insC_P T) hb1 ?_
    walk_at "go"
    refine go_Partition_fields hx (fun q H1 hq e1 d1 => ?_)
    have hb2 := e1 _ _ hb1
    walk_at "go"
    refine go_Partition_fields (hb.kp (M.Kp.same e1)) (fun r H2 hr e2 d2 => ?_)
    refine M.x_eqD (M.Dp.kp (M.Kp.same e2) _ _ (by simp only [ptD, M.tupD, M.tupDs, Bool.true_and, Bool.and_true]; exact M.tupDs_map (fun _ => rfl)) d1) d2 (ptD_sh _).shaped (ptD_sh _).shaped ?_
    exact k H2 (e1.trans e2)
  · walk_at "go"
    refine M.x_isiOI T.ii_Partition ?_
    walk_at "go"
    exact k H (Same.refl _)
/-! ## Config: fields, == -/
def CA.rs (A : CA) : List V := [.ref A.t1, .ref A.t2, .ref A.t3, .ref A.t4, .ref A.t5, .ref A.t6]
def sp_Config_fields (K : PySem.W.Frag) : Sp := fun vs H Q _ => ∃ (c : Addr) (A : CA), vs = [.ref c] ∧ H c = some (.ins (He.ga K "Config") A.dx A.fs) ∧ ∀ q H', H q = none → Same H H' → H' q = some (.tup A.rs) → Q (.ref q) H'
theorem go_Config_fields {c : Addr} {A : CA} {H : Hp} {Q : VK} {E : XK} (h : H c = some (.ins (He.ga K "Config") A.dx A.fs)) (k : ∀ q H', H q = none → Same H H' → H' q = some (.tup A.rs) → Q (.ref q) H') : sp_Config_fields K [.ref c] H Q E := ⟨c, A, rfl, h, k⟩
abbrev M.N_Config_fields : List Str := ["self"]
theorem sc_Config_fields : FnScope M.N_Config_fields ["self"] (defScope s_Config_fields) := ⟨rfl, rfl, rfl, by decide +kernel, rfl, by decide +kernel, by decide +kernel⟩
theorem ok_Config_fields (T : Tx K mg) : C8.Met P w K mg base 1 (He.ga K "Config") "fields" (sp_Config_fields K) [] := by
  refine M.met_mk T.f_Config_fields T.c_Config T.m_Config_fields sc_Config_fields (fun _ _ _ _ _ _ us hl => match us, hl with | [_], _ => rfl) (by rintro vs H Q E ⟨x, v, rfl, _⟩; rfl) fun cdv Ar outer s0 H vs Q E hr h => ?_
  obtain ⟨c, A, rfl, hx, k⟩ := h
  refine ⟨_, (pss_one (ps_ret (pe_tup (pa_cons (pe_fld (pv 0) rfl) (pa_cons (pe_fld (pv 0) rfl) (pa_cons (pe_fld (pv 0) rfl) (pa_cons (pe_fld (pv 0) rfl) (pa_cons (pe_fld (pv 0) rfl) (pa_cons (pe_fld (pv 0) rfl) pa_nil))))))))), ?_⟩
  refine M.x_st (σ0 := [some _]) rfl ?_
  walk_at "go"
  intro q H1 hq e1 h1
  exact k q H1 hq e1 h1
theorem x_eqM {H : Hp} {Q : VK} {n : Nat} {a b : Addr} {xs ys : List V} {e : Nat → Bool} (hn : n ≤ 60) (h1 : SqT K H a xs) (h2 : SqT K H b ys) (hp : ∀ (i : Nat) (x y : V), xs[i]? = some x → ys[i]? = some y → M.EqB K H n x y (e i)) (k : Q (.bl ((List.range (min xs.length ys.length)).all e && xs.length == ys.length)) H) : M.rEqM K false (.ref a) (.ref b) H Q := ⟨n, a, b, xs, ys, e, hn, rfl, rfl, h1, h2, hp, k⟩
theorem x_neM {H : Hp} {Q : VK} {n : Nat} {a b : Addr} {xs ys : List V} {e : Nat → Bool} (hn : n ≤ 60) (h1 : SqT K H a xs) (h2 : SqT K H b ys) (hp : ∀ (i : Nat) (x y : V), xs[i]? = some x → ys[i]? = some y → M.EqB K H n x y (e i)) (k : Q (.bl (!((List.range (min xs.length ys.length)).all e && xs.length == ys.length))) H) : M.rEqM K true (.ref a) (.ref b) H Q := ⟨n, a, b, xs, ys, e, hn, rfl, rfl, h1, h2, hp, k⟩
/-- the six entries compared -/
def Cmp6 (K : PySem.W.Frag) (H : Hp) (A B : CA) (e : Nat → Bool) : Prop := ∀ H', Same H H' → ∀ (i : Nat) (x y : V), A.rs[i]? = some x → B.rs[i]? = some y → M.EqB K H' 10 x y (e i)
def sp_Config_eq (K : PySem.W.Frag) : Sp := fun vs H Q _ => ∃ (c : Addr) (A : CA) (y : V), vs = [.ref c, y] ∧ H c = some (.ins (He.ga K "Config") A.dx A.fs) ∧ ((∃ b B e, y = .ref b ∧ H b = some (.ins (He.ga K "Config") B.dx B.fs) ∧ Cmp6 K H A B e ∧ ∀ H', Same H H' → Q (.bl ((List.range 6).all e)) H') ∨ (∃ i, y = .int i ∧ ∀ H', Same H H' → Q (.bl false) H'))
abbrev M.N_Config___eq__ : List Str := ["self", "other"]
theorem sc_Config___eq__ : FnScope M.N_Config___eq__ ["self", "other"] (defScope s_Config___eq__) := ⟨rfl, rfl, rfl, by decide +kernel, rfl, by decide +kernel, by decide +kernel⟩
theorem ok_Config___eq__ (T : Tx K mg) : C8.Met P w K mg base 2 (He.ga K "Config") "__eq__" (sp_Config_eq K) [] := by
  refine M.met_mk T.f_Config___eq__ T.c_Config T.m_Config___eq__ sc_Config___eq__ (fun _ _ _ _ _ _ us hl => match us, hl with | [_, _], _ => rfl) (by rintro vs H Q E ⟨x, v, y, rfl, _⟩; rfl) fun cdv Ar outer s0 H vs Q E hr h => ?_
  obtain ⟨c, A, y, rfl, hx, hy⟩ := h
  refine ⟨_, (pss_cons (ps_if (pt_not (pt_val (pe_callB M.call_isi (by rfl) T.b_isinstance (by decide +kernel) (pa_cons (pv 1) (pa_cons (C8.pe_gc (v := V.ref (He.ga K "Config")) (by rfl) ⟨_, T.g_Config, rfl⟩) pa_nil))))) (pss_one (ps_ret pe_bl)) pss_nil) (pss_one (ps_ret (pe_cmpR (M.op_eqM (M.hu64 hr)) (C8.pe_mt0 (ok_Config_fields T) hr (by decide) (pv 0)) (C8.pe_mt0 (ok_Config_fields T) hr (by decide) (pv 1)) (nomark _))))), ?_⟩
  refine M.x_st (σ0 := [some _, some _]) rfl ?_
  rcases hy with ⟨b, B, e, rfl, hb, hc, k⟩ | ⟨i, rfl, k⟩
  · walk_at "go"
    refine x_isiOK (insC_C T) hb ?_
    walk_at "go"
    refine go_Config_fields hx (fun q H1 hq e1 d1 => ?_)
    have hb2 := e1 _ _ hb
    walk_at "go"
    refine go_Config_fields hb2 (fun r H2 hr e2 d2 => ?_)
    refine x_eqM (n := 10) (e := e) (by decide) (SqT.of (e2 _ _ d1)) (SqT.of d2) (hc H2 (e1.trans e2)) ?_
    have := k H2 (e1.trans e2)
    exact M.bEq this (by simp [CA.rs])
  · walk_at "go"
    refine M.x_isiOI T.ii_Config ?_
    walk_at "go"
    exact k H (Same.refl _)
end conf8

end K30
namespace K30
open PySem PySem.Spec PyProof.Rows L2
local macro_rules | `(tactic| walk_at "s") => `(tactic| first
  | ((with_reducible refine' M.x_var ?xv ?_); (case xv => exact rfl))
  | with_reducible refine M.x_c ?_
  | with_reducible refine M.x_op ?_
  | with_reducible refine M.x_seq ?_
  | with_reducible refine M.x_asg ?_
  | with_reducible refine M.x_gname ?_
  | with_reducible refine M.x_rI0 ?_
  | ((with_reducible refine' M.x_rI ?xc ?_); (case xc => walk_at "side"))
  | with_reducible refine M.x_call ?_
  | with_reducible refine M.x_callB ?_
  | with_reducible refine M.x_cons ?_
  | with_reducible refine M.x_nil ?_
  | with_reducible refine M.x_int ?_
  | with_reducible refine M.x_intB ?_
  | with_reducible refine M.x_ifS ?_
  | with_reducible refine M.x_test ?_
  | with_reducible refine M.x_tB ?_
  | with_reducible refine M.x_isB ?_
  | with_reducible refine M.x_ret ?_
  | with_reducible refine M.x_retN ?_
  | with_reducible refine M.x_next ?_
  | with_reducible refine M.x_brk ?_
  | with_reducible refine M.x_cont ?_
  | with_reducible refine M.x_drop ?_
  | with_reducible refine M.x_eqI ?_
  | with_reducible refine M.x_neI ?_
  | with_reducible refine M.x_eqS ?_
  | with_reducible refine M.x_neS ?_
  | with_reducible refine M.x_eqB ?_
  | with_reducible refine M.x_neB ?_
  | with_reducible refine M.x_ifT ?_
  | with_reducible refine M.x_ifF ?_
  | with_reducible refine M.x_and ?_
  | with_reducible refine M.x_or ?_
  | with_reducible refine M.x_not ?_
  | with_reducible refine M.x_ifNB ?_
  | with_reducible refine M.x_andV ?_
  | with_reducible refine M.x_orV ?_
  | with_reducible refine M.x_notV ?_
  | with_reducible refine M.x_ifE ?_
  | with_reducible refine M.x_chain ?_
  | with_reducible refine M.x_isN ?_
  | with_reducible refine M.x_notN ?_
  | with_reducible refine M.x_un ?_
  | with_reducible refine M.x_rU ?_
  | with_reducible refine M.x_max2 ?_
  | with_reducible refine M.x_min2 ?_
  | with_reducible refine M.x_isiII ?_
  | with_reducible refine M.x_isiIB ?_
  | with_reducible refine M.x_isiBB ?_
  | with_reducible refine M.x_isiSS ?_
  | ((with_reducible refine' M.x_ifTD ?xp ?_); (case xp => first | exact rfl | decide | omega))
  | ((with_reducible refine' M.x_ifFD ?xp ?_); (case xp => first | exact rfl | decide | omega))
  | with_reducible refine M.x_lst' ?_
  | with_reducible refine M.x_tup' ?_)
local macro_rules | `(tactic| walk_at "side") => `(tactic| first
  | decide
  | (show (0 : Int) < _; decide)
  | (show (0 : Int) < _; omega)
  | (show (0 : Int) ≤ _; omega)
  | (exact ⟨by decide, by decide⟩)
  | (exact ⟨by omega, by omega⟩)
  | (exact Or.inr ⟨by decide, by decide⟩)
  | (exact Or.inl ⟨by decide, by decide⟩)
  | (exact Or.inr ⟨by omega, by omega⟩)
  | (exact Or.inl ⟨by omega, by omega⟩)
  | (exact ⟨by decide, by decide, by decide⟩)
  | (exact ⟨by omega, by omega, by omega⟩))
local macro_rules | `(tactic| walk_at "go") => `(tactic| (repeat walk_at "s"))
local macro_rules | `(tactic| walk_at "hp") => `(tactic| first
  | assumption
  | exact upd_same
  | ((refine' M.same_hp ?xe ?xq); (case xe => assumption); (case xq => walk_at "hp")))
local macro_rules | `(tactic| walk_at "seq") => `(tactic| first
  | assumption
  | exact SqL.of (by assumption)
  | ((refine' Same.seq ?xe ?xq); (case xe => assumption); (case xq => walk_at "seq")))
local macro_rules | `(tactic| walk_at "sqt") => `(tactic| first
  | assumption
  | exact SqT.of (by assumption)
  | ((refine' M.Same.st ?xe ?xq); (case xe => assumption); (case xq => walk_at "sqt")))
local macro_rules | `(tactic| walk_at "at") => `(tactic| first
  | with_reducible exact M.atI_ints (by first | decide | omega) (by omega)
  | with_reducible exact M.atI_ints (by first | decide | omega) (by simp; omega)
  | exact rfl)
local macro_rules | `(tactic| walk_at "s") => `(tactic| first
  | with_reducible refine M.x_truV ?_
  | ((with_reducible refine' M.x_truL ?xh ?_); (case xh => walk_at "seq"))
  | with_reducible refine M.x_truI ?_
  | with_reducible refine M.x_isBl ?_
  | with_reducible refine M.x_notBl ?_
  | ((with_reducible refine' M.x_ixL ?xh ?xa ?_); (case xh => walk_at "seq"); (case xa => walk_at "at"))
  | ((with_reducible refine' M.x_ixT ?xh ?xa ?_); (case xh => walk_at "sqt"); (case xa => walk_at "at"))
  | ((with_reducible refine' M.x_lenL ?xh ?_); (case xh => walk_at "seq"))
  | ((with_reducible refine' M.x_lenT ?xh ?_); (case xh => walk_at "sqt"))
  | ((with_reducible refine' M.x_listL ?xh ?_); (case xh => walk_at "seq"))
  | ((with_reducible refine' M.x_newL ?xz ?_); (case xz => exact M.sl4 (by first | decide | (simp; done) | (simp; omega))))
  | ((with_reducible refine' M.x_newT ?xz ?_); (case xz => exact M.sl4 (by first | decide | (simp; done) | (simp; omega))))
  | ((with_reducible refine' M.x_cat ?xh ?xi ?xz ?_); (case xh => walk_at "hp"); (case xi => walk_at "hp"); (case xz => exact M.sl4 (by first | decide | (simp; done) | (simp; omega)))))

local macro_rules | `(tactic| walk_at "s") => `(tactic| first
  | ((with_reducible refine' M.x_inL ?xh ?xf ?xg ?_); (case xh => walk_at "seq"); (case xf => exact rfl); (case xg => first | exact rfl | exact M.flat_strsV _))
  | ((with_reducible refine' M.x_inT ?xh ?xf ?xg ?_); (case xh => walk_at "sqt"); (case xf => exact rfl); (case xg => first | exact rfl | exact M.flat_strsV _))
  | ((with_reducible refine' M.x_notInL ?xh ?xf ?xg ?_); (case xh => walk_at "seq"); (case xf => exact rfl); (case xg => first | exact rfl | exact M.flat_strsV _))
  | ((with_reducible refine' M.x_notInT ?xh ?xf ?xg ?_); (case xh => walk_at "sqt"); (case xf => exact rfl); (case xg => first | exact rfl | exact M.flat_strsV _))
  | with_reducible refine M.x_bm ?_
  | ((with_reducible refine' M.x_tyL ?xh ?_); (case xh => walk_at "seq"))
  | ((with_reducible refine' M.x_tyK ?xh ?_); (case xh => walk_at "tyk"))
  | with_reducible refine M.x_m1 ?_
  | with_reducible refine M.x_txt ?_
  | ((with_reducible refine' M.x_split ?xh ?xi ?_); (case xh => decide +kernel); (case xi => decide +kernel))
  | ((with_reducible refine' M.x_addZ ?xh ?_); (case xh => decide +kernel))
  | ((with_reducible refine' M.x_tupL ?xh ?_); (case xh => walk_at "seq"))
  | ((with_reducible refine' M.x_isiTT ?xh ?_); (case xh => walk_at "hp"))
  | with_reducible refine M.x_rz ?_
  | with_reducible refine M.x_mkE ?_
  | with_reducible refine M.x_tryAs ?_
  | with_reducible refine M.x_callS ?_
  | with_reducible refine M.x_xf ?_)
local macro_rules | `(tactic| walk_at "s") => `(tactic| first
  | with_reducible refine M.x_isN0 ?_
  | with_reducible refine M.x_isNr ?_
  | with_reducible refine M.x_isNi ?_
  | with_reducible refine M.x_isNs ?_
  | with_reducible refine M.x_notN0 ?_
  | with_reducible refine M.x_notNr ?_
  | with_reducible refine M.x_notNi ?_
  | with_reducible refine M.x_notNs ?_)
local macro_rules | `(tactic| walk_at "split") => `(tactic| (walk_at "go"; first | done | ((refine M.x_ifD (fun _ => ?_) (fun _ => ?_)) <;> walk_at "split") | ((refine M.x_if (fun _ => ?_) (fun _ => ?_)) <;> walk_at "split") | skip))
local macro_rules | `(tactic| walk_at "sqt") => `(tactic| first
  | fail
)

local macro_rules | `(tactic| walk_at "cls") => `(tactic| first
  | exact Tx.c_Partition (by assumption)
  | exact Tx.c_Config (by assumption))
local macro_rules | `(tactic| walk_at "noat") => `(tactic| first
  | exact Tx.n_Partition_image (by assumption)
  | exact Tx.n_Partition_pages (by assumption)
  | exact Tx.n_Partition_start (by assumption)
  | exact Tx.n_Config_partitions (by assumption)
  | exact Tx.n_Config_frames (by assumption)
  | exact Tx.n_Config_channels (by assumption)
  | exact Tx.n_Config_shares (by assumption)
  | exact Tx.n_Config_devices (by assumption)
  | exact Tx.n_Config_flows (by assumption))
local macro_rules | `(tactic| walk_at "ne") => `(tactic| first
  | assumption
  | exact Ne.symm (by assumption)
  | exact M.ne_il (by assumption) (by assumption)
  | exact M.ne_li (by assumption) (by assumption))
local macro_rules | `(tactic| walk_at "hp0") => `(tactic| assumption)
local macro_rules | `(tactic| walk_at "s") => `(tactic| first
  | with_reducible refine M.x_gsub ?_
  | with_reducible refine M.x_gnil ?_
  | with_reducible refine M.x_gcons ?_
  | ((with_reducible refine' M.x_gtup ?xh ?xl ?_); (case xh => walk_at "sqt"); (case xl => exact rfl))
  | with_reducible refine M.x_fld ?_
  | ((with_reducible refine' M.x_isFld ?xh ?xc ?xn ?xl ?_); (case xh => walk_at "hp"); (case xc => walk_at "cls"); (case xn => walk_at "noat"); (case xl => exact rfl))
  | with_reducible refine M.x_sfld ?_
  | with_reducible refine M.x_meth ?_
  | with_reducible refine M.x_methS ?_
  | ((with_reducible refine' M.x_isMeth ?xh ?xl ?_); (case xh => walk_at "hp"); (case xl => exact rfl))
  | with_reducible refine M.x_make ?_
  | with_reducible refine M.x_dget ?_
  | ((with_reducible refine' M.x_isDG ?xh ?xl ?_); (case xh => walk_at "hp"); (case xl => exact rfl))
  | with_reducible refine M.x_dput ?_
  | with_reducible refine M.x_mkE2 ?_
  | with_reducible refine M.x_tryO ?_
  | with_reducible refine M.x_fldaug ?_
  | with_reducible refine M.x_turn ?_)
local macro_rules | `(tactic| walk_at "hp") => `(tactic| first
  | assumption
  | exact upd_same
  | ((refine' M.Ext.at1 ?xe ?xn ?xq); (case xe => assumption); (case xn => walk_at "ne"); (case xq => walk_at "hp"))
  | ((refine' M.same_hp ?xe ?xq); (case xe => assumption); (case xq => walk_at "hp")))
local macro_rules | `(tactic| walk_at "seq") => `(tactic| first
  | assumption
  | ((refine' SqL.of ?xq); (case xq => walk_at "hp")))
local macro_rules | `(tactic| walk_at "at") => `(tactic| first
  | assumption
  | with_reducible exact M.atI_ints (by first | decide | omega) (by omega)
  | with_reducible exact M.atI_ints (by first | decide | omega) (by simp; omega)
  | exact rfl)
local macro_rules | `(tactic| walk_at "s") => `(tactic| ((with_reducible refine' M.x_setI ?xh ?x0 ?x1 ?_); (case xh => walk_at "hp"); (case x0 => omega); (case x1 => first | omega | (simp only [List.length_set]; omega))))

local macro_rules | `(tactic| walk_at "s") => `(tactic| first
  | ((with_reducible refine' M.x_lenLI ?xh ?_); (case xh => walk_at "seq"))
  | ((with_reducible refine' M.x_lenTI ?xh ?_); (case xh => walk_at "sqt")))
local macro_rules | `(tactic| walk_at "gn") => `(tactic| first
  | with_reducible refine M.x_gn0 ?_
  | with_reducible refine M.x_gn1 ?_
  | with_reducible refine M.x_gn2 ?_
  | with_reducible refine M.x_gn3 ?_
  | with_reducible refine M.x_gn4 ?_
  | with_reducible refine M.x_gn5 ?_
  | with_reducible refine M.x_gn6 ?_
  | with_reducible refine M.x_gn7 ?_
  | with_reducible refine M.x_gn8 ?_
  | with_reducible refine M.x_gn9 ?_
  | with_reducible refine M.x_gn10 ?_
  | with_reducible refine M.x_gn11 ?_
  | with_reducible refine M.x_gn12 ?_
  | with_reducible refine M.x_gn13 ?_
  | with_reducible refine M.x_gn14 ?_
  | with_reducible refine M.x_gn15 ?_
  | with_reducible refine M.x_gn16 ?_
  | with_reducible refine M.x_gn17 ?_
  | with_reducible refine M.x_gn18 ?_
  | with_reducible refine M.x_gn19 ?_
  | with_reducible refine M.x_gn20 ?_
  | with_reducible refine M.x_gn21 ?_
  | with_reducible refine M.x_gn22 ?_
  | with_reducible refine M.x_gn23 ?_
  | with_reducible refine M.x_gn24 ?_
  | with_reducible refine M.x_gn25 ?_)
local macro_rules | `(tactic| walk_at "s") => `(tactic| walk_at "gn")

local macro_rules | `(tactic| walk_at "s") => `(tactic| first
  | with_reducible refine M.x_lcI ?_
  | with_reducible refine M.x_isOI ?_
  | with_reducible refine M.x_part ?_
  | with_reducible refine M.x_noPart ?_
  | with_reducible refine M.x_sl ?_
  | ((with_reducible refine' M.x_slL ?xh ?_); (case xh => walk_at "seq"))
  | with_reducible refine M.x_pnil ?_
  | with_reducible refine M.x_pcons ?_
  | with_reducible refine M.x_disp ?_)

local macro_rules | `(tactic| walk_at "s") => `(tactic| first
  | ((with_reducible refine' M.x_setI ?xh ?x0 ?x1 ?_); (case xh => walk_at "hp"); (case x0 => first | decide | omega); (case x1 => first | decide | (simp only [List.length_set, List.length_cons, List.length_nil]; omega)))
  | with_reducible refine M.x_tYes ?_
  | with_reducible refine M.x_forRI ?_
  | with_reducible refine M.x_forLI ?_
  | with_reducible refine M.x_forTI ?_
  | with_reducible refine M.x_lcRI ?_
  | with_reducible refine M.x_lcLI ?_
  | with_reducible refine M.x_lcTI ?_)

section conf9
variable {P : Program} {w : World} {K : PySem.W.Frag} {mg : Str → Option Value} {base : Heap}
local macro_rules | `(tactic| walk_at "s") => `(tactic| ((with_reducible refine' go_may_flow ?xd ?_); (case xd => assumption)))
theorem rlen_take {l : List (Option Int × Int)} {i : Nat} {z : Option Int × Int} (h : l[i]? = some z) : rlen (l.take (i + 1)) = rlen (l.take i) + (256 + z.2) := by
  unfold rlen
  rw [take_succ' h, List.map_append, List.sum_append]
  simp
theorem fstart_nat (l : List (Option Int × Int)) (i : Nat) : fstart l i = ((i / l.length : Nat) : Int) * rlen l + rlen (l.take (i % l.length)) + 256 := by
  unfold fstart
  rw [← Int.natCast_ediv, ← Int.natCast_emod, Int.toNat_natCast]
theorem fstart_zero (l : List (Option Int × Int)) : fstart l 0 = 256 := by
  have := fstart_nat l 0
  rw [show ((0 : Nat) : Int) = 0 from rfl] at this
  rw [this, Nat.zero_div, Nat.zero_mod]
  simp [rlen]
theorem fstart_succ {l : List (Option Int × Int)} {i : Nat} {z : Option Int × Int} (hl : 1 ≤ l.length) (hz : l[i % l.length]? = some z) : fstart l ((i : Int) + 1) = fstart l i + 256 + z.2 := by
  rw [show ((i : Int) + 1) = ((i + 1 : Nat) : Int) by omega, fstart_nat, fstart_nat]
  have hm : i % l.length < l.length := Nat.mod_lt _ (by omega)
  have hd := Nat.div_add_mod i l.length
  generalize hq : i / l.length = q at hd
  generalize hr : i % l.length = r at hd hm hz
  by_cases c : r + 1 < l.length
  · have e1 : (i + 1) / l.length = q := by
      rw [← hd, Nat.add_assoc, Nat.mul_add_div (by omega), Nat.div_eq_of_lt c, Nat.add_zero]
    have e2 : (i + 1) % l.length = r + 1 := by
      rw [← hd, Nat.add_assoc, Nat.mul_add_mod, Nat.mod_eq_of_lt c]
    rw [e1, e2, rlen_take hz]
    omega
  · have c2 : r + 1 = l.length := by omega
    have e1 : (i + 1) / l.length = q + 1 := by
      rw [← hd, Nat.add_assoc, c2, Nat.mul_add_div (by omega), Nat.div_self (by omega)]
    have e2 : (i + 1) % l.length = 0 := by
      rw [← hd, Nat.add_assoc, c2, Nat.mul_add_mod, Nat.mod_self]
    have e3 : rlen l = rlen (l.take r) + (256 + z.2) := by
      rw [← rlen_take hz, c2, List.take_length]
    rw [e1, e2]
    have e4 : (((q + 1 : Nat) : Int)) * rlen l = (q : Int) * rlen l + rlen l := by
      rw [show ((q + 1 : Nat) : Int) = (q : Int) + 1 by omega, Int.add_mul, Int.one_mul]
    rw [e4]
    simp only [List.take_zero]
    rw [show rlen [] = 0 from rfl]
    omega
theorem fstart_len {l : List (Option Int × Int)} (hl : 1 ≤ l.length) : fstart l l.length - 256 = rlen l := by
  rw [fstart_nat, Nat.div_self (by omega), Nat.mod_self]
  simp [rlen]
theorem fstart_far {l : List (Option Int × Int)} (hl : 1 ≤ l.length) (n : Int) : fstart l (n + l.length) = fstart l n + rlen l := by
  unfold fstart
  have h1 : (n + (l.length : Int)) / (l.length : Int) = n / (l.length : Int) + 1 := by
    have := Int.add_mul_ediv_right n 1 (show (l.length : Int) ≠ 0 by omega)
    rwa [Int.one_mul] at this
  have h2 : (n + (l.length : Int)) % (l.length : Int) = n % (l.length : Int) := by
    have := Int.add_mul_emod_self_right n 1 (l.length : Int)
    rwa [Int.one_mul] at this
  rw [h1, h2, Int.add_mul, Int.one_mul]
  omega
/-- items that are compared at once -/
def SimpleV : V → Prop
  | .ref _ => True
  | .int _ => True
  | _ => False
theorem eqB_self {H : Hp} {n : Nat} {x : V} (h : SimpleV x) : M.EqB K H n x x true := by
  cases x with
  | ref a => exact .same a
  | int i =>
    have := M.EqB.dat (K := K) (H := H) (n := n) (.int i) (.int i) (M.ShN.int i) (M.ShN.int i)
    rwa [M.eqv_refl _ (M.ShN.int (n := n) i).1] at this
  | _ => exact h.elim
theorem eqB_same {H : Hp} {a b : Addr} {xs : List V} (h1 : SqT K H a xs) (h2 : SqT K H b xs) (hs : ∀ x ∈ xs, SimpleV x) : M.EqB K H 10 (.ref a) (.ref b) true := by
  by_cases e : a = b
  · subst e; exact .same a
  · have := M.EqB.tup (n := 9) (e := fun _ => true) h1 h2 e (fun i x y hx hy => by
      rw [hx] at hy
      cases hy
      exact eqB_self (hs x (List.mem_of_getElem? hx)))
    rwa [show ((List.range (min xs.length xs.length)).all (fun _ => true) && xs.length == xs.length) = true by simp] at this
theorem eqB_more {H : Hp} {a b : Addr} {xs : List V} {w : V} (h1 : SqT K H a (xs ++ [w])) (h2 : SqT K H b xs) (hs : ∀ x ∈ xs, SimpleV x) : M.EqB K H 10 (.ref a) (.ref b) false :=
  M.EqB.len (n := 9) (e := fun _ => true) h1 h2 (by simp) (fun i x y hx hy => by
    have hlt : i < xs.length := (List.getElem?_eq_some_iff.mp hy).1
    rw [List.getElem?_append_left hlt, hy] at hx
    have e := Option.some.inj hx
    rw [← e]
    exact eqB_self (hs y (List.mem_of_getElem? hy)))
/-- the six tuples and their items -/
def SixAt (K : PySem.W.Frag) (A : CA) (X : Nat → List V) (H : Hp) : Prop := ∀ (i : Nat) r, A.rs[i]? = some r → ∃ t, r = .ref t ∧ SqT K H t (X i) ∧ ∀ x ∈ X i, SimpleV x
theorem SixAt.same {A : CA} {X : Nat → List V} {H H' : Hp} (h : SixAt K A X H) (e : Same H H') : SixAt K A X H' := fun i r hr => by
  obtain ⟨t, h1, h2, h3⟩ := h i r hr
  exact ⟨t, h1, M.Same.st e h2, h3⟩
theorem simple_dp {α : Type} {f : α → PyData} {H : Hp} {xs : List V} {l : List α} (hf : ∀ a, ∃ ds, f a = .tuple ds) (h : DpAll K H xs (l.map f)) : ∀ x ∈ xs, SimpleV x := fun x hx => by
  obtain ⟨i, hi, e⟩ := List.getElem_of_mem hx
  obtain ⟨z, _, hd⟩ := DpAll.at h (show xs[i]? = some x by rw [List.getElem?_eq_getElem hi, e])
  obtain ⟨ds, hds⟩ := hf z
  rw [hds] at hd
  obtain ⟨a, _, rfl, _⟩ := M.Dp.tupE hd
  trivial
theorem sixOf {c : Addr} {A : CA} {v : CfgV} {H : Hp} (h : CfgAt K c A v H) (hl : v.parts.length ≤ 4 ∧ v.frames.length ≤ 4 ∧ v.chans.length ≤ 3 ∧ v.shares.length ≤ 2 ∧ v.devs.length ≤ 2 ∧ v.flows.length ≤ 16) : ∃ X : Nat → List V, SixAt K A X H ∧ ∀ i, (X i).length ≤ 16 := by
  obtain ⟨_, x2, e2, s2, d2⟩ := M.Dp.tupE h.q2
  cases e2
  obtain ⟨_, x3, e3, s3, d3⟩ := M.Dp.tupE h.q3
  cases e3
  obtain ⟨_, x4, e4, s4, d4⟩ := M.Dp.tupE h.q4
  cases e4
  obtain ⟨_, x6, e6, s6, d6⟩ := M.Dp.tupE h.q6
  cases e6
  have l2 := M.DpAll.len d2
  have l3 := M.DpAll.len d3
  have l4 := M.DpAll.len d4
  have l6 := M.DpAll.len d6
  rw [List.length_map] at l2 l3 l4 l6
  have l1 := h.pp.1
  refine ⟨fun i => match i with | 0 => A.ps.map V.ref | 1 => x2 | 2 => x3 | 3 => x4 | 4 => v.devs.map V.int | _ => x6, fun i r hr => ?_, fun i => ?_⟩
  · match i, hr with
    | 0, hr => cases hr; exact ⟨_, rfl, h.q1, fun x hx => by obtain ⟨z, _, rfl⟩ := List.mem_map.mp hx; trivial⟩
    | 1, hr => cases hr; exact ⟨_, rfl, s2, simple_dp (fun a => ⟨_, rfl⟩) d2⟩
    | 2, hr => cases hr; exact ⟨_, rfl, s3, simple_dp (fun a => ⟨_, rfl⟩) d3⟩
    | 3, hr => cases hr; exact ⟨_, rfl, s4, simple_dp (fun a => ⟨_, rfl⟩) d4⟩
    | 4, hr => cases hr; exact ⟨_, rfl, h.q5, fun x hx => by obtain ⟨z, _, rfl⟩ := List.mem_map.mp hx; trivial⟩
    | 5, hr => cases hr; exact ⟨_, rfl, s6, simple_dp (fun a => ⟨_, rfl⟩) d6⟩
    | n + 6, hr => cases hr
  · match i with
    | 0 => show (A.ps.map V.ref).length ≤ 16; rw [List.length_map]; omega
    | 1 => show x2.length ≤ 16; omega
    | 2 => show x3.length ≤ 16; omega
    | 3 => show x4.length ≤ 16; omega
    | 4 => show (v.devs.map V.int).length ≤ 16; rw [List.length_map]; omega
    | n + 5 => show x6.length ≤ 16; omega
theorem x_catA' {p q : Addr} {xs ys : List V} {H : Hp} {Q : VK} (h1 : SqT K H p xs) (h2 : SqT K H q ys) (hl : xs.length + ys.length ≤ 100000) (k : ∀ r H2, Same H H2 → SqT K H2 r (xs ++ ys) → Q (.ref r) H2) : rCatA K (.ref p) (.ref q) H Q :=
  ⟨p, q, xs, ys, rfl, rfl, h1, h2, M.sl4 hl, fun e => by subst e; exact k q H (Same.refl _) h2, fun _ e => by subst e; exact k p H (Same.refl _) (by rw [List.append_nil]; exact h1), fun _ _ r hr => k r _ (M.same_new hr) (SqT.of upd_same)⟩
theorem eqvAll_len : ∀ {l m : List PyData}, l.length ≠ m.length → PyData.eqvAll l m = false
  | [], [], h => absurd rfl h
  | [], _ :: _, _ => by simp [PyData.eqvAll]
  | _ :: _, [], _ => by simp [PyData.eqvAll]
  | a :: l, b :: m, h => by
    simp only [PyData.eqvAll]
    rw [eqvAll_len (l := l) (m := m) (fun e => h (by simp [e])), Bool.and_false]
theorem ptD_img {v u : PartV} (h : v.img.length ≠ u.img.length) : PyData.eqv (ptD v) (ptD u) = false := by
  unfold ptD
  simp only [PyData.eqv, PyData.eqvAll]
  rw [eqvAll_len (by simpa using h), Bool.false_and]
theorem ptD_pages {v u : PartV} (h : v.pages ≠ u.pages) : PyData.eqv (ptD v) (ptD u) = false := by
  unfold ptD
  simp only [PyData.eqv, PyData.eqvAll]
  rw [show (v.pages == u.pages) = false from beq_eq_false_iff_ne.mpr h, Bool.false_and, Bool.and_false]
theorem pageMap_nm {v : CfgV} {p : Int} : ∀ z ∈ pageMap v p, z.1 = "own" ∨ z.1 = "share" ∨ z.1 = "device" := by
  intro z hz
  unfold pageMap at hz
  rw [List.mem_append, List.mem_append] at hz
  rcases hz with (hz | hz) | hz
  · unfold ownPgs at hz
    obtain ⟨k, _, rfl⟩ := List.mem_map.mp hz
    exact .inl rfl
  · unfold shPgs at hz
    obtain ⟨k, _, h⟩ := List.mem_flatMap.mp hz
    split at h
    · unfold shOne at h
      split at h
      · rw [List.mem_singleton.mp h]; exact .inr (.inl rfl)
      · split at h
        · rw [List.mem_singleton.mp h]; exact .inr (.inl rfl)
        · cases h
    · cases h
  · unfold dvPgs at hz
    obtain ⟨k, _, h⟩ := List.mem_flatMap.mp hz
    split at h
    · rw [List.mem_singleton.mp h]; exact .inr (.inr rfl)
    · cases h
theorem str_sh {n : Nat} {z : Str} (h : PyData.strOk z = true) : M.ShN n (.str z) := ⟨by simp only [PyData.canLay0]; exact h, by simp [PyData.depth]⟩
theorem pageMap_sh (v : CfgV) (p : Int) : M.ShN 9 (.list ((pageMap v p).map pgD)) := M.ShN.list fun d hd => by
  obtain ⟨z, hz, rfl⟩ := List.mem_map.mp hd
  refine M.ShN.tup (n := 7) fun e he => ?_
  simp only [List.mem_cons, List.not_mem_nil, or_false] at he
  rcases he with rfl | rfl | rfl
  · rcases pageMap_nm z hz with e | e | e <;> rw [e] <;> exact str_sh (by decide +kernel)
  · exact M.ShN.int _
  · exact M.ShN.int _
def sp_law (K : PySem.W.Frag) : Sp := fun vs H Q _ => ∃ (a : Addr) (ns : List Int), vs = [.ref a] ∧ SqL K H a (ns.map V.int) ∧ ns.length ≤ 63 ∧ ∀ H', Q (.bl true) H'
abbrev M.N_law : List Str := ["script", "state", "config", "tick", "number", "far", "p", "q", "one", "lists", "again", "other", "part"]
theorem sc_law : FnScope M.N_law ["script"] (defScope s_law) := ⟨rfl, rfl, rfl, by decide +kernel, rfl, by decide +kernel, by decide +kernel⟩
theorem ok_law (T : Tx K mg) {fd : FuncData} (F : FunD K "law" "law" (defArgs s_law) (defBody s_law) (defScope s_law) [] [] (He.ga K "law") fd) : FnOk P w K mg base CX0 6 (He.ga K "law") fd ["script"] (sp_law K) := by
  refine M.fn_mk F sc_law (by rintro vs H Q E ⟨a, b, rfl, _⟩; rfl) fun cdv A0 outer sv H vs Q E hr h => ?_
  obtain ⟨a, ns, rfl, hS, hlen, k⟩ := h
  refine ⟨_, (pss_cons (ps_set (i := 1) sc_law.nd rfl (Or.inl rfl) (pe_lst (pa_cons pe_int (pa_cons pe_int pa_nil)))) (pss_cons (ps_set (i := 2) sc_law.nd rfl (Or.inl rfl) (C8.pe_c (ok__law_config T) hr (by decide) (by rfl) (pa_cons (pv 1) (pa_cons (pv 0) pa_nil)))) (pss_cons (ps_if (pt_cmpR (op_neD hr.units) (pe_lst (pa_cons (C8.pe_gc (by rfl) T.g_PAGE) (pa_cons (C8.pe_gc (by rfl) T.g_VIRTUAL) (pa_cons (C8.pe_gc (by rfl) T.g_GAP) (pa_cons (C8.pe_gc (by rfl) T.g_CALL) pa_nil))))) (pe_lst (pa_cons pe_int (pa_cons pe_int (pa_cons pe_int (pa_cons pe_int pa_nil))))) (nomark _)) (pss_one (ps_ret pe_bl)) pss_nil) (pss_cons (ps_set (i := 3) sc_law.nd rfl (Or.inl rfl) pe_int) (pss_cons (ps_for PassesOwn.never rfl (pi_range1 (by rfl) T.b_range (pa_cons (pe_op op_mul pe_int (pe_callB M.call_len (by rfl) T.b_len (by decide +kernel) (pa_cons (pe_fld (pv 2) rfl) pa_nil))) pa_nil)) (pg_name (i := 4) sc_law.nd rfl (Or.inl rfl)) (pss_cons (ps_if (pt_cmpR op_ne (C8.pe_c (ok_frame_start T) hr (by decide) (by rfl) (pa_cons (pv 2) (pa_cons (pv 4) pa_nil))) (pe_op op_add (pv 3) pe_int) (nomark _)) (pss_one (ps_ret pe_bl)) pss_nil) (pss_cons (ps_set (i := 3) sc_law.nd rfl (Or.inl rfl) (pe_op op_add (pe_op op_add (pv 3) pe_int) (pe_ix ix_tup (pe_ix ix_tup (pe_fld (pv 2) rfl) (pe_op op_mod (pe_callTy M.call_int (by rfl) T.b_int (by decide +kernel) (pa_cons (pv 4) pa_nil)) (pe_callB M.call_len (by rfl) T.b_len (by decide +kernel) (pa_cons (pe_fld (pv 2) rfl) pa_nil))) (fun _ _ => rfl)) pe_int (fun _ _ => rfl)))) (pss_one (ps_if (PW.pt (pw_and (pt_cmpR op_eq (pe_op op_add (pv 4) pe_int) (pe_callB M.call_len (by rfl) T.b_len (by decide +kernel) (pa_cons (pe_fld (pv 2) rfl) pa_nil)) (nomark _)) (pw_and1 (pt_cmpR op_ne (C8.pe_c (ok_round_length T) hr (by decide) (by rfl) (pa_cons (pv 2) pa_nil)) (pv 3) (nomark _))))) (pss_one (ps_ret pe_bl)) pss_nil))))) (pss_cons (ps_set (i := 5) sc_law.nd rfl (Or.inl rfl) (C8.pe_c (ok__law_draw T) hr (by decide) (by rfl) (pa_cons (pv 1) (pa_cons (pv 0) (pa_cons pe_int pa_nil))))) (pss_cons (ps_if (pt_cmpR op_ne (C8.pe_c (ok_frame_start T) hr (by decide) (by rfl) (pa_cons (pv 2) (pa_cons (pe_op op_add (pv 5) (pe_callB M.call_len (by rfl) T.b_len (by decide +kernel) (pa_cons (pe_fld (pv 2) rfl) pa_nil))) pa_nil))) (pe_op op_add (C8.pe_c (ok_frame_start T) hr (by decide) (by rfl) (pa_cons (pv 2) (pa_cons (pv 5) pa_nil))) (C8.pe_c (ok_round_length T) hr (by decide) (by rfl) (pa_cons (pv 2) pa_nil))) (nomark _)) (pss_one (ps_ret pe_bl)) pss_nil) (pss_cons (ps_for PassesOwn.never rfl (pi_range1 (by rfl) T.b_range (pa_cons (pe_callB M.call_len (by rfl) T.b_len (by decide +kernel) (pa_cons (pe_fld (pv 2) rfl) pa_nil)) pa_nil)) (pg_name (i := 6) sc_law.nd rfl (Or.inl rfl)) (pss_cons (ps_if (PW.pt (pw_or (pt_cmpR (op_neD hr.units) (C8.pe_c (ok_page_map T) hr (by decide) (by rfl) (pa_cons (pv 2) (pa_cons (pv 6) pa_nil))) (C8.pe_c (ok__law_pages T) hr (by decide) (by rfl) (pa_cons (pv 2) (pa_cons (pv 6) pa_nil))) (nomark _)) (pw_or1 (pt_cmpR (op_neD hr.units) (C8.pe_c (ok_sources_of T) hr (by decide) (by rfl) (pa_cons (pv 2) (pa_cons (pv 6) pa_nil))) (C8.pe_c (ok__law_reach T) hr (by decide) (by rfl) (pa_cons (pv 2) (pa_cons (pv 6) pa_nil))) (nomark _))))) (pss_one (ps_ret pe_bl)) pss_nil) (pss_one (ps_for PassesOwn.never rfl (pi_range1 (by rfl) T.b_range (pa_cons (pe_callB M.call_len (by rfl) T.b_len (by decide +kernel) (pa_cons (pe_fld (pv 2) rfl) pa_nil)) pa_nil)) (pg_name (i := 7) sc_law.nd rfl (Or.inl rfl)) (pss_one (ps_if (pt_cmpR op_ne (C8.pe_c (ok_may_flow T) hr (by decide) (by rfl) (pa_cons (pv 2) (pa_cons (pv 6) (pa_cons (pv 7) pa_nil)))) (pe_or (pe_cmpR op_eq (pv 6) (pv 7) (nomark _)) (pe_one (pe_cmpR (M.op_inDT (M.hu65 hr)) (pe_tup (pa_cons (pv 6) (pa_cons (pv 7) pa_nil))) (pe_fld (pv 2) rfl) (by rfl)))) (nomark _)) (pss_one (ps_ret pe_bl)) pss_nil)))))) (pss_cons (ps_set (i := 8) sc_law.nd rfl (Or.inl rfl) (pe_ix ix_tup (pe_fld (pv 2) rfl) pe_int (fun _ _ => rfl))) (pss_cons (ps_setLc (i := 9) (own := [("part", 12)]) rfl sc_law.nd rfl rfl (sw_true rfl rfl rfl (by decide +kernel)) (pi_tup (C8.pe_mt0 (ok_Config_fields T) hr (by decide) (pv 2))) (blkOk_by (own := [("part", 12)]) (N := M.N_law) (sc := defScope s_law) (by decide +kernel)) (fun _ _ _ _ _ => (pg_name (i := 12) sc_law.nd rfl (Or.inl rfl))) (fun _ _ _ _ _ => pts_nil) (fun _ _ _ _ _ => (pe_callTy (M.call_list : CallR _ _ (M.rListQ K)) (by rfl) T.b_list (by decide +kernel) (pa_cons (pv 12) pa_nil)))) (pss_cons (ps_set (i := 10) sc_law.nd rfl (Or.inl rfl) (C8.pe_mk (ok_Config___init__ T) hr (by decide) (by rfl) (pa_cons (pe_ix ix_list (pv 9) pe_int (fun _ _ => rfl)) (pa_cons (pe_ix ix_list (pv 9) pe_int (fun _ _ => rfl)) (pa_cons (pe_ix ix_list (pv 9) pe_int (fun _ _ => rfl)) (pa_cons (pe_ix ix_list (pv 9) pe_int (fun _ _ => rfl)) (pa_cons (pe_ix ix_list (pv 9) pe_int (fun _ _ => rfl)) (pa_cons (pe_ix ix_list (pv 9) pe_int (fun _ _ => rfl)) pa_nil)))))))) (pss_cons (ps_if (PW.pt (pw_or (pt_cmpR (M.op_neO (ok_Config___eq__ T) T.nn_Config T.so_Config hr) (pv 10) (pv 2) (nomark _)) (pw_or (pt_cmpR (M.op_neM (M.hu64 hr)) (C8.pe_mt0 (ok_Config_fields T) hr (by decide) (pv 10)) (C8.pe_mt0 (ok_Config_fields T) hr (by decide) (pv 2)) (nomark _)) (pw_or (pt_cmpR (M.op_eqO (ok_Config___eq__ T) hr) (pv 2) pe_int (nomark _)) (pw_or1 (pt_cmpR (M.op_eqO (ok_Partition___eq__ T) hr) (pv 8) pe_int (nomark _))))))) (pss_one (ps_ret pe_bl)) pss_nil) (pss_cons (ps_if (PW.pt (pw_or (pt_cmpR (M.op_neO (ok_Partition___eq__ T) T.nn_Partition T.so_Partition hr) (pv 8) (C8.pe_mk (ok_Partition___init__ T) hr (by decide) (by rfl) (pa_cons (pe_callTy M.call_list (by rfl) T.b_list (by decide +kernel) (pa_cons (pe_fld (pv 8) rfl) pa_nil)) (pa_cons (pe_fld (pv 8) rfl) (pa_cons (pe_fld (pv 8) rfl) pa_nil)))) (nomark _)) (pw_or1 (pt_cmpR (op_neD hr.units) (C8.pe_mt0 (ok_Partition_fields T) hr (by decide) (pv 8)) (pe_tup (pa_cons (pe_fld (pv 8) rfl) (pa_cons (pe_fld (pv 8) rfl) (pa_cons (pe_fld (pv 8) rfl) pa_nil)))) (nomark _))))) (pss_one (ps_ret pe_bl)) pss_nil) (pss_cons (ps_expr (pe_bm PySem.F.plainAttrs_list PySem.F.slot_list_append PySem.F.type_list_append mt_append (pe_ix ix_list (pv 9) (C8.pe_c (ok__law_draw T) hr (by decide) (by rfl) (pa_cons (pv 1) (pa_cons (pv 0) (pa_cons pe_int pa_nil)))) (fun _ _ => rfl)) (pa_cons (pe_tup (pa_cons pe_int (pa_cons pe_int pa_nil))) pa_nil))) (pss_cons (ps_set (i := 11) sc_law.nd rfl (Or.inl rfl) (C8.pe_mk (ok_Config___init__ T) hr (by decide) (by rfl) (pa_cons (pe_ix ix_list (pv 9) pe_int (fun _ _ => rfl)) (pa_cons (pe_ix ix_list (pv 9) pe_int (fun _ _ => rfl)) (pa_cons (pe_ix ix_list (pv 9) pe_int (fun _ _ => rfl)) (pa_cons (pe_ix ix_list (pv 9) pe_int (fun _ _ => rfl)) (pa_cons (pe_ix ix_list (pv 9) pe_int (fun _ _ => rfl)) (pa_cons (pe_ix ix_list (pv 9) pe_int (fun _ _ => rfl)) pa_nil)))))))) (pss_one (ps_ret (pe_and (pe_cmpR (M.op_neO (ok_Config___eq__ T) T.nn_Config T.so_Config hr) (pv 11) (pv 2) (nomark _)) (pe_and (pe_cmpR (M.op_neO (ok_Partition___eq__ T) T.nn_Partition T.so_Partition hr) (pv 8) (C8.pe_mk (ok_Partition___init__ T) hr (by decide) (by rfl) (pa_cons (pe_op op_catA (pe_fld (pv 8) rfl) (pe_tup (pa_cons pe_int pa_nil))) (pa_cons (pe_fld (pv 8) rfl) (pa_cons (pe_fld (pv 8) rfl) pa_nil)))) (nomark _)) (pe_one (pe_cmpR (M.op_neO (ok_Partition___eq__ T) T.nn_Partition T.so_Partition hr) (pv 8) (C8.pe_mk (ok_Partition___init__ T) hr (by decide) (by rfl) (pa_cons (pe_fld (pv 8) rfl) (pa_cons (pe_op op_add (pe_fld (pv 8) rfl) pe_int) (pa_cons (pe_fld (pv 8) rfl) pa_nil)))) (nomark _)))))))))))))))))))))), ?_⟩
  refine M.x_st (σ0 := [some _, none, none, none, none, none, none, none, none, none, none, none, none]) rfl ?_
  walk_at "go"
  intro st H1 hst e1 h1
  have D1 := Dr.new (h1 : H1 st = some (.lst (([0, 0] : List Int).map V.int))) hst e1 hS hlen
  walk_at "go"
  refine ⟨st, a, ns, rfl, D1, fun c A v H2 hc D2 C2 F2 O2 => ?_⟩
  walk_at "go"
  intro p3 H3 hp3 e3 h3
  walk_at "go"
  intro p4 H4 hp4 e4 h4
  refine M.x_neS' (d := .list ([16, 8, 256, 96].map PyData.int)) (M.Dp.li (l := [16, 8, 256, 96]) (SqL.of (e4 _ _ h3))) (M.Dp.li (l := [16, 8, 256, 96]) (SqL.of h4)) (M.ShN.ints (n := 0) _) ?_
  have D4 := D2.same (e3.trans e4)
  have C4 := C2.same (e3.trans e4)
  have F4 := F2.kp (M.Kp.same (e3.trans e4))
  have hC4 := C4.h
  have hfl := O2.p.hfrl
  obtain ⟨t2, fxs, et2, s2, d2⟩ := M.Dp.tupE C4.q2
  cases et2
  have hfx := M.DpAll.len d2
  rw [List.length_map] at hfx
  walk_at "go"
  refine M.x_isForR (by omega) (fun i σ' Hx => ∃ (v4 : Option V), σ' = [some (.ref a), some (.ref st), some (.ref c), some (.int (fstart v.frames i - 256)), v4, none, none, none, none, none, none, none, none] ∧ Same H4 Hx) ⟨_, by rw [show ((0 : Nat) : Int) = 0 from rfl, fstart_zero]; rfl, Same.refl _⟩ ?_ ?_
  · rintro i σ' Hx hi ⟨v4, rfl, ex⟩
    rw [hfx] at hi
    have Cx := C4.same ex
    walk_at "go"
    refine go_frame_start Cx ⟨hfl.1, by omega⟩ ⟨by omega, by omega⟩ (fun H5 e5 => ?_)
    have C5 := Cx.same e5
    have hC5 := C5.h
    have d5 := M.DpAll.kp (M.Kp.same (ex.trans e5)) _ _ (frDs_t _) d2
    have s5 := M.Same.st (ex.trans e5) s2
    have hlt : i % v.frames.length < v.frames.length := Nat.mod_lt _ (by omega)
    obtain ⟨z, hz⟩ : ∃ z, v.frames[i % v.frames.length]? = some z := ⟨_, List.getElem?_eq_getElem hlt⟩
    obtain ⟨x, hx, hdx⟩ := DpAll.ix d5 hz
    obtain ⟨t, u, rfl, ht, _⟩ := frE hdx
    have hat : atI fxs ((i : Int) % (fxs.length : Int)) = some (.ref t) := by
      rw [hfx, ← Int.natCast_emod]
      exact M.atI_of (v := V.ref t) (by omega) (by rw [Int.toNat_natCast]; exact hx)
    walk_at "go"
    have hs := fstart_succ hfl.1 hz
    have et : fstart v.frames (i : Int) - 256 + 256 + z.2 = fstart v.frames ((i + 1 : Nat) : Int) - 256 := by
      rw [show ((i + 1 : Nat) : Int) = (i : Int) + 1 by omega]
      omega
    rw [et]
    refine M.x_ifD (fun c1 => ?_) (fun c1 => ?_)
    · walk_at "go"
      refine go_round_length C5 (by omega) (fun H6 e6 => ?_)
      walk_at "go"
      refine M.x_ifFD (fun q => q ?_) ?_
      · have : ((i + 1 : Nat) : Int) = (v.frames.length : Int) := by rw [← hfx]; omega
        rw [this, fstart_len hfl.1]
      · walk_at "go"
        exact ⟨_, rfl, ex.trans (e5.trans e6)⟩
    · walk_at "go"
      exact ⟨_, rfl, ex.trans e5⟩
  rintro σ' H5 ⟨v4, rfl, e5⟩
  have D5 := D4.same e5
  walk_at "go"
  refine go__law_draw2 D5 ⟨by decide, by decide⟩ (fun far H6 hf0 hf1 e6 D6 => ?_)
  have ke : M.Kp H4 H6 := (M.Kp.same e5).trans (D5.d.kp e6)
  have G6 := C4.kp ke
  have F6 := F4.kp ke
  have hG6 := G6.h
  have s6 := M.SqT.kp ke s2
  walk_at "go"
  refine go_frame_start G6 ⟨hfl.1, by omega⟩ ⟨by omega, by omega⟩ (fun H7 e7 => ?_)
  have G7 := G6.same e7
  have hC7 := G7.h
  walk_at "go"
  refine go_frame_start G7 ⟨hfl.1, by omega⟩ ⟨by omega, by omega⟩ (fun H8 e8 => ?_)
  have G8 := G7.same e8
  have hC8 := G8.h
  walk_at "go"
  refine go_round_length G8 (by omega) (fun H9 e9 => ?_)
  walk_at "go"
  rw [hfx, fstart_far hfl.1]
  refine M.x_ifFD (fun q => q rfl) ?_
  have G9 := G8.same e9
  have hC9 := G9.h
  have q19 := G9.q1
  have F9 := F6.kp (M.Kp.same (e7.trans (e8.trans e9)))
  have D9 := D6.same (e7.trans (e8.trans e9))
  have hpl := G9.pp.1
  have hn := O2.p.hn
  have R : CfgR v := ⟨by have := O2.p.hn; omega, fun z hz => by have := O2.p.hfl z hz; omega⟩
  walk_at "go"
  refine M.x_isForR (by simp; omega) (fun i σ' Hx => ∃ (t4 : Int) (v4 v6 v7 : Option V), σ' = [some (.ref a), some (.ref st), some (.ref c), some (.int t4), v4, some (.int far), v6, v7, none, none, none, none, none] ∧ Same H9 Hx) ⟨_, _, _, _, rfl, Same.refl _⟩ ?_ ?_
  · rintro i σ' Hx hi ⟨t4, v4, v6, v7, rfl, ex⟩
    rw [List.length_map, hpl] at hi
    have Cx := G9.same ex
    have Fx := F9.kp (M.Kp.same ex)
    obtain ⟨x, hx⟩ : ∃ x, v.parts[i]? = some x := ⟨_, List.getElem?_eq_getElem (by omega)⟩
    have hxo := O2.v x (List.mem_of_getElem? hx)
    have hsl := O2.p.hshl
    have hdl := O2.p.hdvl
    walk_at "go"
    refine go_page_map Cx (by omega) (by rw [Int.toNat_natCast]; exact hx) ⟨by have := hxo.pg; omega, by have := hxo.pg; omega⟩ (by omega) (by omega) (fun q1 Ha hq1 ea L1 => ?_)
    have Ca := Cx.same ea
    have Fa := Fx.kp (M.Kp.same ea)
    walk_at "go"
    refine ⟨c, A, v, (i : Int), x, rfl, Ca, Fa, by omega, by rw [Int.toNat_natCast]; exact hx, ⟨by have := hxo.pg; omega, by have := hxo.pg; omega⟩, by omega, by omega, fun q2 Hb hq2 eb L2 => ?_⟩
    obtain ⟨ys1, y1, z1⟩ := L1.same eb (pgDs_t _)
    obtain ⟨ys2, y2, z2⟩ := L2
    refine M.x_neS' (d := .list ((pageMap v i).map pgD)) (.lst (SqL.of y1) z1) (.lst (SqL.of y2) z2) (pageMap_sh v i) ?_
    have Cb := Ca.same eb
    walk_at "go"
    refine go_sources_of Cb R ⟨by omega, by omega⟩ (fun q3 Hc hq3 ec h3 => ?_)
    have Cc := Cb.same ec
    walk_at "go"
    refine ⟨c, A, v, (i : Int), rfl, Cc, R, ⟨by omega, by omega⟩, fun q4 Hd hq4 ed h4 => ?_⟩
    refine M.x_neS' (M.Dp.li (SqL.of (ed _ _ h3))) (M.Dp.li (SqL.of h4)) (M.ShN.ints (n := 0) _) ?_
    have Cd := Cc.same ed
    have hCd := Cd.h
    have qCd := Cd.q1
    have eall := ex.trans (ea.trans (eb.trans (ec.trans ed)))
    walk_at "go"
    refine M.x_isForR (by simp; omega) (fun j σ' Hy => ∃ (v7 : Option V), σ' = [some (.ref a), some (.ref st), some (.ref c), some (.int t4), v4, some (.int far), some (.int i), v7, none, none, none, none, none] ∧ Same H9 Hy) ⟨_, rfl, eall⟩ ?_ ?_
    · rintro j σ' Hy hj ⟨v7, rfl, ey⟩
      have Cy := G9.same ey
      walk_at "go"
      intro He ee
      have Ce := Cy.same ee
      have hCe := Ce.h
      walk_at "go"
      have fin : mayFlow v i j = mayFlow v i j := rfl
      refine M.x_ifD (fun c1 => ?_) (fun c1 => ?_)
      · walk_at "go"
        have : mayFlow v i j = true := by unfold mayFlow; rw [decide_eq_true c1]; rfl
        rw [this]
        walk_at "go"
        exact ⟨_, rfl, ey.trans ee⟩
      · walk_at "go"
        intro t1 Hf ht1 ef h1'
        have Cf := Ce.same ef
        have hCf := Cf.h
        walk_at "go"
        refine x_inFlT (SqT.of h1') Cf.q6 ?_
        have : mayFlow v i j = decide (((i : Int), (j : Int)) ∈ v.flows) := by unfold mayFlow; rw [decide_eq_false c1, Bool.false_or]
        rw [this]
        walk_at "go"
        refine M.x_ifFD (fun q => q rfl) ?_
        walk_at "go"
        exact ⟨_, rfl, ey.trans (ee.trans ef)⟩
    · rintro σ' Hy ⟨v7, rfl, ey⟩
      walk_at "go"
      exact ⟨_, _, _, _, rfl, ey⟩
  rintro σ' Hx ⟨t4, v4, v6, v7, rfl, ex⟩
  have Cx := G9.same ex
  have hCx := Cx.h
  have q1x := Cx.q1
  have Dx := D9.same ex
  obtain ⟨pv, hpv⟩ : ∃ x, v.parts[0]? = some x := ⟨_, List.getElem?_eq_getElem (by omega)⟩
  obtain ⟨y, hy⟩ : ∃ y, A.ps[0]? = some y := ⟨_, List.getElem?_eq_getElem (by rw [hpl]; omega)⟩
  have Px := Cx.pp.2 0 y pv hy hpv
  walk_at "go"
  refine M.x_ixT q1x (M.atI_get (f := V.ref) (by decide) hy) ?_
  walk_at "go"
  refine go_Config_fields hCx (fun r0 Ha hr0 ea ha => ?_)
  obtain ⟨X, S0, hXl⟩ := sixOf (Cx.same ea) ⟨by omega, O2.p.hfrl.2, O2.p.hchl, O2.p.hshl, O2.p.hdvl, O2.p.hfll⟩
  walk_at "go"
  refine M.x_isLcT (fun D i acc H' => Ha D = none ∧ Same Ha H' ∧ ∃ qs : List Addr, acc = qs.map V.ref ∧ qs.length = i ∧ qs.Nodup ∧ ∀ (j : Nat) q, qs[j]? = some q → H' q = some (.lst (X j)) ∧ Ha q = none ∧ q ≠ D) (SqT.of ha) (by show 6 ≤ 100000; decide) (fun D H' hD e h => ⟨hD, e, [], rfl, rfl, List.nodup_nil, fun j q h => by simp at h⟩) (fun D i acc H' hD hi hq hp => M.Same.st hp.2.1 (SqT.of ha)) ?_ ?_
  · rintro D i x acc H' hD hx hl hq ⟨_, e, qs, rfl, hql, hnd, hqs⟩
    obtain ⟨t, rfl, ht, _⟩ := S0 i x hx
    have ht := M.Same.st e ht
    have hi : i < 6 := (List.getElem?_eq_some_iff.mp hx).1
    unfold M.LcTurn
    walk_at "go"
    refine ⟨rfl, ?_⟩
    walk_at "go"
    refine M.x_listT ht (fun q H2 hq2 e2 h2 => ?_)
    have nqD : q ≠ D := fun z => by rw [z, hq] at hq2; cases hq2
    refine M.x_lcPut (e2 _ _ hq) hl (by omega) (fun H5 e5 h5 => ⟨hD, same_but hD (e.trans e2) e5, qs ++ [q], by rw [List.map_append]; rfl, by rw [List.length_append, hql]; rfl, ?_, fun j r hr => ?_⟩)
    · rw [List.nodup_append]
      refine ⟨hnd, by simp, fun a ha b hb z => ?_⟩
      rw [List.mem_singleton.mp hb] at z
      obtain ⟨j, hj, hj2⟩ := List.getElem_of_mem ha
      have := (hqs j a (by rw [List.getElem?_eq_getElem hj, hj2])).1
      rw [z, hq2] at this
      cases this
    · by_cases hj : j < qs.length
      · rw [List.getElem?_append_left hj] at hr
        obtain ⟨a1, a2, a3⟩ := hqs j r hr
        exact ⟨e5.at1 a3 (e2 _ _ a1), a2, a3⟩
      · rw [List.getElem?_append_right (by omega)] at hr
        have hj0 : j - qs.length = 0 := by
          have := (List.getElem?_eq_some_iff.mp hr).1
          simp at this
          omega
        rw [hj0] at hr
        simp at hr
        subst hr
        have : j = i := by omega
        subst this
        exact ⟨e5.at1 nqD h2, e.free hq2, nqD⟩
  rintro L acc Hb hL hl hb ⟨_, eb, qs, rfl, hql, hnd, hqs⟩
  obtain ⟨b0, b1, b2, b3, b4, b5, rfl⟩ : ∃ b0 b1 b2 b3 b4 b5, qs = [b0, b1, b2, b3, b4, b5] := by
    match qs, hql with
    | [b0, b1, b2, b3, b4, b5], _ => exact ⟨_, _, _, _, _, _, rfl⟩
  have f0 := (hqs 0 b0 rfl).1
  have f1 := (hqs 1 b1 rfl).1
  have f2 := (hqs 2 b2 rfl).1
  have f3 := (hqs 3 b3 rfl).1
  have f4 := (hqs 4 b4 rfl).1
  have f5 := (hqs 5 b5 rfl).1
  have hb' : Hb L = some (.lst [.ref b0, .ref b1, .ref b2, .ref b3, .ref b4, .ref b5]) := hb
  have Sb := S0.same eb
  have Gb := (Cx.same ea).same eb
  have hGb := Gb.h
  have Db := (Dx.same ea).same eb
  have Pb := (Px.kp (M.Kp.same ea)).kp (M.Kp.same eb)
  walk_at "go"
  refine go_newC (.inl (SqL.of f0)) (.inl (SqL.of f1)) (.inl (SqL.of f2)) (.inl (SqL.of f3)) (.inl (SqL.of f4)) (.inl (SqL.of f5)) (fun g B Hc hg ec hgc k1 k2 k3 k4 k5 k6 _ => ?_)
  have SB : SixAt K B X Hc := fun i r hr => by
    have sim : ∀ i, i < 6 → ∀ x ∈ X i, SimpleV x := fun i hi => by
      obtain ⟨r, hr⟩ : ∃ r, A.rs[i]? = some r := ⟨_, List.getElem?_eq_getElem (show i < A.rs.length from hi)⟩
      obtain ⟨_, _, _, h3⟩ := S0 i r hr
      exact h3
    match i, hr with
    | 0, hr => cases hr; exact ⟨_, rfl, k1, sim 0 (by decide)⟩
    | 1, hr => cases hr; exact ⟨_, rfl, k2, sim 1 (by decide)⟩
    | 2, hr => cases hr; exact ⟨_, rfl, k3, sim 2 (by decide)⟩
    | 3, hr => cases hr; exact ⟨_, rfl, k4, sim 3 (by decide)⟩
    | 4, hr => cases hr; exact ⟨_, rfl, k5, sim 4 (by decide)⟩
    | 5, hr => cases hr; exact ⟨_, rfl, k6, sim 5 (by decide)⟩
    | n + 6, hr => cases hr
  have Sc := Sb.same ec
  have cmp : Cmp6 K Hc B A (fun _ => true) := fun H' e i x y hx hy => by
    obtain ⟨t, rfl, h1, h2⟩ := (SB.same e) i x hx
    obtain ⟨u, rfl, h3, _⟩ := (Sc.same e) i y hy
    exact eqB_same h1 h3 h2
  have Gc := Gb.same ec
  have hGc := Gc.h
  walk_at "go"
  refine M.x_neO (y := V.ref c) (sp := sp_Config_eq K) hgc (.inl ⟨_, _, _, rfl, hGc⟩) ⟨g, B, .ref c, rfl, hgc, .inl ⟨c, A, _, rfl, hGc, cmp, fun Hd ed => ⟨_, rfl, ?_⟩⟩⟩
  rw [show (List.range 6).all (fun _ => true) = true by decide]
  have hgd := ed _ _ hgc
  have hGd := ed _ _ hGc
  walk_at "go"
  refine go_Config_fields hgd (fun r1 He hr1 ee he => ?_)
  have hGe := ee _ _ hGd
  walk_at "go"
  refine go_Config_fields hGe (fun r2 Hf hr2 ef hf => ?_)
  refine x_neM (n := 10) (e := fun _ => true) (by decide) (SqT.of (ef _ _ he)) (SqT.of hf) (cmp Hf (ed.trans (ee.trans ef))) ?_
  rw [show ((List.range (min B.rs.length A.rs.length)).all (fun _ => true) && B.rs.length == A.rs.length) = true by simp [CA.rs]]
  have ecf := ec.trans (ed.trans (ee.trans ef))
  have hGf := ef _ _ hGe
  have Pf := Pb.kp (M.Kp.same ecf)
  obtain ⟨dxp, tp, hPf, htp⟩ := id Pf
  walk_at "go"
  refine M.x_eqO (y := V.int 5) (sp := sp_Config_eq K) hGf (.inr ⟨5, rfl⟩) ⟨c, A, .int 5, rfl, hGf, .inr ⟨5, rfl, fun Hg eg => ⟨_, rfl, ?_⟩⟩⟩
  have Pg := Pf.kp (M.Kp.same eg)
  have hPg := eg _ _ hPf
  walk_at "go"
  refine M.x_eqO (y := V.int 5) (sp := sp_Partition_eq K) hPg (.inr ⟨5, rfl⟩) ⟨y, pv, .int 5, rfl, Pg, .inr ⟨5, rfl, fun Hh eh => ⟨_, rfl, ?_⟩⟩⟩
  have Ph := Pg.kp (M.Kp.same eh)
  have hPh := eh _ _ hPg
  have htph := M.Same.st (eg.trans eh) htp
  walk_at "go"
  refine M.x_listT htph (fun q Hi hq ei hi => ?_)
  have Pi := Ph.kp (M.Kp.same ei)
  have hPi := ei _ _ hPh
  walk_at "go"
  refine go_newP (img := pv.img) (.inl (SqL.of hi)) (fun x Hj hx ej Pj => ?_)
  have Pj1 := Pi.kp (M.Kp.same ej)
  have hPj := ej _ _ hPi
  obtain ⟨dxj, tj, hPj2, _⟩ := id Pj
  walk_at "go"
  refine M.x_neO (y := V.ref x) (sp := sp_Partition_eq K) hPj (.inl ⟨_, _, _, rfl, hPj2⟩) ⟨y, pv, .ref x, rfl, Pj1, .inl ⟨x, _, rfl, Pj, fun Hk ek => ⟨_, rfl, ?_⟩⟩⟩
  rw [show PyData.eqv (ptD pv) (ptD ⟨pv.img, pv.pages, pv.start⟩) = true from M.eqv_refl _ (ptD_sh pv).1]
  have Pk := Pj1.kp (M.Kp.same ek)
  have hPk := ek _ _ hPj
  walk_at "go"
  refine go_Partition_fields Pk (fun r3 Hl hr3 el d3 => ?_)
  have hPl := el _ _ hPk
  have htl := M.Same.st (ei.trans (ej.trans (ek.trans el))) htph
  walk_at "go"
  intro r4 Hm hr4 em hm
  refine M.x_neS' (d := ptD pv) (M.Dp.kp (M.Kp.same em) _ _ (by simp only [ptD, M.tupD, M.tupDs, Bool.true_and, Bool.and_true]; exact M.tupDs_map (fun _ => rfl)) d3) (.tup (SqT.of hm) (.cons (M.Dp.ti (M.Same.st em htl)) (.cons (.int _) (.cons (.int _) .nil)))) (ptD_sh pv) ?_
  have ebm := ecf.trans (eg.trans (eh.trans (ei.trans (ej.trans (ek.trans (el.trans em))))))
  have Dm := Db.same ebm
  have hLm := ebm _ _ hb'
  walk_at "go"
  refine go__law_draw2 Dm ⟨by decide, by decide⟩ (fun d Hn hd0 hd1 en Dn => ?_)
  have oL := (Dx.same ea).off hL
  have hLn := en.at1 oL.1 hLm
  have kn : M.Kp Hm Hn := Dm.d.kp en
  have qn : ∀ (j : Nat) q, ([b0, b1, b2, b3, b4, b5] : List Addr)[j]? = some q → Hn q = some (.lst (X j)) ∧ Ha q = none := fun j q hq => by
    obtain ⟨a1, a2, _⟩ := hqs j q hq
    exact ⟨en.at1 ((Dx.same ea).off a2).1 (ebm _ _ a1), a2⟩
  have Sn : SixAt K A X Hn := fun i r hr => by
    obtain ⟨t, h1, h2, h3⟩ := (Sb.same ebm) i r hr
    exact ⟨t, h1, M.SqT.kp kn h2, h3⟩
  have Gn := (Gb.same ebm).kp kn
  have Pn := (Pb.kp (M.Kp.same ebm)).kp kn
  have hdt : d.toNat < 6 := by omega
  obtain ⟨bd, hbd⟩ : ∃ bd, ([b0, b1, b2, b3, b4, b5] : List Addr)[d.toNat]? = some bd := ⟨_, List.getElem?_eq_getElem hdt⟩
  have hqd := (qn _ _ hbd).1
  walk_at "go"
  refine M.x_ixL (xs := ([b0, b1, b2, b3, b4, b5] : List Addr).map V.ref) (SqL.of hLn) (M.atI_get (f := V.ref) hd0 hbd) ?_
  walk_at "go"
  intro tn Ho htn eo ho
  walk_at "go"
  refine M.x_append (eo _ _ hqd) (by have := hXl d.toNat; omega) (fun Hp' ep hp => ?_)
  have kp' := (M.Kp.same eo).trans (M.Kp.lst ep (eo _ _ hqd))
  have dstd : ∀ (j : Nat) q, ([b0, b1, b2, b3, b4, b5] : List Addr)[j]? = some q → j ≠ d.toNat → q ≠ bd := fun j q hq hj z => by
    subst z
    have hj1 := (List.getElem?_eq_some_iff.mp hq)
    have hj2 := (List.getElem?_eq_some_iff.mp hbd)
    obtain ⟨l1, e1⟩ := hj1
    obtain ⟨l2, e2⟩ := hj2
    exact hj ((List.getElem_inj hnd).mp (e1.trans e2.symm))
  have qp : ∀ (j : Nat) q, ([b0, b1, b2, b3, b4, b5] : List Addr)[j]? = some q → Hp' q = some (.lst (if j = d.toNat then X j ++ [.ref tn] else X j)) := fun j q hq => by
    by_cases hj : j = d.toNat
    · rw [if_pos hj]
      subst hj
      rw [hbd] at hq
      cases hq
      exact hp
    · rw [if_neg hj]
      exact ep.at1 (dstd j q hq hj) (eo _ _ (qn j q hq).1)
  have Sp : SixAt K A X Hp' := fun i r hr => by
    obtain ⟨t, h1, h2, h3⟩ := Sn i r hr
    exact ⟨t, h1, M.SqT.kp kp' h2, h3⟩
  have Gp := Gn.kp kp'
  have hGp := Gp.h
  have Pp := Pn.kp kp'
  have hLp : Hp' L = some (.lst [.ref b0, .ref b1, .ref b2, .ref b3, .ref b4, .ref b5]) := ep.at1 (fun z => by
    have := (qn _ _ hbd).2
    have h2 := (hqs _ _ hbd).2.2
    exact h2 z.symm) (eo _ _ hLn)
  walk_at "go"
  refine go_newC (.inl (SqL.of (qp 0 _ rfl))) (.inl (SqL.of (qp 1 _ rfl))) (.inl (SqL.of (qp 2 _ rfl))) (.inl (SqL.of (qp 3 _ rfl))) (.inl (SqL.of (qp 4 _ rfl))) (.inl (SqL.of (qp 5 _ rfl))) (fun g2 B2 Hq hg2 eq2 hgq k1 k2 k3 k4 k5 k6 _ => ?_)
  have hGq := eq2 _ _ hGp
  have Pq := Pp.kp (M.Kp.same eq2)
  have Sq := Sp.same eq2
  have SB2 : ∀ (i : Nat) r, B2.rs[i]? = some r → ∃ t, r = .ref t ∧ SqT K Hq t (if i = d.toNat then X i ++ [.ref tn] else X i) := fun i r hr => by
    match i, hr with
    | 0, hr => cases hr; exact ⟨_, rfl, k1⟩
    | 1, hr => cases hr; exact ⟨_, rfl, k2⟩
    | 2, hr => cases hr; exact ⟨_, rfl, k3⟩
    | 3, hr => cases hr; exact ⟨_, rfl, k4⟩
    | 4, hr => cases hr; exact ⟨_, rfl, k5⟩
    | 5, hr => cases hr; exact ⟨_, rfl, k6⟩
    | n + 6, hr => cases hr
  have cmp2 : Cmp6 K Hq B2 A (fun i => decide (i ≠ d.toNat)) := fun H' e i x y hx hy => by
    obtain ⟨t, rfl, h1⟩ := SB2 i x hx
    obtain ⟨u, rfl, h3, h4⟩ := (Sq.same e) i y hy
    have h1 := M.Same.st e h1
    show M.EqB K H' 10 (.ref t) (.ref u) (decide (i ≠ d.toNat))
    by_cases hi : i = d.toNat
    · rw [if_pos hi] at h1
      rw [show decide (i ≠ d.toNat) = false from decide_eq_false (fun z => z hi)]
      exact eqB_more h1 h3 h4
    · rw [if_neg hi] at h1
      rw [show decide (i ≠ d.toNat) = true from decide_eq_true hi]
      exact eqB_same h1 h3 h4
  have all2 : (List.range 6).all (fun i => decide (i ≠ d.toNat)) = false := by
    rw [Bool.eq_false_iff]
    intro z
    have := List.all_eq_true.mp z d.toNat (List.mem_range.mpr hdt)
    exact (of_decide_eq_true this) rfl
  walk_at "go"
  refine M.x_neO (y := V.ref c) (sp := sp_Config_eq K) hgq (.inl ⟨_, _, _, rfl, hGq⟩) ⟨g2, B2, .ref c, rfl, hgq, .inl ⟨c, A, _, rfl, hGq, cmp2, fun Hr er => ⟨_, rfl, ?_⟩⟩⟩
  rw [all2]
  have Pr := Pq.kp (M.Kp.same er)
  obtain ⟨dxr, tr, hPr, htr⟩ := id Pr
  walk_at "go"
  intro tu Hs htu es hs
  have hPs := es _ _ hPr
  refine x_catA' (M.Same.st es htr) (SqT.of hs) (by
    have := (O2.v pv (List.mem_of_getElem? hpv)).len
    have := (O2.v pv (List.mem_of_getElem? hpv)).pg
    simp only [List.length_map, List.length_cons, List.length_nil]
    omega) (fun ru Ht et ht => ?_)
  have hPt := et _ _ hPs
  walk_at "go"
  refine go_newP (img := pv.img ++ [1]) (.inr (by rw [List.map_append]; exact ht)) (fun x2 Hu hx2 eu Pu => ?_)
  have Pr2 := Pr.kp (M.Kp.same (es.trans (et.trans eu)))
  have hPu := eu _ _ hPt
  obtain ⟨dxu, tu2, hPu2, _⟩ := id Pu
  walk_at "go"
  refine M.x_neO (y := V.ref x2) (sp := sp_Partition_eq K) hPu (.inl ⟨_, _, _, rfl, hPu2⟩) ⟨y, pv, .ref x2, rfl, Pr2, .inl ⟨x2, _, rfl, Pu, fun Hv ev => ⟨_, rfl, ?_⟩⟩⟩
  rw [ptD_img (by simp)]
  have hPv := ev _ _ hPu
  have Pv2 := Pr2.kp (M.Kp.same ev)
  have htv := M.Same.st (es.trans (et.trans (eu.trans ev))) htr
  walk_at "go"
  refine go_newP (img := pv.img) (.inr htv) (fun x3 Hw hx3 ew Pw => ?_)
  have Pw2 := Pv2.kp (M.Kp.same ew)
  have hPw := ew _ _ hPv
  obtain ⟨dxw, tw, hPw2, _⟩ := id Pw
  walk_at "go"
  refine M.x_neO (y := V.ref x3) (sp := sp_Partition_eq K) hPw (.inl ⟨_, _, _, rfl, hPw2⟩) ⟨y, pv, .ref x3, rfl, Pw2, .inl ⟨x3, _, rfl, Pw, fun Hz ez => ⟨_, rfl, ?_⟩⟩⟩
  rw [ptD_pages (by show pv.pages ≠ pv.pages + 1; omega)]
  exact k Hz
end conf9

end K30
open PySem PySem.W PySem.Calls PyProof.Rows
set_option maxHeartbeats 0 in
theorem PySem.Challenge.cw_merestone_k30_configurations_holds : PySem.Challenge.rw_merestone_k30_configurations.Holds := by
  w_on; o_law
  refine HandSHeadRun.head_any (r := OpenLaw.row PySem.Challenge.rw_merestone_k30_configurations) (q := view (OpenLaw.row PySem.Challenge.rw_merestone_k30_configurations).prog [26]) (H := K30.hk) (ob := K30.ob) (M := 40000) (loose := K30.names) (d := HandSHeadRun.topDef (OpenLaw.row PySem.Challenge.rw_merestone_k30_configurations).prog 26) (kwd := []) K30.ob_eq
    (by kernel_rfl) (fun s => by kernel_rfl) K30.run (by kernel_rfl) (by kernel_rfl) (by kernel_rfl) (by rfl) (by first | assumption | decide +kernel) (by decide +kernel) ⟨rfl, rfl, rfl, rfl, rfl, by decide +kernel⟩ ?hw ?hc
  case hw => w_witness2
  case hc =>
    refine M.walk_end (l := PySem.Challenge.rw_merestone_k30_configurations) (n := 63) (k := 6) (x := "script") (CX := fun _ => L2.CX0) rfl (by decide) (by kernel_rfl) ⟨rfl, by decide, by decide⟩ ?F (fun _ _ _ _ _ z => z)
    intro w mg fa h Y G hmg0
    obtain ⟨K, KX, c⟩ := Y
    have hmg : mg ("law" : PySem.Str) = some (.ref fa) := by
      have e : (HandSHeadRun.topDef (OpenLaw.row PySem.Challenge.rw_merestone_k30_configurations).prog 26).name = ("law" : PySem.Str) := by kernel_rfl
      rw [← e]
      exact hmg0
    have T := K30.tx_mk KX G c
    have e := hmg.symm.trans T.g_law
    cases e
    obtain ⟨fd, F⟩ := T.f_law
    exact ⟨K, fd, K30.sp_law K, KX, fun s u => L2.FunD.bindsA (ps := ["script"]) F (fun _ _ _ _ _ _ us hl => match us, hl with | [_], _ => rfl) s [u] rfl, fun H a ns hl _ hS => ⟨a, ns, rfl, hS, hl, fun _ => rfl⟩, fun base KB GB => K30.ok_law T F⟩
