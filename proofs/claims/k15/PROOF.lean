import PyProof.Rows.All
import Wide.All
import OpenK.AllK
import Wide.FinOn
import KE.KStateDown
import Lean
import HandS.ForMost
import HandS.Flow
import HandS.Style
import HandS.Exc
import HandS.ExcOwn
import HandS.TryOnly
import HandS.WordsExc
import HandS.Codes
import HandS.Steps
import HandS.TupAny
import HandS.TupMul
import HandS.IsInst
import HandS.Defaults
import HandS.More
import HandS.Wide
import HandS.Conv
import HandS.Head0
import HandS.Head1
import HandS.Head2
import HandS.HeadEnd
import HandS.HeadHook1
import HandS.HeadHook2
import HandS.HeadHook3
import HandS.HeadHook4
import KE.KExcSuper
import HandS.ExcInit
import HandS.ExcField
import HandS.ExcIs
import HandS.RaiseMore
import HandS.WrittenGet
import HandS.CallLocal
import HandS.Strs
import HandS.HotCalls
import HandS.ExcInitHot
import KE.KExcIs
import HandS.OwnEq
import HandS.SortInts
import KE.KIndexOf
import PyProof.NeKinds
import HandS.Deep
import PySem.Challenge.RW_merestone_k15_listings_read_back
set_option Elab.async false
set_option linter.all false
set_option maxRecDepth 100000
set_option maxHeartbeats 4000000
namespace M
open PySem PySem.Spec PyProof.Rows L2
abbrev St := L2.St
/-! ### named rules -/
def rInt1 : List V → Hp → VK → Prop := fun xs H Q => (∃ i, xs = [.int i] ∧ Q (.int i) H) ∨ ∃ k, xs = [.bl k] ∧ Q (.int (if k then 1 else 0)) H
def rStrI : List V → Hp → VK → Prop := fun xs H Q => ∃ i, xs = [.int i] ∧ i.natAbs.log2 < 1920 ∧ Q (.str (toString i)) H
def rMax2 : List V → Hp → VK → Prop := fun xs H Q => ∃ i j, xs = [.int i, .int j] ∧ Q (.int (if j > i then j else i)) H
def rMin2 : List V → Hp → VK → Prop := fun xs H Q => ∃ i j, xs = [.int i, .int j] ∧ Q (.int (if j < i then j else i)) H
def rLenQ (K : PySem.W.Frag) : List V → Hp → VK → Prop := fun xs H Q => ∃ p ys, xs = [.ref p] ∧ (SqL K H p ys ∨ SqT K H p ys) ∧ Q (.int ys.length) H
def rLenZ : List V → Hp → VK → Prop := fun xs H Q => ∃ z : Str, xs = [.str z] ∧ z.length ≤ sizeLine ∧ Q (.int z.length) H
def rListQ (K : PySem.W.Frag) : List V → Hp → VK → Prop := fun xs H Q => ∃ p ys, xs = [.ref p] ∧ (SqL K H p ys ∨ SqT K H p ys) ∧ ∀ l, H l = none → Q (.ref l) (upd H l (.lst ys))
def rTupQ (K : PySem.W.Frag) : List V → Hp → VK → Prop := fun xs H Q => ∃ p ys, xs = [.ref p] ∧ ((SqL K H p ys ∧ ∀ l, H l = none → Q (.ref l) (upd H l (.tup ys))) ∨ (SqT K H p ys ∧ Q (.ref p) H))
def rAddZ : R2 := fun x y H Q => ∃ i j, x = .str i ∧ y = .str j ∧ i.length + j.length ≤ sizeLine ∧ Q (.str (i ++ j)) H
section
variable {X : Cx}
theorem call_int : CallR X (.type "int") rInt1 := call_int1
theorem call_strI : CallR X (.type "str") rStrI := call_str_int
theorem call_max2 (hc : X.calm = true) : CallR X (.builtin "max") rMax2 := L2.call_max2 hc
theorem call_min2 (hc : X.calm = true) : CallR X (.builtin "min") rMin2 := L2.call_min2 hc
theorem call_len : CallR X (.builtin "len") (rLenQ X.K) := call_len_seq
theorem call_lenS : CallR X (.builtin "len") rLenZ := call_len_str
theorem call_list : CallR X (.type "list") (rListQ X.K) := call_list_of
theorem call_tuple : CallR X (.type "tuple") (rTupQ X.K) := call_tuple_of
theorem op_addS : OpR X (binaryOp .Add) rAddZ := op_add_str
theorem call_isi : CallR X (.builtin "isinstance") (rIsi X.K) := L2.call_isi
def tTruV (K : PySem.W.Frag) (ta : TE) : TT := fun σ H Q => ta σ H fun x H' => ∃ k, TruV K x H' k ∧ Q k H'
theorem pt_tru {a : Expr} {ta : TE} (ha : PE X a ta) (he : ∀ whole, isTrue a X.env whole = (do let v ← whole; standAt a.pos; holding [v] (truthy v)) := by intro _; rfl) : PT X a (tTruV X.K ta) := pt_truth ha he
end
/-! ### steps of a reading -/
section
variable {σ : St} {H : Hp} {Q : VK} {i : Nat} {v x y : V} {ta tb tc te : TE} {t u : TT} {r r' : R2} {tr tl : TA} {K : PySem.W.Frag}
theorem x_var (h : σ[i]? = some (some v)) (k : Q v H) : tVar i σ H Q := ⟨v, h, k⟩
theorem x_c (k : Q v H) : tC v σ H Q := k
theorem x_op (k : ta σ H fun x H1 => tb σ H1 fun y H2 => r x y H2 Q) : tOp r ta tb σ H Q := k
theorem x_un {r : V → Hp → VK → Prop} (k : ta σ H fun x H1 => r x H1 Q) : tUn r ta σ H Q := k
theorem x_rI0 {g : Int → Int → V} {a b : Int} (k : Q (g a b) H) : rI0 g (.int a) (.int b) H Q := ⟨a, b, rfl, rfl, k⟩
theorem x_rI {C : Int → Int → Prop} {g : Int → Int → V} {a b : Int} (c : C a b) (k : Q (g a b) H) : rI C g (.int a) (.int b) H Q := ⟨a, b, rfl, rfl, c, k⟩
theorem x_rU {g : Int → V} {a : Int} (k : Q (g a) H) : rU g (.int a) H Q := ⟨a, rfl, k⟩
theorem x_eqI {a b : Int} (k : Q (.bl (decide (a = b))) H) : rEq (.int a) (.int b) H Q := ⟨rfl, by
  have e : decide (V.int a = V.int b) = decide (a = b) := by
    by_cases h : a = b
    · subst h; simp
    · rw [decide_eq_false h, decide_eq_false (fun q => h (V.int.inj q))]
  rw [e]; exact k⟩
theorem x_neI {a b : Int} (k : Q (.bl (decide (a ≠ b))) H) : rNe (.int a) (.int b) H Q := ⟨rfl, by
  have e : (!decide (V.int a = V.int b)) = decide (a ≠ b) := by
    by_cases h : a = b
    · subst h; simp
    · rw [decide_eq_false (fun q => h (V.int.inj q)), decide_eq_true h]; rfl
  rw [e]; exact k⟩
theorem x_eqS {a b : Str} (k : Q (.bl (decide (a = b))) H) : rEq (.str a) (.str b) H Q := ⟨rfl, by
  have e : decide (V.str a = V.str b) = decide (a = b) := by
    by_cases h : a = b
    · subst h; simp
    · rw [decide_eq_false h, decide_eq_false (fun q => h (V.str.inj q))]
  rw [e]; exact k⟩
theorem x_neS {a b : Str} (k : Q (.bl (decide (a ≠ b))) H) : rNe (.str a) (.str b) H Q := ⟨rfl, by
  have e : (!decide (V.str a = V.str b)) = decide (a ≠ b) := by
    by_cases h : a = b
    · subst h; simp
    · rw [decide_eq_false (fun q => h (V.str.inj q)), decide_eq_true h]; rfl
  rw [e]; exact k⟩
theorem x_eqB {a b : Bool} (k : Q (.bl (decide (a = b))) H) : rEq (.bl a) (.bl b) H Q := ⟨rfl, by
  have e : decide (V.bl a = V.bl b) = decide (a = b) := by cases a <;> cases b <;> rfl
  rw [e]; exact k⟩
theorem x_neB {a b : Bool} (k : Q (.bl (decide (a ≠ b))) H) : rNe (.bl a) (.bl b) H Q := ⟨rfl, by
  have e : (!decide (V.bl a = V.bl b)) = decide (a ≠ b) := by cases a <;> cases b <;> rfl
  rw [e]; exact k⟩
/-- a value that is to be a bool -/
def isB (x : V) (H : Hp) (Q : Bool → Hp → Prop) : Prop := ∃ k, x = .bl k ∧ Q k H
theorem x_isB {b : Bool} {Q : Bool → Hp → Prop} (k : Q b H) : isB (.bl b) H Q := ⟨b, rfl, k⟩
theorem x_test {Q : Bool → Hp → Prop} (k : te σ H fun x H1 => isB x H1 Q) : tTest te σ H Q := k
theorem x_tB {Q : Bool → Hp → Prop} (k : te σ H fun x H1 => isB x H1 Q) : tB te σ H Q := k
theorem x_not {Q : Bool → Hp → Prop} (k : t σ H fun c H1 => Q (!c) H1) : tNot t σ H Q := k
/-- two ways -/
def ifB (b : Bool) (A B : Prop) : Prop := if b = true then A else B
theorem x_ifT {A B : Prop} (k : A) : ifB true A B := by unfold ifB; rw [if_pos rfl]; exact k
theorem x_ifF {A B : Prop} (k : B) : ifB false A B := by unfold ifB; rw [if_neg Bool.false_ne_true]; exact k
theorem x_if {b : Bool} {A B : Prop} (h1 : b = true → A) (h2 : b = false → B) : ifB b A B := by
  cases b with
  | true => exact x_ifT (h1 rfl)
  | false => exact x_ifF (h2 rfl)
theorem x_ifD {p : Prop} [Decidable p] {A B : Prop} (h1 : p → A) (h2 : ¬ p → B) : ifB (decide p) A B := x_if (fun h => h1 (of_decide_eq_true h)) fun h => h2 (of_decide_eq_false h)
theorem x_ifN {p : Prop} [Decidable p] {A B : Prop} (h1 : ¬ p → A) (h2 : p → B) : ifB (!decide p) A B := x_if (fun h => h1 (of_decide_eq_false (by simpa using h))) fun h => h2 (of_decide_eq_true (by simpa using h))
theorem x_ifNB {b : Bool} {A B : Prop} (k : ifB b B A) : ifB (!b) A B := by
  cases b with
  | true => exact k
  | false => exact k
theorem x_ifTD {p : Prop} [Decidable p] {A B : Prop} (h : p) (k : A) : ifB (decide p) A B := by rw [decide_eq_true h]; exact x_ifT k
theorem x_ifFD {p : Prop} [Decidable p] {A B : Prop} (h : ¬ p) (k : B) : ifB (decide p) A B := by rw [decide_eq_false h]; exact x_ifF k
theorem x_and {Q : Bool → Hp → Prop} (k : t σ H fun c H1 => ifB c (u σ H1 Q) (Q false H1)) : tAnd t u σ H Q := k
theorem x_or {Q : Bool → Hp → Prop} (k : t σ H fun c H1 => ifB c (Q true H1) (u σ H1 Q)) : tOr t u σ H Q := k
theorem x_andV (k : ta σ H fun x H1 => isB x H1 fun c H1 => ifB c (tb σ H1 Q) (Q (.bl false) H1)) : tAndV ta tb σ H Q := k
theorem x_orV (k : ta σ H fun x H1 => isB x H1 fun c H1 => ifB c (Q (.bl true) H1) (tb σ H1 Q)) : tOrV ta tb σ H Q := k
theorem x_notV (k : ta σ H fun x H1 => isB x H1 fun c H1 => Q (.bl (!c)) H1) : tNotV ta σ H Q := k
theorem x_ifE (k : t σ H fun c H1 => ifB c (ta σ H1 Q) (tb σ H1 Q)) : tIf t ta tb σ H Q := k
theorem x_chain (k : ta σ H fun x H1 => tb σ H1 fun y H2 => r x y H2 fun z H3 => isB z H3 fun c H3 => ifB c (tc σ H3 fun w H4 => r' y w H4 Q) (Q (.bl false) H3)) : tChain r r' ta tb tc σ H Q := by
  unfold tChain
  exact k
theorem x_isN (k : Q (.bl (decide (x = .non))) H) : rIsN x .non H Q := ⟨rfl, k⟩
theorem x_notN (k : Q (.bl (!decide (x = .non))) H) : rNotN x .non H Q := ⟨rfl, k⟩
theorem x_nil {Q : List V → Hp → Prop} (k : Q [] H) : tNil σ H Q := k
theorem x_cons {Q : List V → Hp → Prop} (k : te σ H fun x H1 => tr σ H1 fun xs H2 => Q (x :: xs) H2) : tCons te tr σ H Q := k
theorem x_call {sp : Sp} {E : XK} (k : tr σ H fun vs H1 => sp vs H1 Q E) : tCall sp [] E tr σ H Q := by
  show tr σ H fun vs H1 => sp (vs ++ []) H1 Q E
  have e : (fun (vs : List V) (H1 : Hp) => sp (vs ++ []) H1 Q E) = fun vs H1 => sp vs H1 Q E := by
    funext vs H1
    rw [List.append_nil]
  rw [e]
  exact k
theorem x_callB {r : List V → Hp → VK → Prop} (k : tr σ H fun vs H1 => r vs H1 Q) : tCB r tr σ H Q := k
theorem x_int {a : Int} (k : Q (.int a) H) : rInt1 [.int a] H Q := Or.inl ⟨a, rfl, k⟩
theorem x_intB {b : Bool} (k : Q (.int (if b then 1 else 0)) H) : rInt1 [.bl b] H Q := Or.inr ⟨b, rfl, k⟩
theorem x_max2 {a b : Int} (k : Q (.int (if b > a then b else a)) H) : rMax2 [.int a, .int b] H Q := ⟨a, b, rfl, k⟩
theorem x_min2 {a b : Int} (k : Q (.int (if b < a then b else a)) H) : rMin2 [.int a, .int b] H Q := ⟨a, b, rfl, k⟩
theorem x_lenL {p : Addr} {ys : List V} (h : SqL K H p ys) (k : Q (.int ys.length) H) : rLenQ K [.ref p] H Q := ⟨p, ys, rfl, .inl h, k⟩
theorem x_lenT {p : Addr} {ys : List V} (h : SqT K H p ys) (k : Q (.int ys.length) H) : rLenQ K [.ref p] H Q := ⟨p, ys, rfl, .inr h, k⟩
theorem x_lenZ {z : Str} (h : z.length ≤ sizeLine) (k : Q (.int z.length) H) : rLenZ [.str z] H Q := ⟨z, rfl, h, k⟩
theorem x_ixL {p : Addr} {xs : List V} {j : Int} (h : SqL K H p xs) (ha : atI xs j = some v) (k : Q v H) : rIxL K (.ref p) (.int j) H Q := ⟨p, xs, j, v, rfl, rfl, h, ha, k⟩
theorem x_ixT {p : Addr} {xs : List V} {j : Int} (h : SqT K H p xs) (ha : atI xs j = some v) (k : Q v H) : rIxT K (.ref p) (.int j) H Q := ⟨p, xs, j, v, rfl, rfl, h, ha, k⟩
/-! new objects: the heap behind is a letter -/
theorem x_lst (k : tr σ H fun xs H1 => xs.length ≤ sizeLine ∧ ∀ p H2, H1 p = none → Same H1 H2 → H2 p = some (.lst xs) → Q (.ref p) H2) (mono : ∀ (Q Q' : List V → Hp → Prop), (∀ xs H1, Q xs H1 → Q' xs H1) → tr σ H Q → tr σ H Q') : tLst tr σ H Q :=
  mono _ _ (fun xs H1 ⟨h1, h2⟩ => ⟨h1, fun p hp => h2 p _ hp (fun b o e => by rw [upd_ne (ne_of_none e hp)]; exact e) upd_same⟩) k
end
theorem same_new {H : Hp} {p : Addr} {o : HO} (hp : H p = none) : Same H (upd H p o) := fun b u e => by rw [upd_ne (ne_of_none e hp)]; exact e
/-- a new list from values at hand -/
def NewL (xs : List V) (H : Hp) (Q : VK) : Prop := xs.length ≤ sizeLine ∧ ∀ p, H p = none → Q (.ref p) (upd H p (.lst xs))
def NewT (xs : List V) (H : Hp) (Q : VK) : Prop := xs.length ≤ sizeLine ∧ ∀ p, H p = none → Q (.ref p) (upd H p (.tup xs))
section
variable {σ : St} {H : Hp} {Q : VK} {i : Nat} {v x y : V} {ta tb tc te : TE} {t u : TT} {tr tl : TA} {K : PySem.W.Frag} {nx bk ct : St → Hp → Prop} {rt : VK} {ts tu : TS} {g : TG}
theorem x_lst' (k : tr σ H fun xs H1 => NewL xs H1 Q) : tLst tr σ H Q := k
theorem x_tup' (k : tr σ H fun xs H1 => NewT xs H1 Q) : tTup tr σ H Q := k
theorem x_newL {xs : List V} (h : xs.length ≤ sizeLine) (k : ∀ p H2, H p = none → Same H H2 → H2 p = some (.lst xs) → Q (.ref p) H2) : NewL xs H Q := ⟨h, fun p hp => k p _ hp (same_new hp) upd_same⟩
theorem x_newT {xs : List V} (h : xs.length ≤ sizeLine) (k : ∀ p H2, H p = none → Same H H2 → H2 p = some (.tup xs) → Q (.ref p) H2) : NewT xs H Q := ⟨h, fun p hp => k p _ hp (same_new hp) upd_same⟩
theorem x_listL {p : Addr} {ys : List V} (h : SqL K H p ys) (k : ∀ q H2, H q = none → Same H H2 → H2 q = some (.lst ys) → Q (.ref q) H2) : rListQ K [.ref p] H Q := ⟨p, ys, rfl, .inl h, fun q hq => k q _ hq (same_new hq) upd_same⟩
theorem x_listT {p : Addr} {ys : List V} (h : SqT K H p ys) (k : ∀ q H2, H q = none → Same H H2 → H2 q = some (.lst ys) → Q (.ref q) H2) : rListQ K [.ref p] H Q := ⟨p, ys, rfl, .inr h, fun q hq => k q _ hq (same_new hq) upd_same⟩
theorem x_cat {p q : Addr} {xs ys : List V} (h1 : H p = some (.lst xs)) (h2 : H q = some (.lst ys)) (hl : xs.length + ys.length ≤ sizeLine) (k : ∀ l H2, H l = none → Same H H2 → H2 l = some (.lst (xs ++ ys)) → Q (.ref l) H2) : rCat (.ref p) (.ref q) H Q :=
  ⟨p, q, xs, ys, rfl, rfl, h1, h2, hl, fun l hl => k l _ hl (same_new hl) upd_same⟩
/-! statements -/
theorem x_seq (k : ts ⟨tu ⟨nx, rt, bk, ct⟩, rt, bk, ct⟩ σ H) : tSeq ts tu ⟨nx, rt, bk, ct⟩ σ H := k
theorem x_next (k : nx σ H) : tNext ⟨nx, rt, bk, ct⟩ σ H := k
theorem x_brk (k : bk σ H) : tBreak ⟨nx, rt, bk, ct⟩ σ H := k
theorem x_cont (k : ct σ H) : tCont ⟨nx, rt, bk, ct⟩ σ H := k
theorem x_drop (k : te σ H fun _ H1 => nx σ H1) : tDrop te ⟨nx, rt, bk, ct⟩ σ H := k
theorem x_ret (k : te σ H rt) : tRet te ⟨nx, rt, bk, ct⟩ σ H := k
theorem x_retN (k : rt .non H) : tRetN ⟨nx, rt, bk, ct⟩ σ H := k
theorem x_ifS (k : t σ H fun c H1 => ifB c (ts ⟨nx, rt, bk, ct⟩ σ H1) (tu ⟨nx, rt, bk, ct⟩ σ H1)) : tIfS t ts tu ⟨nx, rt, bk, ct⟩ σ H := k
theorem x_asg (k : te σ H fun x H1 => g x σ H1 nx) : tAsg te g ⟨nx, rt, bk, ct⟩ σ H := k
theorem x_gname {Q : St → Hp → Prop} (k : Q (σ.set i (some x)) H) : gName i x σ H Q := k
end
theorem same_l {K : PySem.W.Frag} {H H' : Hp} {a : Addr} {xs : List V} (e : Same H H') (h : SqL K H a xs) : SqL K H' a xs := e.seq h
end M
namespace M
open PySem PySem.Spec PyProof.Rows L2
section
variable {P : Program} {w : World} {K : PySem.W.Frag} {mg : Str → Option Value} {base : Heap}
/-- a def of the module that lets nothing out -/
theorem cal_mk {x : Str} {st : Stmt} {f : Addr} {N ps : List Str} {k : Nat} {sp : Sp} (F : ∃ fd, FunD K x x (defArgs st) (defBody st) (defScope st) [] [] f fd) (hm : mg x = some (.ref f)) (S : FnScope N ps (defScope st))
    (hb : ∀ (kV doc pm : Value) (an : Option Addr) (cdv ct : Value) (us : List Value), us.length = ps.length → bindArgs (PySem.W.fnOf x x (defArgs st) (defBody st) (defScope st) .none kV doc pm an cdv ct) ⟨us, []⟩ = pure (ps.zip us))
    (len : ∀ vs H Q E, sp vs H Q E → vs.length = ps.length)
    (hbody : ∀ (cdv : Value) (A : Around) (outer : List Env) (s : Shared) (H : Hp) (vs : List V) (Q : VK) (E : XK), Room k (A.deeper (envOfC x (defScope st) s.heap.objs.size f cdv)) → sp vs H Q E →
      ∃ t, PSs (cxOf CX0 P w K mg base N x (defScope st) f cdv A outer s H E).nox (defBody st) t ∧ t ⟨fun _ H' => Q .non H', Q, fun _ _ => False, fun _ _ => False⟩ (start N vs) H) : C8.Cal P w K mg base (k + 1) x sp [] := by
  obtain ⟨fd, F⟩ := F
  refine ⟨f, fd, ps, [], F.ok S len fun cdv A outer s H vs Q E hr h => ?_, hm, F.kp, F.bindsN hb, .nil⟩
  obtain ⟨t, h1, h2⟩ := hbody cdv A outer s H vs Q E hr h
  exact ⟨t, h1.nox, h2⟩
end
end M
namespace M
open PySem PySem.Spec PyProof.Rows L2
section
variable {K : PySem.W.Frag} {h : Heap} {mg : Str → Option Value}
theorem gc_int (X : K.In h) (G : h.Ns mainGlobals mg) {x : Str} {i : Int} (c : (He.Fa.int x i).ok K = true) : ∃ u, mg x = some u ∧ RelV (.int i) u := by
  obtain ⟨t, e⟩ := He.int_ok X G c
  exact ⟨_, e, t, rfl⟩
theorem gc_str (X : K.In h) (G : h.Ns mainGlobals mg) {x z : Str} (c : (He.Fa.str x z).ok K = true) : ∃ u, mg x = some u ∧ RelV (.str z) u := by
  obtain ⟨t, e⟩ := He.str_ok X G c
  exact ⟨_, e, t, rfl⟩
theorem ex_at {l : List (PySem.W.Frag → Bool)} (c : (l.all fun f => f K) = true) (i : Nat) {f : PySem.W.Frag → Bool} (e : l[i]? = some f) : f K = true := List.all_eq_true.mp c f (List.mem_of_getElem? e)
end
/-- the end of a law over a head by facts; the script's bits told -/
theorem walk_end {l : PySem.W.OpenLaw} {n k : Nat} {q : Program} {loose : List Str} {XP : (Str → Option Value) → Heap → Prop} {YP : World → Heap → Prop} {d : DefRec} {CX : World → CXT} {x : Str}
    (hn : l.most = some n) (hn2 : n ≤ sizeLine) (hdf : d.params.defaults = []) (hr : Room k callerA)
    (F : ∀ (w : World) (mg : Str → Option Value) (fa : Addr) (h : Heap), YP w h → h.Ns mainGlobals mg → mg d.name = some (.ref fa) →
      ∃ (K : PySem.W.Frag) (fd : FuncData) (sp : Sp), K.In h ∧ (∀ (s : Shared) (u : Value), BindsTo s fd ⟨[u], []⟩ [(x, u)]) ∧
        (∀ (H : Hp) (a : Addr) (ns : List Int), ns.length ≤ n → Only H → SqL K H a (ns.map V.int) → sp [.ref a] H (fun v _ => v = .bl true) fun _ _ _ => False) ∧
        ∀ base : Heap, K.In base → base.Ns mainGlobals mg → FnOk l.prog w K mg base (CX w) k fa fd [x] sp)
    (hCX : ∀ (w : World) (H : Hp) (s : Shared) (e : Value) (s' : Shared), CX w [] H s (fun _ _ _ => False) e s' → False) :
    PySem.W.WalkO q loose XP YP l.row.toRowW d [] (fun f vs => PySem.call f vs) := by
  refine Att.attach_call hn hdf fun w s₀ s₁ mg mb fa o pm cd doc a vs ns G Y ho hd hcd hmg hobj hints hlen hg => ?_
  obtain ⟨K, fd, sp, KX, hb, hsp, hF⟩ := F w mg fa _ Y G.T.g hmg
  exact law_call KX G.T.g G.T.b G.T.builtins G.T.nolimit hg hobj hints (Nat.le_trans hlen hn2) hr hF hb (fun H hO hS => hsp H a ns hlen hO hS) fun H e s' => hCX w H s₁ e s'
end M
namespace M
open PySem PySem.Spec PyProof.Rows L2
section
variable {K : PySem.W.Frag} {H : Hp} {Q : VK} {x : V} {b : Bool}
theorem x_isi {S T : String} (ty : TyX K H x (.type S)) (h : kitB S T = some b) (k : Q (.bl b) H) : rIsi K [x, .ty T] H Q := ⟨x, .ty T, _, _, b, rfl, .ty T, ty, kit_ty h, k⟩
theorem x_isiII {i : Int} (k : Q (.bl true) H) : rIsi K [.int i, .ty "int"] H Q := x_isi (.base (.int i)) (by decide +kernel) k
theorem x_isiIB {i : Int} (k : Q (.bl false) H) : rIsi K [.int i, .ty "bool"] H Q := x_isi (.base (.int i)) (by decide +kernel) k
theorem x_isiBB {i : Bool} (k : Q (.bl true) H) : rIsi K [.bl i, .ty "bool"] H Q := x_isi (.base (.bl i)) (by decide +kernel) k
theorem x_isiBI {i : Bool} (k : Q (.bl true) H) : rIsi K [.bl i, .ty "int"] H Q := x_isi (.base (.bl i)) (by decide +kernel) k
theorem x_isiSS {z : Str} (k : Q (.bl true) H) : rIsi K [.str z, .ty "str"] H Q := x_isi (.base (.str z)) (by decide +kernel) k
end
theorem atI_of {α : Type} {xs : List α} {i : Int} {v : α} (h0 : 0 ≤ i) (h : xs[i.toNat]? = some v) : atI xs i = some v := by
  have e := atI_nat h
  rw [Int.toNat_of_nonneg h0] at e
  exact e
theorem atI_ints {l : List Int} {i : Int} (h0 : 0 ≤ i) (h1 : i < l.length) : atI (l.map V.int) i = some (.int (l.getD i.toNat 0)) := by
  refine atI_of h0 ?_
  have hl : i.toNat < l.length := by omega
  rw [List.getElem?_map, List.getElem?_eq_getElem hl]
  simp [List.getD, hl]
theorem atI_get {α β : Type} {f : α → β} {l : List α} {i : Int} {v : α} (h0 : 0 ≤ i) (h : l[i.toNat]? = some v) : atI (l.map f) i = some (f v) := by
  refine atI_of h0 ?_
  rw [List.getElem?_map, h]
  rfl
theorem sl4 {n : Nat} (h : n ≤ 100000) : n ≤ sizeLine := by rw [sizeLine_eq]; omega
/-! a for over range(n), range(a, b) -/
section
variable {σ : St} {H : Hp} {nx bk ct : St → Hp → Prop} {rt : VK} {tb : TS} {g : TG} {ta : TA} {K : PySem.W.Frag} {tl : TE}
def rRng1 (R : It → Hp → Prop) (vs : List V) (H1 : Hp) : Prop := ∃ j : Int, vs = [.int j] ∧ -(2 ^ 62) ≤ j ∧ j < 2 ^ 62 ∧ R (Itr 0 j.toNat) H1
/-- Pv: by the turns done -/
theorem x_for1 {n : Int} (hi : ∀ Q : List V → Hp → Prop, Q [.int n] H → ta σ H Q) (h : 0 ≤ n ∧ n < 2 ^ 62) (Pv : Nat → St → Hp → Prop) (h0 : Pv 0 σ H)
    (hs : ∀ (i : Nat) σ' H', (i : Int) < n → Pv i σ' H' → g (.int (i : Int)) σ' H' fun σ2 H2 => tb ⟨Pv (i + 1), rt, nx, Pv (i + 1)⟩ σ2 H2) (hd : ∀ σ' H', Pv n.toNat σ' H' → nx σ' H') : tFor (iRng1 ta) g tb ⟨nx, rt, bk, ct⟩ σ H := by
  refine hi _ ⟨n, rfl, by omega, h.2, ?_⟩
  refine for_range (lo := 0) (n := n.toNat) (D := ⟨nx, rt, bk, ct⟩) Pv h0 (fun i σ' H' hlt hp => ?_) hd
  have e : (0 : Int) + (i : Int) = (i : Int) := Int.zero_add _
  rw [e]
  exact hs i σ' H' (by omega) hp
theorem x_for2 {lo n : Int} (hi : ∀ Q : List V → Hp → Prop, Q [.int lo, .int n] H → ta σ H Q) (h : -(2 ^ 62) ≤ lo ∧ lo < 2 ^ 62 ∧ -(2 ^ 62) ≤ n ∧ n < 2 ^ 62) (Pv : Nat → St → Hp → Prop) (h0 : Pv 0 σ H)
    (hs : ∀ (i : Nat) σ' H', lo + (i : Int) < n → Pv i σ' H' → g (.int (lo + (i : Int))) σ' H' fun σ2 H2 => tb ⟨Pv (i + 1), rt, nx, Pv (i + 1)⟩ σ2 H2) (hd : ∀ σ' H', Pv (n - lo).toNat σ' H' → nx σ' H') : tFor (iRng2 ta) g tb ⟨nx, rt, bk, ct⟩ σ H := by
  refine hi _ ⟨lo, n, rfl, h, ?_⟩
  exact for_range (lo := lo) (n := (n - lo).toNat) (D := ⟨nx, rt, bk, ct⟩) Pv h0 (fun i σ' H' hlt hp => hs i σ' H' (by omega) hp) hd
theorem x_forL {a : Addr} {xs : List V} (hi : ∀ Q : VK, Q (.ref a) H → tl σ H Q) (hx : SqL K H a xs) (Pv : Nat → St → Hp → Prop) (h0 : Pv 0 σ H) (hl : ∀ i σ' H', i ≤ xs.length → Pv i σ' H' → SqL K H' a xs)
    (hs : ∀ i x σ' H', xs[i]? = some x → Pv i σ' H' → g x σ' H' fun σ2 H2 => tb ⟨Pv (i + 1), rt, nx, Pv (i + 1)⟩ σ2 H2) (hd : ∀ σ' H', Pv xs.length σ' H' → nx σ' H') : tFor (iList K tl) g tb ⟨nx, rt, bk, ct⟩ σ H := by
  refine hi _ ⟨a, rfl, ⟨xs, hx⟩, ?_⟩
  exact for_list (K := K) (a := a) (xs := xs) (D := ⟨nx, rt, bk, ct⟩) Pv h0 hl hs hd
end
/-! [elt for x in list] -/
section
variable {σ : St} {H : Hp} {Q : VK} {K : PySem.W.Frag} {tl te : TE} {tt : TT} {g : TG} {vs : List Nat}
theorem x_lcL {a : Addr} {xs ys : List V} (hi : ∀ Q : VK, Q (.ref a) H → tl σ H Q) (hx : SqL K H a xs) (hz : xs.length ≤ 100000) (hy : ys.length = xs.length)
    (hs : ∀ (i : Nat) (x y : V) (H' : Hp), xs[i]? = some x → ys[i]? = some y → Same H H' → g x (wipe σ vs) H' fun σ2 H2 => wipe σ2 vs = wipe σ vs ∧ H2 = H' ∧ ∀ R : VK, R y H' → te σ2 H' R)
    (k : ∀ p H2, H p = none → Same H H2 → H2 p = some (.lst ys) → Q (.ref p) H2) (hg : ∀ x σ H (P P' : St → Hp → Prop), (∀ σ H, P σ H → P' σ H) → g x σ H P → g x σ H P') : tLc (iList K tl) g tYes te vs σ H Q := by
  refine hi _ ⟨a, rfl, ⟨xs, hx⟩, fun D hD => ?_⟩
  refine lc_list (K := K) (a := a) (xs := xs) (fun i H' => Same H H' ∧ H' D = some (.lst (ys.take i))) ⟨same_new hD, upd_same⟩ (fun i H' _ p => p.1.seq hx) (fun i x H' hi p => ?_) (fun H' p => ?_)
  · have hlt : i < ys.length := by rw [hy]; exact (List.getElem?_eq_some_iff.mp hi).1
    have hyi : ys[i]? = some ys[i] := List.getElem?_eq_getElem hlt
    refine hg _ _ _ _ _ (fun σ2 H2 q => ?_) (hs i x ys[i] H' hi hyi p.1)
    obtain ⟨q1, rfl, q2⟩ := q
    refine ⟨q1, ?_⟩
    refine q2 _ ⟨ys.take i, p.2, ?_, ?_, ?_⟩
    · rw [List.length_take, sizeLine_eq]; omega
    · intro b o e
      have hb : b ≠ D := ne_of_none e hD
      rw [upd_ne hb]
      exact p.1 b o e
    · rw [upd_same, ← List.take_append_getElem hlt]
  · have e : ys.take xs.length = ys := by rw [← hy]; exact List.take_length
    rw [e] at p
    exact k D H' hD p.1 p.2
end
end M
namespace M
open PySem PySem.Spec PyProof.Rows L2
section
variable {σ : St} {H : Hp} {Q : VK} {K : PySem.W.Frag} {ta : TE} {nx bk ct : St → Hp → Prop} {rt : VK} {ts tu : TS}
/-- truth of a value -/
def isTru (K : PySem.W.Frag) (x : V) (H : Hp) (Q : Bool → Hp → Prop) : Prop := ∃ k, TruV K x H k ∧ Q k H
theorem x_truV {Q : Bool → Hp → Prop} (k : ta σ H fun x H1 => isTru K x H1 Q) : tTruV K ta σ H Q := k
theorem x_truL {Q : Bool → Hp → Prop} {p : Addr} {xs : List V} (h : SqL K H p xs) (k : Q (!xs.isEmpty) H) : isTru K (.ref p) H Q := ⟨_, .inl ⟨xs, h, rfl⟩, k⟩
theorem x_truT {Q : Bool → Hp → Prop} {p : Addr} {xs : List V} (h : SqT K H p xs) (k : Q (!xs.isEmpty) H) : isTru K (.ref p) H Q := ⟨_, .inr (.inl ⟨xs, h, rfl⟩), k⟩
theorem x_truI {Q : Bool → Hp → Prop} {i : Int} (k : Q (decide (i ≠ 0)) H) : isTru K (.int i) H Q := ⟨_, rfl, by
  have e : (i != 0) = decide (i ≠ 0) := by
    by_cases h : i = 0
    · subst h; rfl
    · rw [decide_eq_true h]; simpa using h
  rw [e]; exact k⟩
theorem x_cut (Md : St → Hp → Prop) (h : ts ⟨Md, rt, bk, ct⟩ σ H) (k : ∀ σ' H', Md σ' H' → tu ⟨nx, rt, bk, ct⟩ σ' H') : C8.tCut ts tu ⟨nx, rt, bk, ct⟩ σ H := ⟨Md, h, k⟩
theorem x_isBl {a b : Bool} (k : Q (.bl (decide (a = b))) H) : rIsB (.bl a) (.bl b) H Q := ⟨a, b, rfl, rfl, k⟩
theorem x_notBl {a b : Bool} (k : Q (.bl (!decide (a = b))) H) : rNotB (.bl a) (.bl b) H Q := ⟨a, b, rfl, rfl, k⟩
end
theorem gName_mono {i : Nat} (x : V) (σ : St) (H : Hp) (P P' : St → Hp → Prop) (h : ∀ σ H, P σ H → P' σ H) (q : gName i x σ H P) : gName i x σ H P' := h _ _ q
theorem Same.st {K : PySem.W.Frag} {H H' : Hp} {a : Addr} {xs : List V} (e : Same H H') (h : SqT K H a xs) : SqT K H' a xs := by
  rcases h with (h | ⟨o, h⟩) | h
  · exact .inl (.inl (e _ _ h))
  · exact .inl (.inr ⟨o, e _ _ h⟩)
  · exact .inr h
end M
namespace M
open PySem PySem.Spec PyProof.Rows L2
theorem map_int_get {ns : List Int} {i : Nat} {x : V} (h : (ns.map V.int)[i]? = some x) : ∃ z, ns[i]? = some z ∧ x = .int z := by
  rw [List.getElem?_map] at h
  cases e : ns[i]? with
  | none => rw [e] at h; cases h
  | some z => rw [e] at h; exact ⟨z, rfl, (Option.some.inj h).symm⟩
/-- cells = [int(cell) for cell in script] -/
def cellsOf (d : List Int) (ns : List Int) : List Int := if ns = [] then d else ns
theorem same_hp {H H' : Hp} {a : Addr} {o : HO} (e : Same H H') (h : H a = some o) : H' a = some o := e a o h
theorem x_cut0 {σ : St} {H : Hp} {nx bk ct : St → Hp → Prop} {rt : VK} {ts tu : TS} (h : ts ⟨fun σ' H' => σ' = σ ∧ H' = H, rt, bk, ct⟩ σ H) (k : tu ⟨nx, rt, bk, ct⟩ σ H) : C8.tCut ts tu ⟨nx, rt, bk, ct⟩ σ H :=
  ⟨fun σ' H' => σ' = σ ∧ H' = H, h, fun σ' H' ⟨e1, e2⟩ => by rw [e1, e2]; exact k⟩
/-- the law's def -/
theorem fn_mk {P : Program} {w : World} {K : PySem.W.Frag} {mg : Str → Option Value} {base : Heap} {x : Str} {st : Stmt} {f : Addr} {fd : FuncData} {N ps : List Str} {k : Nat} {sp : Sp} (F : FunD K x x (defArgs st) (defBody st) (defScope st) [] [] f fd) (S : FnScope N ps (defScope st))
    (len : ∀ vs H Q E, sp vs H Q E → vs.length = ps.length)
    (hbody : ∀ (cdv : Value) (A : Around) (outer : List Env) (s : Shared) (H : Hp) (vs : List V) (Q : VK) (E : XK), Room k (A.deeper (envOfC x (defScope st) s.heap.objs.size f cdv)) → sp vs H Q E →
      ∃ t, PSs (cxOf CX0 P w K mg base N x (defScope st) f cdv A outer s H E).nox (defBody st) t ∧ t ⟨fun _ H' => Q .non H', Q, fun _ _ => False, fun _ _ => False⟩ (start N vs) H) : FnOk P w K mg base CX0 (k + 1) f fd ps sp :=
  F.ok S len fun cdv A outer s H vs Q E hr h => by
    obtain ⟨t, h1, h2⟩ := hbody cdv A outer s H vs Q E hr h
    exact ⟨t, h1.nox, h2⟩
end M
namespace XM
open PySem PySem.W PySem.Calls PyProof.Rows PySem.HandSPX
/-! ## exceptions of the program's own: class C(M), M(ValueError), __init__(self, f, ..): super().__init__(text); self.f = f .. -/
/-- a value that str() takes -/
def Txtable (v : Value) : Prop := (∃ i t, v = .int i t ∧ i.natAbs < 1000000000) ∨ (∃ z t, v = .str z t ∧ z.length ≤ 1000)
section
variable {prog : Program} {w : World} {A : Around} {E : Value → Shared → Prop} {s : Shared}
theorem toStr_len {i : Int} (h : i.natAbs < 1000000000) : (PySem.Str.ofString (toString i)).length ≤ 1000 := by
  by_cases h0 : 0 ≤ i
  · exact Nat.le_trans (toString_length_le (k := 10) h0 (by decide) (by omega)) (by decide)
  · obtain ⟨n, rfl⟩ : ∃ n : Nat, i = -((n + 1 : Nat) : Int) := ⟨i.natAbs - 1, by omega⟩
    have e : toString (-((n + 1 : Nat) : Int)) = "-" ++ toString ((n + 1 : Nat) : Int) := rfl
    rw [e]
    have z := toString_length_le (k := 10) (v := ((n + 1 : Nat) : Int)) (by omega) (by decide) (by omega)
    rw [PySem.ofString_length] at z ⊢
    rw [String.length_append]
    have e1 : ("-" : String).length = 1 := by decide
    omega
theorem log2_lt {i : Int} (h : i.natAbs < 1000000000) : i.natAbs.log2 < 1920 := by
  have h2 : i.natAbs < 2 ^ 30 := by omega
  exact Nat.lt_of_lt_of_le (PySem.Flt.log2_lt_of (by decide) h2) (by decide)
/-- what an expression of texts gives -/
def EvT (prog : Program) (w : World) (A : Around) (env : Env) (n : Nat) (e : PySem.Expr) (h : Heap) : Prop :=
  ∀ (g : Array GenState) (d : Drawn) (t : Nat) (os : OsState) (h' : Heap) (E : Value → Shared → Prop) (Q : Value → Shared → Prop), (∀ b o, h.get? b = some o → h'.get? b = some o) →
    (∀ z tk t', z.length ≤ n → Q (.str z tk) ⟨h', g, d, t', os⟩) → wpAny (model prog w) A (eval e env) Q E ⟨h', g, d, t, os⟩
variable {env : Env} {h : Heap} {m : Str → Option Value}
theorem evT_c {z : Str} {j : Nat} {pos : Pos} {n : Nat} (hn : z.length ≤ n) : EvT prog w A env n (.Constant (.str z) j pos) h := fun g d t os h' E Q _ q => Calls.Constant_str (q z _ _ hn)
theorem evT_add {a b : PySem.Expr} {pos : Pos} {n k l : Nat} (ha : EvT prog w A env n a h) (hb : EvT prog w A env k b h) (hl : n + k ≤ l) (hs : l ≤ sizeLine) : EvT prog w A env l (.BinOp a .Add b pos) h := fun g d t os h' E Q kp q => by
  refine wpAny_BinOp (ha g d t os h' _ _ kp fun z tk t1 hz => hb g d t1 os h' _ _ kp fun y tk2 t2 hy => ?_)
  have e : (z ++ y).length = z.length + y.length := PySem.Str.length_append z y
  exact PyProof.Rows.add_str (fun t' tk => q _ _ _ (by omega)) (by omega)
/-- what the modules' names are -/
structure Glb (h : Heap) : Prop where
  ex : ∃ mg mb, h.Ns mainGlobals mg ∧ h.Ns builtinsNs mb ∧ mg "str" = none ∧ mg "super" = none ∧ mb "str" = some (.type "str") ∧ mb "super" = some (.type "super")
theorem Glb.keeps {h h' : Heap} (G : Glb h) (k : ∀ b o, h.get? b = some o → h'.get? b = some o) : Glb h' := by
  obtain ⟨mg, mb, a, b, r⟩ := G.ex
  exact ⟨mg, mb, a.keeps k, b.keeps k, r⟩
theorem evT_str {x : Str} {p1 p2 pos : Pos} {v : Value} {n : Nat} (G : Glb h) (hn : h.Ns env.locals m) (hv : m x = some v) (tv : Txtable v) (hg : env.globals = mainGlobals) (hb : env.builtins = builtinsNs) (hk : env.scope.kind = .function) (hx : env.kindOf "str" = some .globalImplicit) (hl : env.kindOf x = some .local)
    (hd : (x == ("__debug__" : Str)) = false) (h1000 : 1000 ≤ n) (hs : starEach [.Name x p2] env = (false, eval (.Name x p2) env) :: starEach [] env := by rfl) (hpl : (backTo pos (starEach [] env)).any (·.1) = false := by rfl) : EvT prog w A env n (.Call (.Name "str" p1) [.Name x p2] [] pos) h := fun g d t os h' E Q kp q => by
  obtain ⟨mg, mb, a, b, e1, e2, e3, e4⟩ := (G.keeps kp).ex
  refine wpAny_Call_Name_kw (Calls.Name_function_global hk hx (Calls.loadGlobal_builtin (by rw [hg]; exact a) e1 (by rw [hb]; exact b) e3 ?_))
  refine PyProof.Rows.callWith_type1 ?_ hs hpl
  rw [hs]
  show wpAny _ _ (spliced ((false, eval (.Name x p2) env) :: backTo pos (starEach [] env))) _ _ _
  refine Calls.spliced_cons (wpAny_Name (wpAny_loadName_local hk hl (hn.keeps kp) hv ?_) hd)
  refine Calls.spliced_nil ?_
  rcases tv with ⟨i, tk, rfl, hi⟩ | ⟨z, tk, rfl, hz⟩
  · exact PySem.P.str_of_int (log2_lt hi) (q _ _ _ (Nat.le_trans (toStr_len hi) h1000))
  · exact PySem.P.str_of_str (q _ _ _ (Nat.le_trans hz h1000))
end
/-- what the written part says of such a class: C itself, its __init__ at fI, the code at cda, the cell at cc -/
structure ExcT (prog : Program) (K : Frag) (C fI : Addr) (qual : Str) (params : Arguments) (body : List Stmt) (scope : Scope) (fs : List Str) : Prop where
  cls : ∃ nm q N bs bm sn sub ab col dd k0 k1 k2 k3 k5, K.lookup C = some (excClassObj nm q C N bs bm true sn sub ab col dd k0 k1 k2 k3 k5 "ValueError.__new__") ∧ refsVE bm = true
  sup : ks_superIn K C C "__init__" = some (some (.builtin "ValueError.__init__"))
  sVE : subIn K (.ref C) (.type "ValueError") = some true
  sCC : mroIn K C (.ref C) = some true
  sa : findIn K (.ref C) "__setattr__" = some (some (.builtin "object.__setattr__"))
  noN : ∀ f ∈ fs, findIn K (.ref C) f = some none
  iC : findIn K (.ref C) "__init__" = some (some (.ref fI))
  tI : typeIn K (.ref fI) = some (.type "function")
  kC : keepIn K (.ref C) = true
  exC : subIn K (.ref C) (.type "BaseException") = some true
  tyC : typeIn K (.ref C) = some (.type "type")
  tp : nsIn K cStatics "thirdparty.any" = some none
  fn : ∃ (oc : Value) (od : Option Addr) (doc pm : Value) (an : Option Addr) (cda cc : Addr) (ct : Value) (osl : Array (Option Value)) (oa : Obj) (vs : Array Value) (file : Str) (tf : Tok) (ob : Obj),
    K.lookup fI = some ⟨oc, od, .func (ksFn "__init__" qual params body scope .none .none doc pm an (.ref cda) ct cc), osl⟩ ∧ codeIn K (.ref cda) qual = true ∧
    K.lookup cda = some oa ∧ oa.data = .fields vs ∧ vs[2]? = some (.str file tf) ∧ (prog.main.file == file) = true ∧ K.lookup cc = some ob ∧ ob.data = .cell (some (.ref C))
section
variable {prog : Program} {w : World} {A : Around} {E : Value → Shared → Prop} {K : Frag} {C fI : Addr} {qual : Str} {params : Arguments} {body : List Stmt} {scope : Scope} {fs : List Str}
/-- what excClassObj says, as class data -/
theorem ExcT.cd (T : ExcT prog K C fI qual params body scope fs) : ∃ cd, clsIn K C = some cd ∧ refsVE cd.mro = true ∧ cd.hasDict = true ∧ ∃ oC, K.lookup C = some oC ∧ oC.data = .cls cd := by
  obtain ⟨nm, q, N, bs, bm, sn, sub, ab, col, dd, k0, k1, k2, k3, k5, hC, hbm⟩ := T.cls
  refine ⟨{ name := nm, bases := bs, mro := .ref C :: bm, ns := N, qualname := q, hasDict := true, slotNames := sn, subclasses := sub, abstract := ab, collection := col, hasDel := false }, ?_, hbm, rfl, _, hC, rfl⟩
  unfold clsIn
  rw [hC] <;> rfl
theorem super_init {bd : List Stmt} {L x t0 cda cc : Addr} {h : Heap} {g : Array GenState} {d : Drawn} {t : Nat} {os : OsState} {p0 p1 p2 p3 p4 : Pos} {e : PySem.Expr} {n : Nat} {m : Str → Option Value} {Q : Flow → Shared → Prop} {ar : Arg} {of oa ob : Obj} {fd : FuncData} {vs : Array Value} {file : Str} {tf : Tok}
    (T : ExcT prog K C fI qual params body scope fs) (X : K.In h) (G : Glb h) (hf : h.get? fI = some of) (hfd : of.data = .func fd) (hp : (fd.params.posonlyargs ++ fd.params.args).head? = some ar) (har : m ar.arg = some (.ref x))
    (hn : h.Ns L m) (hx : h.get? x = some (excO C t0)) (hnx : K.lookup x = none)
    (hcc : h.get? cda = some oa) (hoc : oa.data = .fields vs) (hvs : vs[2]? = some (.str file tf)) (hfile : (prog.main.file == file) = true) (hcell : h.get? cc = some ob) (hcv : ob.data = .cell (some (.ref C)))
    (htop : (prog.main.scope.names.lookup ("super" : Str)).isSome = false)
    (hks : scope.names.lookup ("super" : Str) = some .globalImplicit) (hkc : scope.names.lookup ("__class__" : Str) = some .free) (hka : scope.names.lookup ar.arg = some .local) (hk : scope.kind = .function)
    (he : EvT prog w A (ksEnv qual scope L fI (.ref cda) cc) n e h)
    (hev : ∃ pl : Sem Bool, eval (.Call (.Attribute (.Call (.Name "super" p0) [] [] p1) "__init__" p2) [e] [] p3) (ksEnv qual scope L fI (.ref cda) cc) = (do
      let ov ← attributeBase (.Call (.Name "super" p0) [] [] p1) "__init__" (ksEnv qual scope L fI (.ref cda) cc) (eval (.Call (.Name "super" p0) [] [] p1) (ksEnv qual scope L fI (.ref cda) cc))
      standAt p2.atName
      let (f, first) ← holding [ov] (getMethod ov "__init__" pl)
      callWith p3 f first (backTo p3 (starEach [e] (ksEnv qual scope L fI (.ref cda) cc))) []))
    (hsw : swapsWith (.Call (.Attribute (.Call (.Name "super" p0) [] [] p1) "__init__" p2) [e] [] p3) none p4.line (ksEnv qual scope L fI (.ref cda) cc) = pure false)
    (hse : starEach [e] (ksEnv qual scope L fI (.ref cda) cc) = (false, eval e (ksEnv qual scope L fI (.ref cda) cc)) :: starEach [] (ksEnv qual scope L fI (.ref cda) cc))
    (hpl : (backTo p3 (starEach [] (ksEnv qual scope L fI (.ref cda) cc))).any (·.1) = false)
    (q : ∀ h' t' t1, (∀ b o, b ≠ x → h.get? b = some o → h'.get? b = some o) → h'.get? x = some (excO C t1) → Q .next ⟨h', g, d, t', os⟩) :
    PySem.wpAt (model prog w) A (.func bd (ksEnv qual scope L fI (.ref cda) cc)) (exec (.Expr (.Call (.Attribute (.Call (.Name "super" p0) [] [] p1) "__init__" p2) [e] [] p3) p4) (ksEnv qual scope L fI (.ref cda) cc)) Q E ⟨h, g, d, t, os⟩ := by
  obtain ⟨pl, hev⟩ := hev
  obtain ⟨cd, hcd, hre, hhd, oC, hC, hCd⟩ := T.cd
  refine ks_wpAt_Expr_any (ks_wpAt_MethodCall (pl := pl) ?_ hev) (by simp [interactive, hk]) hsw
  obtain ⟨mg, mb, a, b, e1, e2, e3, e4⟩ := G.ex
  refine ks_wpAt_super_base (env := ksEnv qual scope L fI (.ref cda) cc) hks hkc (by decide) rfl hf hfd hp rfl hcc hoc hvs hfile htop ?_
  refine ks_loadName_global hk hks (Calls.loadGlobal_builtin (env := ksEnv qual scope L fI (.ref cda) cc) a e2 b e4 ⟨rfl, ?_⟩)
  refine wpAny_loadName_free hk hkc rfl ⟨_, hcell, hcv⟩ ?_
  refine wpAny_loadName_local hk hka hn har ?_
  refine ks_wpAny_isType_cls (X _ _ hC) hCd ⟨rfl, ?_⟩
  refine ks_wpAny_call_super (X _ _ hC) hCd hx rfl (fun c z => by cases z) (looks_mroIn X T.sCC) (fun h2 e5 k2 => ?_)
  have X2 : K.In h2 := X.keeps k2
  have hI : Looks (model prog w) h2 (isInstance (.ref x) (.type "ValueError")) true := (InstAt.type (od := none) ⟨k2 _ _ hx, rfl, rfl, trivial⟩).andThen (looks_subIn X2 T.sVE)
  have hxC : x ≠ C := fun z => by rw [z, hC] at hnx; cases hnx
  have hsup := T.sup
  unfold ks_superIn at hsup
  rw [hcd, Option.bind_some] at hsup
  refine kxs_getMethod kxs_ValueError (C := C) (D := C) e5 (looks_opaque X2 T.tp) (l₀ := cd.mro) (fun A Q E s k q => wpAny_bind ((looks_clsIn X2 hcd) A _ E s k (wpAny_pure q))) rfl X2 hsup hI hxC (by decide) ?_
  have k3 : ∀ b o, h.get? b = some o → (h2.push (kxs_mw "ValueError.__init__" x)).get? b = some o := fun b o z => Heap.get?_push_of_some _ (k2 b o z)
  have hu : (h2.push (kxs_mw "ValueError.__init__" x)).get? h2.objs.size = some (kxs_mw "ValueError.__init__" x) := Heap.get?_push_at rfl rfl
  refine kxs_callWith (i := "ValueError.__init__") (x := x) (by rw [hse]; show (false || (backTo p3 (starEach [] _)).any (·.1)) = false; rw [hpl]; rfl) ?_
  rw [hse]
  show wpAny _ _ (evalArgs _ true ((false, eval e (ksEnv qual scope L fI (.ref cda) cc)) :: backTo p3 (starEach [] (ksEnv qual scope L fI (.ref cda) cc))) []) _ _ _
  have hbk : backTo p3 (starEach [] (ksEnv qual scope L fI (.ref cda) cc)) = [] := rfl
  refine evalArgs_plain ?_
  rw [hbk]
  refine Calls.spliced_cons (he _ _ _ _ _ _ _ k3 fun z tk t' hz => ?_)
  refine Calls.spliced_nil ?_
  refine ⟨hu, ?_⟩
  -- the built-in __init__, bound
  obtain ⟨nm, q', N, bs, bm, sn, sub, ab, col, dd, c0, c1, c2, c3, c5, hCC, hbm⟩ := T.cls
  have hx3 : (h2.push (kxs_mw "ValueError.__init__" x)).get? x = some (excO C t0) := k3 _ _ hx
  refine wpAny_call (codeAny_of_tree ?_)
  show wpAny _ A.in1 (callAny (.ref h2.objs.size) ⟨[.str z tk], []⟩) _ _ _
  simp only [callAny]
  refine wpAny_bind (wpAny_load hu ?_)
  simp only [kxs_mw, show (Value.type "method-wrapper" == Value.type "method" || Value.type "method-wrapper" == Value.type "builtin_function_or_method" || Value.type "method-wrapper" == Value.type "method-wrapper") = true by decide, if_true]
  refine KFB.if_so (by decide) ?_
  refine wpAny_bind (check_bound_init (PySem.F.excBase_ValueError).toExcCallFacts (k3 _ _ (X _ _ hCC)) hx3 rfl ?_)
  refine wpAny_bind (wpAny_pure (wpAny_pure ?_))
  refine ⟨plainId_quiet (PySem.F.excBase_ValueError).init.plain _, codeAny_builtin (PySem.F.excBase_ValueError).initEntry ?_⟩
  exact exc_init_tree (cls := .ref C) (t0 := t0) (dv := none) (c2 := .none) (c3 := .none) (b4 := .bool false) hx3 (by rw [sizeLine_eq]; simp) fun h' k4 e6 e7 => q h' _ _ (fun b o hb ho => k4 b o hb (k3 b o ho)) e6
end
end XM
namespace XM
open PySem PySem.W PySem.Calls PyProof.Rows PySem.HandSPX L2
/-! ### the stores behind super().__init__ -/
/-- self.f = f, for each f -/
inductive IsSt : List Str → List Stmt → Prop
  | nil : IsSt [] []
  | cons {f : Str} {fs : List Str} {sts : List Stmt} {p1 p2 p3 p4 : Pos} : IsSt fs sts → IsSt (f :: fs) (.Assign [.Attribute (.Name "self" p1) f p2] (.Name f p3) p4 :: sts)
/-- what the text's scope must say -/
structure ScT (scope : Scope) (fs : List Str) : Prop where
  kind : scope.kind = .function
  self : scope.names.lookup ("self" : Str) = some .local
  loc : ∀ f ∈ fs, scope.names.lookup f = some .local
  dbg : ∀ f ∈ fs, (f == ("__debug__" : Str)) = false
theorem zip_look : ∀ {ps : List Str} {us : List Value} (nd : ps.Nodup) {i : Nat} {f : Str} {u : Value}, ps[i]? = some f → us[i]? = some u → (ps.zip us).reverse.lookup f = some u
  | [], _, _, i, f, u, h, _ => by simp at h
  | a :: ps, [], _, i, f, u, _, h => by simp at h
  | a :: ps, b :: us, nd, i, f, u, h, h2 => by
    rw [List.zip_cons_cons, List.reverse_cons, List.lookup_append]
    have nd' := List.nodup_cons.mp nd
    cases i with
    | zero =>
      have e1 : a = f := Option.some.inj h
      have e2 : b = u := Option.some.inj h2
      subst e1; subst e2
      have z : (ps.zip us).reverse.lookup a = none := by
        rw [List.lookup_eq_none_iff]
        intro p hp
        have hp' := List.mem_reverse.mp hp
        have := (List.of_mem_zip hp').1
        have ne : a ≠ p.1 := fun z => nd'.1 (by rw [z]; exact this)
        simpa using ne
      rw [z]
      simp [List.lookup]
    | succ i =>
      rw [zip_look nd'.2 (i := i) (f := f) (u := u) h h2]
      rfl
section
variable {prog : Program} {w : World} {A : Around} {E : Value → Shared → Prop} {K : Frag} {C fI : Addr} {qual : Str} {params : Arguments} {body : List Stmt} {scope : Scope} {fs : List Str} {g : Array GenState} {d : Drawn} {os : OsState} {Q : Flow → Shared → Prop}
theorem kept_but {K : Frag} {h h' : Heap} {x : Addr} (X : K.In h) (hx : K.lookup x = none) (k : ∀ b o, b ≠ x → h.get? b = some o → h'.get? b = some o) : K.In h' := fun a o e =>
  k a o (fun z => by rw [z, hx] at e; cases e) (X a o e)
theorem ns_but {h h' : Heap} {L x : Addr} {m : Str → Option Value} (n : h.Ns L m) (hx : L ≠ x) (k : ∀ b o, b ≠ x → h.get? b = some o → h'.get? b = some o) : h'.Ns L m := by
  obtain ⟨o, es, ep, ho, r⟩ := n
  exact ⟨o, es, ep, k _ _ hx ho, r⟩
theorem stores {env : Env} {x dx : Addr} {cd : ClassData} {fv : Array Value} {m : Str → Option Value} (hcd : clsIn K C = some cd) (hre : refsVE cd.mro = true) (hhd : cd.hasDict = true) (sa : findIn K (.ref C) "__setattr__" = some (some (.builtin "object.__setattr__")))
    (hk : env.scope.kind = .function) (hself : env.kindOf "self" = some .local) (hm : m "self" = some (.ref x)) (hnd : K.lookup dx = none) (hxd : x ≠ dx) (hLd : env.locals ≠ dx) :
    ∀ {l : List (Str × V)} {sts : List Stmt} {h : Heap} {t : Nat} {fz : List (Str × V)} {m0 : Str → Option Value}, IsSt (l.map (·.1)) sts → (∀ p ∈ l, findIn K (.ref C) p.1 = some none) → (∀ p ∈ l, env.kindOf p.1 = some .local) → (∀ p ∈ l, (p.1 == ("__debug__" : Str)) = false) →
      (∀ p ∈ l, ∃ u, m p.1 = some u ∧ RelV p.2 u) → K.In h → h.get? x = some ({ cls := .ref C, dict := some dx, data := .fields fv } : Obj) → h.Ns1 dx m0 → (∀ f, RelO (fz.lookup f) (m0 f)) → fz.length + l.length ≤ 900 → h.Ns env.locals m →
      (∀ h' t', (∀ b o, b ≠ dx → h.get? b = some o → h'.get? b = some o) → (∃ mA, h'.Ns1 dx mA ∧ ∀ f, RelO ((l.reverse ++ fz).lookup f) (mA f)) → Q .next ⟨h', g, d, t', os⟩) →
      wpAny (model prog w) A (execs sts env) Q E ⟨h, g, d, t, os⟩
  | [], sts, h, t, fz, m0, S, _, _, _, _, X, hx, hn0, hr, _, hn, q => by
    cases S
    exact wpAny_execs_nil (q h t (fun b o _ e => e) ⟨m0, hn0, hr⟩)
  | p :: l, sts, h, t, fz, m0, S, no, lo, db, va, X, hx, hn0, hr, hz, hn, q => by
    obtain ⟨f, v⟩ := p
    cases S with
    | cons S' =>
      obtain ⟨u, hu, ru⟩ := va (f, v) (List.mem_cons_self ..)
      have hu' : m f = some u := hu
      have ru' : RelV v u := ru
      have hlen : (l.length + 1) = ((f, v) :: l).length := rfl
      refine wpAny_execs_cons (plainObj_wpAny_Assign_Attribute ?_)
      refine wpAny_Name (wpAny_loadName_local hk (lo (f, v) (List.mem_cons_self ..)) hn hu' ?_) (db (f, v) (List.mem_cons_self ..))
      refine wpAny_Name (wpAny_loadName_local hk hself hn hm ?_) (by decide)
      have hw := within_of hr
      obtain ⟨oD, _, _, hoD, _, _⟩ := hn0.count hw
      refine set_plain X (ox := { cls := .ref C, dict := some dx, data := .fields fv }) (od := some oD) ⟨hx, rfl, rfl, hoD⟩ sa ?_
      refine PySem.OEX.osa_old X hx hn0 hw (by rw [List.length_map]; omega) hcd hre hhd (no (f, v) (List.mem_cons_self ..)) (fun h' tk' k hn' => ?_)
      refine stores hcd hre hhd sa hk hself hm hnd hxd hLd (l := l) (fz := (f, v) :: fz) S' (fun p hp => no p (List.mem_cons_of_mem _ hp)) (fun p hp => lo p (List.mem_cons_of_mem _ hp)) (fun p hp => db p (List.mem_cons_of_mem _ hp)) (fun p hp => va p (List.mem_cons_of_mem _ hp))
        (kept_but X hnd k) (k _ _ hxd hx) hn' (relO_put ru' hr) (by rw [List.length_cons] at hz ⊢; omega) (ns_but hn hLd k) fun h2 t2 k2 r2 => ?_
      refine q h2 t2 (fun b o hb e => k2 b o hb (k b o hb e)) ?_
      rw [List.reverse_cons, List.append_assoc]
      exact r2
/-- all of them, of a fresh exception -/
theorem stores0 {env : Env} {x t0 : Addr} {cd : ClassData} {m : Str → Option Value} (hcd : clsIn K C = some cd) (hre : refsVE cd.mro = true) (hhd : cd.hasDict = true) (sa : findIn K (.ref C) "__setattr__" = some (some (.builtin "object.__setattr__")))
    (hk : env.scope.kind = .function) (hself : env.kindOf "self" = some .local) (hm : m "self" = some (.ref x)) (hnx : K.lookup x = none) (hLx : env.locals ≠ x)
    {l : List (Str × V)} {sts : List Stmt} {h : Heap} {t : Nat} (hl0 : l ≠ []) (S : IsSt (l.map (·.1)) sts) (no : ∀ p ∈ l, findIn K (.ref C) p.1 = some none) (lo : ∀ p ∈ l, env.kindOf p.1 = some .local) (db : ∀ p ∈ l, (p.1 == ("__debug__" : Str)) = false)
    (va : ∀ p ∈ l, ∃ u, m p.1 = some u ∧ RelV p.2 u) (X : K.In h) (hx : h.get? x = some (excO C t0)) (hz : l.length ≤ 900) (hn : h.Ns env.locals m)
    (q : ∀ h' t' dx, (∀ b o, b ≠ x → h.get? b = some o → h'.get? b = some o) → h.objs.size ≤ dx → dx ≠ x → h'.get? x = some ({ cls := .ref C, dict := some dx, data := .fields #[.ref t0, .none, .none, .none, .bool false, .none] } : Obj) →
      (∃ mA, h'.Ns1 dx mA ∧ ∀ f, RelO (l.reverse.lookup f) (mA f)) → Q .next ⟨h', g, d, t', os⟩) :
    wpAny (model prog w) A (execs sts env) Q E ⟨h, g, d, t, os⟩ := by
  cases l with
  | nil => exact absurd rfl hl0
  | cons p l =>
    obtain ⟨f, v⟩ := p
    cases S with
    | cons S' =>
      obtain ⟨u, hu, ru⟩ := va (f, v) (List.mem_cons_self ..)
      have hu' : m f = some u := hu
      have ru' : RelV v u := ru
      refine wpAny_execs_cons (plainObj_wpAny_Assign_Attribute ?_)
      refine wpAny_Name (wpAny_loadName_local hk (lo (f, v) (List.mem_cons_self ..)) hn hu' ?_) (db (f, v) (List.mem_cons_self ..))
      refine wpAny_Name (wpAny_loadName_local hk hself hn hm ?_) (by decide)
      refine set_plain X (ox := excO C t0) (od := none) ⟨hx, rfl, rfl, trivial⟩ sa ?_
      refine exc_osa X hx hcd hre hhd (no (f, v) (List.mem_cons_self ..)) (fun h' tk' dx k dn dne hx' hn' => ?_)
      have nd : ∀ {b : Addr} {o : Obj}, h.get? b = some o → b ≠ dx := fun {b o} q => Nat.ne_of_lt (Nat.lt_of_lt_of_le (Heap.lt_size q) dn)
      have hkd : K.lookup dx = none := by
        cases e : K.lookup dx with
        | none => rfl
        | some o => exact absurd rfl (nd (X _ _ e))
      have hLd : env.locals ≠ dx := by
        obtain ⟨o, _, _, ho, _⟩ := hn
        exact nd ho
      refine stores (l := l) (fz := [(f, v)]) hcd hre hhd sa hk hself hm hkd (Ne.symm dne) hLd S' (fun p hp => no p (List.mem_cons_of_mem _ hp)) (fun p hp => lo p (List.mem_cons_of_mem _ hp)) (fun p hp => db p (List.mem_cons_of_mem _ hp)) (fun p hp => va p (List.mem_cons_of_mem _ hp))
        (kept_but X hnx k) hx' hn' (relO_put (fs := []) ru' fun g => True.intro) (by rw [List.length_cons] at hz; simp only [List.length_cons, List.length_nil]; omega) (ns_but hn hLx k) fun h2 t2 k2 r2 => ?_
      refine q h2 t2 dx (fun b o hb e => k2 b o (nd e) (k b o hb e)) dn dne (k2 _ _ (Ne.symm dne) hx') ?_
      rw [List.reverse_cons]
      exact r2
end
end XM
namespace XM
open PySem PySem.W PySem.Calls PyProof.Rows PySem.HandSPX L2
/-- what the text of such an __init__ says: (self, f, ..): super().__init__(e); self.f = f .. -/
structure ExcS (prog : Program) (qual : Str) (params : Arguments) (scope : Scope) (fs : List Str) (e : PySem.Expr) (p0 p1 p2 p3 p4 : Pos) (sts : List Stmt) (n : Nat) : Prop where
  sc : ScT scope fs
  st : IsSt fs sts
  nd : (("self" : Str) :: fs).Nodup
  ne : fs ≠ []
  len : fs.length ≤ 900
  hp : ∃ ar, (params.posonlyargs ++ params.args).head? = some ar ∧ ar.arg = "self"
  hks : scope.names.lookup ("super" : Str) = some .globalImplicit
  hkc : scope.names.lookup ("__class__" : Str) = some .free
  top : (prog.main.scope.names.lookup ("super" : Str)).isSome = false
  cell : ∀ x ∈ scope.names, x.2 ≠ .cell
  co : scope.isCoroutine = false
  gen : scope.isGenerator = false
  bind : ∀ (body : List Stmt) (doc pm : Value) (an : Option Addr) (cdv ct : Value) (cc : Addr) (us : List Value), us.length = fs.length + 1 → bindArgs (ksFn "__init__" qual params body scope .none .none doc pm an cdv ct cc) ⟨us, []⟩ = pure ((("self" : Str) :: fs).zip us)
  hev : ∀ (L fI cda cc : Addr), ∃ pl : Sem Bool, eval (.Call (.Attribute (.Call (.Name "super" p0) [] [] p1) "__init__" p2) [e] [] p3) (ksEnv qual scope L fI (.ref cda) cc) = (do
      let ov ← attributeBase (.Call (.Name "super" p0) [] [] p1) "__init__" (ksEnv qual scope L fI (.ref cda) cc) (eval (.Call (.Name "super" p0) [] [] p1) (ksEnv qual scope L fI (.ref cda) cc))
      standAt p2.atName
      let (f, first) ← holding [ov] (getMethod ov "__init__" pl)
      callWith p3 f first (backTo p3 (starEach [e] (ksEnv qual scope L fI (.ref cda) cc))) [])
  hsw : ∀ (L fI cda cc : Addr), swapsWith (.Call (.Attribute (.Call (.Name "super" p0) [] [] p1) "__init__" p2) [e] [] p3) none p4.line (ksEnv qual scope L fI (.ref cda) cc) = pure false
  hse : ∀ (L fI cda cc : Addr), starEach [e] (ksEnv qual scope L fI (.ref cda) cc) = (false, eval e (ksEnv qual scope L fI (.ref cda) cc)) :: starEach [] (ksEnv qual scope L fI (.ref cda) cc)
  txt : ∀ (w : World) (A : Around) (h : Heap) (m : Str → Option Value) (L fI cda cc : Addr), Glb h → h.Ns L m → (∀ f ∈ fs, ∃ v, m f = some v ∧ Txtable v) → EvT prog w A (ksEnv qual scope L fI (.ref cda) cc) n e h
section
variable {prog : Program} {w : World} {A : Around} {E : Value → Shared → Prop} {R : Result → Shared → Prop} {K : Frag} {C fI : Addr} {qual : Str} {params : Arguments} {scope : Scope} {fs : List Str} {g : Array GenState} {d : Drawn} {t : Nat} {os : OsState} {e : PySem.Expr} {p0 p1 p2 p3 p4 : Pos} {sts : List Stmt} {n : Nat}
theorem init_run {x t0 : Addr} {h : Heap} {vs : List V} {us : List Value} (T : ExcT prog K C fI qual params (.Expr (.Call (.Attribute (.Call (.Name "super" p0) [] [] p1) "__init__" p2) [e] [] p3) p4 :: sts) scope fs) (S : ExcS prog qual params scope fs e p0 p1 p2 p3 p4 sts n)
    (X : K.In h) (G : Glb h) (hlim : h.NoLimit) (hx : h.get? x = some (excO C t0)) (hnx : K.lookup x = none) (hroom : A.depth < recursionLimit) (hl : vs.length = fs.length) (rv : Vals vs us) (tx : ∀ u ∈ us, Txtable u)
    (hq : ∀ h' tk dx t1, (∀ b o, b ≠ x → h.get? b = some o → h'.get? b = some o) → h.objs.size ≤ dx → dx ≠ x → h'.get? x = some ({ cls := .ref C, dict := some dx, data := .fields #[.ref t1, .none, .none, .none, .bool false, .none] } : Obj) →
      (∃ mA, h'.Ns1 dx mA ∧ ∀ f, RelO ((fs.zip vs).reverse.lookup f) (mA f)) → R (.ok (.ret .none)) ⟨h', g, d, tk, os⟩) :
    codeAny (model prog w) A (.call (.ref fI) ⟨.ref x :: us, []⟩) R ⟨h, g, d, t, os⟩ := by
  obtain ⟨oc, od, doc, pm, an, cda, cc, ct, osl, oa, avs, file, tf, ob, ho, hcd, hca, hoa, hfi, hfile, hcc, hob⟩ := T.fn
  obtain ⟨cd, hcl, hre, hhd, oC, hC, hCd⟩ := T.cd
  have hlu : us.length = fs.length := by rw [← rv.length]; exact hl
  have hloc : ∀ y ∈ (("self" : Str) :: fs).zip (Value.ref x :: us), scope.names.lookup y.1 = some .local := fun y hy => by
    rcases List.mem_cons.mp (List.of_mem_zip hy).1 with z | z
    · rw [z]; exact S.sc.self
    · exact S.sc.loc _ z
  refine ks_codeAny_call_defAt (fd := ksFn "__init__" qual params (.Expr (.Call (.Attribute (.Call (.Name "super" p0) [] [] p1) "__init__" p2) [e] [] p3) p4 :: sts) scope .none .none doc pm an (.ref cda) ct cc) (binds := (("self" : Str) :: fs).zip (Value.ref x :: us)) hroom (X _ _ ho) rfl hlim (codeRec_of X hcd) rfl
    (.of_eq (S.bind _ _ _ _ _ _ _ _ (by rw [List.length_cons, hlu]))) S.cell hloc (fun h₁ hns hk₁ => ?_) S.co S.gen S.sc.kind
  have X₁ : K.In h₁ := X.keeps hk₁
  have hself : ((("self" : Str) :: fs).zip (Value.ref x :: us)).reverse.lookup ("self" : Str) = some (Value.ref x) := zip_look S.nd (i := 0) rfl rfl
  have hval : ∀ {i : Nat} {f : Str} {u : Value}, fs[i]? = some f → us[i]? = some u → ((("self" : Str) :: fs).zip (Value.ref x :: us)).reverse.lookup f = some u := fun {i f u} a b => zip_look S.nd (i := i + 1) a b
  have hLx : h.objs.size ≠ x := Nat.ne_of_gt (Heap.lt_size hx)
  obtain ⟨ar, har, har2⟩ := S.hp
  refine ks_wpAt_execs_cons ?_
  refine super_init (x := x) (t0 := t0) T X₁ (G.keeps hk₁) (hk₁ _ _ (X _ _ ho)) rfl har (by rw [har2]; exact hself) hns (hk₁ _ _ hx) hnx (hk₁ _ _ (X _ _ hca)) hoa hfi hfile (hk₁ _ _ (X _ _ hcc)) hob S.top S.hks S.hkc (by rw [har2]; exact S.sc.self) S.sc.kind
    (S.txt w _ h₁ _ _ fI cda cc (G.keeps hk₁) hns fun f hf => ?_) (S.hev _ _ _ _) (S.hsw _ _ _ _) (S.hse _ _ _ _) rfl fun h' t' t1 k' hx' => ?_
  · obtain ⟨i, hi⟩ := List.getElem?_of_mem hf
    have hiu : i < us.length := by rw [hlu]; exact (List.getElem?_eq_some_iff.mp hi).1
    exact ⟨us[i], hval hi (List.getElem?_eq_getElem hiu), tx _ (List.getElem_mem hiu)⟩
  · show PySem.wpAt _ _ _ (execs sts _) _ _ _
    have hmap : (fs.zip vs).map (·.1) = fs := List.map_fst_zip (by rw [hl]; exact Nat.le_refl _)
    have hmem : ∀ p ∈ fs.zip vs, p.1 ∈ fs := fun p hp => (List.of_mem_zip hp).1
    have hne : fs.zip vs ≠ [] := fun z => S.ne (by rw [← hmap, z]; rfl)
    refine PySem.wpAt_of_wpAny (stores0 (env := ksEnv qual scope h.objs.size fI (.ref cda) cc) (x := x) (t0 := t1) (l := fs.zip vs) hcl hre hhd T.sa S.sc.kind S.sc.self hself hnx hLx hne (by rw [hmap]; exact S.st) (fun p hp => T.noN _ (hmem p hp)) (fun p hp => S.sc.loc _ (hmem p hp)) (fun p hp => S.sc.dbg _ (hmem p hp)) (fun p hp => ?_)
      (kept_but X₁ hnx k') hx' (by rw [List.length_zip]; have := S.len; omega) (ns_but hns hLx k') fun h2 t2 dx k2 dn dne hx2 hd2 => ?_)
    · obtain ⟨i, hi⟩ := List.getElem?_of_mem hp
      obtain ⟨hi1, hi2⟩ := List.getElem?_zip_eq_some.mp hi
      obtain ⟨u, hu, ru⟩ := rv.get hi2
      exact ⟨u, hval hi1 hu, ru⟩
    · have dsz : h.objs.size ≤ dx := by
        obtain ⟨oL, _, _, hoL, _⟩ := hns
        have z : h.objs.size < h'.objs.size := Heap.lt_size (k' _ _ hLx hoL)
        exact Nat.le_of_lt (Nat.lt_of_lt_of_le z dn)
      exact hq h2 t2 dx t1 (fun b o hb z => k2 b o hb (k' b o hb (hk₁ b o z))) dsz dne hx2 hd2
end
end XM
namespace XM
open PySem PySem.W PySem.Calls PyProof.Rows PySem.HandSPX L2
def TxtV (v : V) : Prop := (∃ i, v = .int i ∧ i.natAbs < 1000000000) ∨ (∃ z, v = .str z ∧ z.length ≤ 1000)
theorem TxtV.to {v : V} {u : Value} (h : TxtV v) (r : RelV v u) : Txtable u := by
  rcases h with ⟨i, rfl, hi⟩ | ⟨z, rfl, hz⟩
  · obtain ⟨t, rfl⟩ := r
    exact .inl ⟨_, _, rfl, hi⟩
  · obtain ⟨t, rfl⟩ := r
    exact .inr ⟨_, _, rfl, hz⟩
/-- C(e, ..) : the exception's fields -/
def tMkE (C : Addr) (fs : List Str) (ta : TA) : L2.St → Hp → XK → Prop := fun σ H Q => ta σ H fun vs H1 => vs.length = fs.length ∧ (∀ v ∈ vs, TxtV v) ∧ ∀ d, H1 d = none → Q (.ref C) (some d) (upd H1 d (.xd (fs.zip vs).reverse))
section
variable {X : Cx} {C fI : Addr} {qual : Str} {params : Arguments} {scope : Scope} {fs : List Str} {e : PySem.Expr} {p0 p1 p2 p3 p4 : Pos} {sts : List Stmt} {n : Nat}
theorem glb_of {pins : List (Addr × Obj)} {σ : L2.St} {H : Hp} {s : Shared} (I : Inv X pins σ H s) (h1 : X.mg "str" = none) (h2 : X.mg "super" = none) : Glb s.heap := by
  obtain ⟨mb, b1, b2⟩ := I.mod.blt
  exact ⟨X.mg, mb, I.mod.glob.keeps I.bk, b1.keeps I.bk, h1, h2, (b2 "str" (by decide)).trans (by decide +kernel), (b2 "super" (by decide)).trans (by decide +kernel)⟩
theorem pmk_exc {x : Str} {a : Expr} {es : List Expr} {ta : TA} {p pos : Pos} {k : Nat} (T : ExcT X.prog X.K C fI qual params (.Expr (.Call (.Attribute (.Call (.Name "super" p0) [] [] p1) "__init__" p2) [e] [] p3) p4 :: sts) scope fs) (S : ExcS X.prog qual params scope fs e p0 p1 p2 p3 p4 sts n)
    (hr : Room k X.A) (ha : PA X (a :: es) ta) (gC : X.mg x = some (.ref C)) (h1 : X.mg "str" = none) (h2 : X.mg "super" = none) (hg : Gl X x := by rfl) (hdb : (x == ("__debug__" : Str)) = false := by decide)
    (he : starEach (a :: es) X.env = (false, eval a X.env) :: starEach es X.env := by rfl) (hpl : (backTo pos (starEach es X.env)).any (·.1) = false := by rfl) :
    L2N.PMk X (.Call (.Name x p) (a :: es) [] pos) (tMkE C fs ta) := by
  intro pins s σ H Q I h
  refine wpAny_Call_Name_kw (ld_glob I hg gC ?_ hdb)
  refine PySem.W.callWith_K (h₀ := X.base) I.ok.mod.kin T.kC (thn (ha.run pos pins s σ H _ I h) fun us s1 hh => ?_) he hpl
  obtain ⟨vs, H1, I1, r1, hvl, htx, q1⟩ := hh
  refine ⟨I1.kIn, ?_⟩
  show wpAny _ _ (call (.ref C) us) _ _ _
  have hlim := I1.nolimit
  have GB := glb_of I1 h1 h2
  obtain ⟨nm, q, N, bs, bm, sn, sub, ab, col, dd, k0, k1, k2, k3, k5, hC, hbm⟩ := T.cls
  obtain ⟨hp, g, dr, tk, os⟩ := s1
  have KI : X.K.In hp := I1.kIn
  have kk : ∀ b o, hp.get? b = some o → ((hp.push (kdv_tup us)).push (excO C hp.objs.size)).get? b = some o := fun b o e => Heap.get?_push_of_some _ (Heap.get?_push_of_some _ e)
  have hget : ((hp.push (kdv_tup us)).push (excO C hp.objs.size)).get? (hp.objs.size + 1) = some (excO C hp.objs.size) := by heap_get
  have hnx : X.K.lookup (hp.objs.size + 1) = none := by
    cases e : X.K.lookup (hp.objs.size + 1) with
    | none => rfl
    | some o =>
      have z : hp.get? (hp.objs.size + 1) = some o := KI _ _ e
      exact absurd (Nat.lt_of_succ_lt (Heap.lt_size z)) (Nat.lt_irrefl _)
  have hus : us.length ≤ sizeLine := by
    rw [← Paired.length r1, hvl, sizeLine_eq]
    have := S.len
    omega
  have htu : ∀ u ∈ us, Txtable u := fun u hu => by
    obtain ⟨i, hi⟩ := List.getElem?_of_mem hu
    have hiv : i < vs.length := by rw [r1.length]; exact (List.getElem?_eq_some_iff.mp hi).1
    obtain ⟨u', hu', ru⟩ := r1.get (List.getElem?_eq_getElem hiv)
    rw [hi] at hu'
    cases hu'
    exact (htx _ (List.getElem_mem hiv)).to ru
  refine wpAny_call (call_own F.excBase_ValueError (fun Y => refsVE_contains Y bm hbm) (KI _ _ hC) (looks_findIn KI T.iC) (fun self => bind_fn KI self T.tI) hus ?_)
  refine init_run (x := hp.objs.size + 1) (t0 := hp.objs.size) T S (KI.keeps kk) (GB.keeps kk) (hlim.keeps kk) hget hnx (by have := hr.dp; show X.A.depth + 1 < _; omega) hvl r1 htu fun h' tk' dx t1 k' dn dne hx hd => ?_
  refine ⟨rfl, ?_⟩
  show L2N.MkP X pins σ Q (.ref (hp.objs.size + 1)) ⟨h', g, dr, tk', os⟩
  have sz2 : ((hp.push (kdv_tup us)).push (excO C hp.objs.size)).objs.size = hp.objs.size + 1 + 1 := by rw [Heap.size_push, Heap.size_push]
  have dn' : hp.objs.size ≤ dx := by rw [sz2] at dn; omega
  have old0 : ∀ b o, hp.get? b = some o → h'.get? b = some o := fun b o e => k' b o (Nat.ne_of_lt (Nat.lt_succ_of_lt (Heap.lt_size e))) (kk b o e)
  obtain ⟨mA, hns, rel⟩ := hd
  obtain ⟨G', g1, g2⟩ := restrict h' fun b => decide (b ≠ hp.objs.size + 1)
  have gk : ∀ b, b ≠ hp.objs.size + 1 → G'.get? b = h'.get? b := fun b hb => g1 b (decide_eq_true hb)
  have ge : G'.get? (hp.objs.size + 1) = none := g2 (hp.objs.size + 1) (by simp)
  have old : ∀ b o, hp.get? b = some o → G'.get? b = some o := fun b o q => (gk b (Nat.ne_of_lt (Nat.lt_succ_of_lt (Heap.lt_size q)))).trans (old0 b o q)
  have ob : ObjOk X.prog X.w (upd H1 dx (.xd (fs.zip vs).reverse)) G' dx (.xd (fs.zip vs).reverse) :=
    ⟨_, hns.at (fun o q => (gk dx dne).trans q), rel⟩
  have J : Inv X pins σ (upd H1 dx (.xd (fs.zip vs).reverse)) ⟨G', g, dr, tk', os⟩ := I1.laid (t' := tk') old dn' ob
  refine ⟨hp.objs.size + 1, _, _, ⟨G', g, dr, tk', os⟩, _, .ref C, some dx, rfl, J, fun b o q => ?_, ge, hx, ⟨rfl, rfl, fun vs e => by cases e; rfl⟩, rfl, rfl, ?_, rfl, I1.bare, raises_own T.exC T.tyC, q1 dx (I1.hok.fresh dn')⟩
  · by_cases hb : b = hp.objs.size + 1
    · have q' : G'.get? b = some o := q
      rw [hb, ge] at q'; cases q'
    · exact (gk b hb).symm.trans q
  · rw [upd_ne (Ne.symm dne)]
    exact I1.hok.fresh (Nat.le_succ _)
end
/-- what is told of such a class: its facts, its text -/
def ExcOk (prog : Program) (K : Frag) (C fI : Addr) (qual : Str) (params : Arguments) (body : List Stmt) (scope : Scope) (fs : List Str) : Prop :=
  ExcT prog K C fI qual params body scope fs ∧ ∃ (e : PySem.Expr) (p0 p1 p2 p3 p4 : Pos) (sts : List Stmt) (n : Nat), body = (.Expr (.Call (.Attribute (.Call (.Name "super" p0) [] [] p1) "__init__" p2) [e] [] p3) p4 :: sts) ∧ ExcS prog qual params scope fs e p0 p1 p2 p3 p4 sts n
theorem pmk_ok {X : Cx} {C fI : Addr} {qual : Str} {params : Arguments} {body : List Stmt} {scope : Scope} {fs : List Str} {x : Str} {a : Expr} {es : List Expr} {ta : TA} {p pos : Pos} {k : Nat} (T : ExcOk X.prog X.K C fI qual params body scope fs) (hr : Room k X.A) (ha : PA X (a :: es) ta) (gC : X.mg x = some (.ref C)) (h1 : X.mg "str" = none) (h2 : X.mg "super" = none) (hg : Gl X x) (hdb : (x == ("__debug__" : Str)) = false := by decide)
    (he : starEach (a :: es) X.env = (false, eval a X.env) :: starEach es X.env := by rfl) (hpl : (backTo pos (starEach es X.env)).any (·.1) = false := by rfl) :
    L2N.PMk X (.Call (.Name x p) (a :: es) [] pos) (tMkE C fs ta) := by
  obtain ⟨T, e, p0, p1, p2, p3, p4, sts, n, rfl, S⟩ := T
  exact pmk_exc T S hr ha gC h1 h2 hg hdb he hpl
end XM
namespace XH
open PySem PySem.Spec PyProof.Rows L2 He
/-! ## a head's hook that also sees the exceptions' own __init__ (a closure on __class__) and the class statics -/
def asY (g : Addr → Option Obj) : Nat → List Addr
  | 0 => [mainGlobals, cStatics]
  | n + 1 => growD g (asY g n)
structure IniD where
  at_ : Defn
  qual : Str
  params : Arguments
  body : List Stmt
  scope : Scope
abbrev FnI : Type := Option (Str × Str × Arguments × FuncBody × Scope × Addr × List Str × Value × Value × Addr)
def fnI (K : PySem.W.Frag) (p : Defn) : FnI := match K.lookup (fAd K p) with
  | some ⟨_, _, .func fd, _⟩ => some (fd.name, fd.qualname, fd.params, fd.body, fd.scope, fd.globals, fd.closure.map (·.1), fd.defaults, fd.kwdefaults, fd.builtins)
  | _ => none
def IniD.val (d : IniD) : FnI := some ("__init__", d.qual, d.params, .stmts d.body, d.scope, mainGlobals, ["__class__"], .none, .none, builtinsNs)
abbrev AlY : Type := AlT × Bool × List FnI
def obsY (n : Nat) (fa : List Fa) (fn : List DefD) (ts : List Tab) (fi : List IniD) (ex : PySem.W.Frag → Bool) (g : Addr → Option Obj) : AlY := (obsT fa fn ts (frT g (asY g n)), ex (frT g (asY g n)), fi.map fun d => fnI (frT g (asY g n)) d.at_)
def valY (fn : List DefD) (ts : List Tab) (fi : List IniD) (w : World) : AlY := (valT fn ts w, true, fi.map IniD.val)
structure SaysY (fa : List Fa) (fn : List DefD) (ts : List Tab) (fi : List IniD) (ex : PySem.W.Frag → Bool) (w : World) (K : PySem.W.Frag) : Prop where
  t : SaysT fa fn ts w K
  more : ex K = true
  ini : (fi.map fun d => fnI K d.at_) = fi.map IniD.val
theorem saysY_of {n : Nat} {fa : List Fa} {fn : List DefD} {ts : List Tab} {fi : List IniD} {ex : PySem.W.Frag → Bool} {w : World} {h : Heap} (e : obsY n fa fn ts fi ex h.get? = valY fn ts fi w) : SaysY fa fn ts fi ex w (frT h.get? (asY h.get? n)) :=
  ⟨congrArg (fun z : AlY => z.1) e, congrArg (fun z : AlY => z.2.1) e, congrArg (fun z : AlY => z.2.2) e⟩
def hookY (n : Nat) (fa : List Fa) (fn : List DefD) (ts : List Tab) (fi : List IniD) (ex : PySem.W.Frag → Bool) : PySem.W.Hook where
  α := AlY
  obs := fun s => obsY n fa fn ts fi ex s.heap.get?
  val := fun w => valY fn ts fi w
  says := fun w h => ∃ K : PySem.W.Frag, K.In h ∧ SaysY fa fn ts fi ex w K
  of := fun _ _ e => ⟨_, frT_in, saysY_of e⟩
  keeps := fun _ _ _ ⟨K, hK, c⟩ k => ⟨K, PySem.W.Frag.In.keeps hK k, c⟩
theorem obsY_eq {n : Nat} {fa : List Fa} {fn : List DefD} {ts : List Tab} {fi : List IniD} {ex : PySem.W.Frag → Bool} {g : Addr → Option Obj} {s : Shared} (h : ∀ a, g a = s.heap.get? a) : obsY n fa fn ts fi ex g = (hookY n fa fn ts fi ex).obs s := by
  have e : g = s.heap.get? := funext h
  rw [e] <;> rfl
/-! ### the same over a written list of addresses -/
def obsL (as : List Addr) (fa : List Fa) (fn : List DefD) (ts : List Tab) (fi : List IniD) (ex : PySem.W.Frag → Bool) (g : Addr → Option Obj) : AlY := (obsT fa fn ts (frT g as), ex (frT g as), fi.map fun d => fnI (frT g as) d.at_)
theorem saysL_of {as : List Addr} {fa : List Fa} {fn : List DefD} {ts : List Tab} {fi : List IniD} {ex : PySem.W.Frag → Bool} {w : World} {h : Heap} (e : obsL as fa fn ts fi ex h.get? = valY fn ts fi w) : SaysY fa fn ts fi ex w (frT h.get? as) :=
  ⟨congrArg (fun z : AlY => z.1) e, congrArg (fun z : AlY => z.2.1) e, congrArg (fun z : AlY => z.2.2) e⟩
def hookL (as : List Addr) (fa : List Fa) (fn : List DefD) (ts : List Tab) (fi : List IniD) (ex : PySem.W.Frag → Bool) : PySem.W.Hook where
  α := AlY
  obs := fun s => obsL as fa fn ts fi ex s.heap.get?
  val := fun w => valY fn ts fi w
  says := fun w h => ∃ K : PySem.W.Frag, K.In h ∧ SaysY fa fn ts fi ex w K
  of := fun _ _ e => ⟨_, frT_in, saysL_of e⟩
  keeps := fun _ _ _ ⟨K, hK, c⟩ k => ⟨K, PySem.W.Frag.In.keeps hK k, c⟩
theorem obsL_eq {as : List Addr} {fa : List Fa} {fn : List DefD} {ts : List Tab} {fi : List IniD} {ex : PySem.W.Frag → Bool} {g : Addr → Option Obj} {s : Shared} (h : ∀ a, g a = s.heap.get? a) : obsL as fa fn ts fi ex g = (hookL as fa fn ts fi ex).obs s := by
  have e : g = s.heap.get? := funext h
  rw [e] <;> rfl
theorem SaysY.ini_ {fa : List Fa} {fn : List DefD} {ts : List Tab} {fi : List IniD} {ex : PySem.W.Frag → Bool} {w : World} {K : PySem.W.Frag} (c : SaysY fa fn ts fi ex w K) (i : Nat) {d : IniD} (h : fi[i]? = some d := by rfl) : fnI K d.at_ = d.val := by
  have e2 : (fi.map fun d => fnI K d.at_)[i]? = (fi.map IniD.val)[i]? := by rw [c.ini]
  rw [List.getElem?_map, List.getElem?_map, h] at e2
  exact Option.some.inj e2
/-! ### the exception classes' facts as Bools -/
def clsB (K : PySem.W.Frag) (C : Addr) : Bool := match K.lookup C with
  | some ⟨.type "type", _, .cls cd, sl⟩ => (match cd.mro, sl.toList with
    | .ref C' :: bm, [_, _, _, _, some (.builtin n), _] => C' == C && (n == "ValueError.__new__" && (!cd.hasDel && (cd.hasDict && PySem.HandSPX.refsVE bm)))
    | _, _ => false)
  | _ => false
theorem clsB_ok {K : PySem.W.Frag} {C : Addr} (q : clsB K C = true) : ∃ nm qn N bs bm sn sub ab col dd k0 k1 k2 k3 k5, K.lookup C = some (PySem.excClassObj nm qn C N bs bm true sn sub ab col dd k0 k1 k2 k3 k5 "ValueError.__new__") ∧ PySem.HandSPX.refsVE bm = true := by
  unfold clsB at q
  split at q
  · rename_i dd cd sl ho
    split at q
    · rename_i C' bm k0 k1 k2 k3 n k5 hm hs
      simp only [Bool.and_eq_true, beq_iff_eq, Bool.not_eq_true'] at q
      obtain ⟨rfl, rfl, hdel, hd', ht⟩ := q
      obtain ⟨nm, bs, mro, ns, qn, hd, sn, sub, ab, col, del⟩ := cd
      dsimp only at hm hdel hd'
      subst hm hdel hd'
      have hsl : sl = #[k0, k1, k2, k3, some (.builtin "ValueError.__new__"), k5] := by
        obtain ⟨l⟩ := sl
        simp only at hs
        rw [hs]
      subst hsl
      exact ⟨nm, qn, ns, bs, bm, sn, sub, ab, col, dd, k0, k1, k2, k3, k5, ho, ht⟩
    · cases q
  · cases q
def fileV (file0 : Str) (vs : Array Value) : Bool := match (vs[2]? : Option Value) with
  | some (.str file _) => file0 == file
  | _ => false
def fileB (file0 : Str) (K : PySem.W.Frag) (cda : Addr) : Bool := match K.lookup cda with
  | some ⟨_, _, .fields vs, _⟩ => fileV file0 vs
  | _ => false
def cellB (K : PySem.W.Frag) (cc C : Addr) : Bool := match K.lookup cc with
  | some ⟨_, _, .cell (some (.ref c)), _⟩ => c == C
  | _ => false
theorem fileB_ok {file0 : Str} {K : PySem.W.Frag} {cda : Addr} (h : fileB file0 K cda = true) : ∃ oa vs file tf, K.lookup cda = some oa ∧ oa.data = .fields vs ∧ vs[2]? = some (.str file tf) ∧ (file0 == file) = true := by
  unfold fileB at h
  cases q : K.lookup cda with
  | none =>
    rw [q] at h
    cases h
  | some o1 =>
    obtain ⟨oc1, od1, dt1, osl1⟩ := o1
    rw [q] at h
    cases dt1 with
    | fields vs =>
      have h2 : fileV file0 vs = true := h
      unfold fileV at h2
      cases q2 : vs[2]? with
      | none =>
        rw [q2] at h2
        cases h2
      | some u =>
        rw [q2] at h2
        cases u with
        | str file tf => exact ⟨_, vs, file, tf, rfl, rfl, q2, h2⟩
        | _ => cases h2
    | _ => cases h
theorem cellB_ok {K : PySem.W.Frag} {cc C : Addr} (h : cellB K cc C = true) : ∃ ob, K.lookup cc = some ob ∧ ob.data = .cell (some (.ref C)) := by
  unfold cellB at h
  cases q : K.lookup cc with
  | none =>
    rw [q] at h
    cases h
  | some o =>
    obtain ⟨oc, od, dt, osl⟩ := o
    rw [q] at h
    cases dt with
    | cell u =>
      cases u with
      | none => cases h
      | some v =>
        cases v with
        | ref c =>
          have z : (c == C) = true := h
          rw [← (eq_of_beq z : c = C)]
          exact ⟨_, rfl, rfl⟩
        | _ => cases h
    | _ => cases h
/-- the code of its __init__ is of the main file, the cell holds the class -/
def iniB (file0 : Str) (K : PySem.W.Frag) (C fI : Addr) (qual : Str) : Bool := match K.lookup fI with
  | some ⟨_, _, .func fd, _⟩ => (match fd.code, fd.closure with
    | .ref cda, [(_, cc)] => PySem.W.codeIn K (.ref cda) qual && (fileB file0 K cda && cellB K cc C)
    | _, _ => false)
  | _ => false
/-- class x of the program, its attributes fs -/
def excB (file0 : Str) (x qual : Str) (fs : List Str) (K : PySem.W.Frag) : Bool :=
  clsB K (ga K x) && (decide (PySem.W.ks_superIn K (ga K x) (ga K x) "__init__" = some (some (.builtin "ValueError.__init__"))) && (decide (PySem.W.subIn K (.ref (ga K x)) (.type "ValueError") = some true) && (decide (PySem.W.mroIn K (ga K x) (.ref (ga K x)) = some true) &&
    (decide (PySem.W.findIn K (.ref (ga K x)) "__setattr__" = some (some (.builtin "object.__setattr__"))) && ((fs.all fun f => decide (PySem.W.findIn K (.ref (ga K x)) f = some none)) && (decide (PySem.W.findIn K (.ref (ga K x)) "__init__" = some (some (.ref (ma K (ga K x) "__init__")))) &&
    (decide (PySem.W.typeIn K (.ref (ma K (ga K x) "__init__")) = some (.type "function")) && (PySem.W.keepIn K (.ref (ga K x)) && (decide (PySem.W.subIn K (.ref (ga K x)) (.type "BaseException") = some true) && (decide (PySem.W.typeIn K (.ref (ga K x)) = some (.type "type")) &&
    (decide (PySem.W.nsIn K cStatics "thirdparty.any" = some none) && iniB file0 K (ga K x) (ma K (ga K x) "__init__") qual)))))))))))
theorem excT_of {prog : Program} {K : PySem.W.Frag} {x qual : Str} {fs : List Str} {params : Arguments} {body : List Stmt} {scope : Scope} (h : excB prog.main.file x qual fs K = true) (e : fnI K (x, some "__init__") = IniD.val ⟨(x, some "__init__"), qual, params, body, scope⟩) :
    XM.ExcT prog K (ga K x) (ma K (ga K x) "__init__") qual params body scope fs := by
  obtain ⟨h1, h⟩ := ba h
  obtain ⟨h2, h⟩ := ba h
  obtain ⟨h3, h⟩ := ba h
  obtain ⟨h4, h⟩ := ba h
  obtain ⟨h5, h⟩ := ba h
  obtain ⟨h6, h⟩ := ba h
  obtain ⟨h7, h⟩ := ba h
  obtain ⟨h8, h⟩ := ba h
  obtain ⟨h9, h⟩ := ba h
  obtain ⟨h10, h⟩ := ba h
  obtain ⟨h11, h⟩ := ba h
  obtain ⟨h12, h13⟩ := ba h
  refine { cls := clsB_ok h1, sup := of_decide_eq_true h2, sVE := of_decide_eq_true h3, sCC := of_decide_eq_true h4, sa := of_decide_eq_true h5, noN := fun f hf => of_decide_eq_true (List.all_eq_true.mp h6 f hf), iC := of_decide_eq_true h7, tI := of_decide_eq_true h8, kC := h9, exC := of_decide_eq_true h10, tyC := of_decide_eq_true h11, tp := of_decide_eq_true h12, fn := ?_ }
  have e0 : fnI K (x, some "__init__") = (match K.lookup (ma K (ga K x) "__init__") with
    | some ⟨_, _, .func fd, _⟩ => some (fd.name, fd.qualname, fd.params, fd.body, fd.scope, fd.globals, fd.closure.map (·.1), fd.defaults, fd.kwdefaults, fd.builtins)
    | _ => none : FnI) := rfl
  rw [e0] at e
  unfold iniB at h13
  cases q : K.lookup (ma K (ga K x) "__init__") with
  | none =>
    rw [q] at e
    cases e
  | some o =>
    obtain ⟨oc, od, dt, osl⟩ := o
    rw [q] at e h13
    cases dt with
    | func fd =>
      obtain ⟨n1, n2, n3, n4, n5, n6, n7, n8, n9, n10, n11, n12, n13, n14, n15⟩ := fd
      have e2 : (some (n1, n2, n3, n4, n5, n6, n7.map (·.1), n8, n9, n15) : FnI) = (some ("__init__", qual, params, .stmts body, scope, mainGlobals, ["__class__"], .none, .none, builtinsNs) : FnI) := e
      simp only [Option.some.injEq, Prod.mk.injEq] at e2
      obtain ⟨i1, i2, i3, i4, i5, i6, i7, i8, i9, i10⟩ := e2
      subst i1 i2 i3 i4 i5 i6 i8 i9 i10
      cases n13 with
      | ref cda =>
        cases n7 with
        | nil => cases i7
        | cons p r =>
          obtain ⟨nm, cc⟩ := p
          have hr : r = [] := by
            cases r with
            | nil => rfl
            | cons y ys => simp at i7
          subst hr
          have hnm : nm = "__class__" := by simpa using i7
          subst hnm
          obtain ⟨j1, j2⟩ := ba (show (PySem.W.codeIn K (.ref cda) n2 && (fileB prog.main.file K cda && cellB K cc (ga K x))) = true from h13)
          obtain ⟨j3, j4⟩ := ba j2
          obtain ⟨oa, vs, file, tf, q1, q2, q3, q4⟩ := fileB_ok j3
          obtain ⟨ob, q5, q6⟩ := cellB_ok j4
          exact ⟨oc, od, n10, n11, n12, cda, cc, n14, osl, oa, vs, file, tf, ob, rfl, j1, q1, q2, q3, q4, q5, q6⟩
      | _ => cases n7 <;> cases h13
    | _ => cases e
def tupOB (K : PySem.W.Frag) (a : Addr) : Bool := match K.lookup a with
  | some ⟨.type c, none, _, _⟩ => decide (c = "tuple")
  | _ => false
theorem tupOB_ok {K : PySem.W.Frag} {a : Addr} (h : tupOB K a = true) : ∃ o, K.lookup a = some o ∧ o.cls = .type "tuple" ∧ o.dict = none := by
  unfold tupOB at h
  cases q : K.lookup a with
  | none =>
    rw [q] at h
    cases h
  | some o =>
    obtain ⟨oc, od, dt, osl⟩ := o
    rw [q] at h
    cases oc with
    | type c =>
      cases od with
      | none =>
        have e : c = "tuple" := of_decide_eq_true h
        exact ⟨_, rfl, by rw [e], rfl⟩
      | some d => cases h
    | _ => cases od <;> cases h
def excCB (K : PySem.W.Frag) (C : Addr) : Bool := decide (PySem.W.findIn K (.ref C) "__getattribute__" = some (some (.builtin "BaseException.__getattribute__"))) && (decide (PySem.W.findIn K (.ref C) "__getattr__" = some none) && (decide (PySem.W.subIn K (.ref C) (.type "BaseException") = some true) && (PySem.W.hasDictIn K C && (decide (PySem.W.findIn K (.ref C) "__class__" = some (some (.builtin "object.__class__"))) &&
  (decide (PySem.W.specialIn K (.builtin "object.__class__") "__get__" = some (some (.builtin "getset_descriptor.__get__"))) && (decide (PySem.W.takesIn K (.builtin "object.__class__") = some true) && decide (PySem.W.mroIn K C (.type "object") = some true)))))))
theorem excCB_ok {K : PySem.W.Frag} {C : Addr} (h : excCB K C = true) : ExcC K C := by
  obtain ⟨h1, h⟩ := ba h
  obtain ⟨h2, h⟩ := ba h
  obtain ⟨h3, h⟩ := ba h
  obtain ⟨h4, h⟩ := ba h
  obtain ⟨h5, h⟩ := ba h
  obtain ⟨h6, h⟩ := ba h
  obtain ⟨h7, h8⟩ := ba h
  exact ⟨of_decide_eq_true h1, of_decide_eq_true h2, of_decide_eq_true h3, h4, of_decide_eq_true h5, of_decide_eq_true h6, of_decide_eq_true h7, of_decide_eq_true h8⟩
end XH
namespace M
open PySem PySem.Spec PyProof.Rows L2
/-! ## defs that raise, defs called in an except suite -/
structure CalX (P : Program) (w : World) (K : PySem.W.Frag) (mg : Str → Option Value) (base : Heap) (k : Nat) (x : Str) (sp : Sp) : Prop where
  ex : ∃ (f : Addr) (fd : FuncData) (ps : List Str), FnOk P w K mg base (L2N.CX P w) k f fd ps sp ∧ mg x = some (.ref f) ∧ PySem.W.keepIn K (.ref f) = true ∧ Binds K fd ps []
structure CalH (P : Program) (w : World) (K : PySem.W.Frag) (mg : Str → Option Value) (base : Heap) (k : Nat) (x : Str) (sp : Sp) : Prop where
  ex : ∃ (f : Addr) (fd : FuncData) (ps : List Str), L2H.FnH P w K mg base CX0 k f fd ps sp ∧ mg x = some (.ref f) ∧ PySem.W.keepIn K (.ref f) = true ∧ Binds K fd ps []
theorem FnH.mono {P : Program} {w : World} {K : PySem.W.Frag} {mg : Str → Option Value} {base : Heap} {CX : CXT} {j k : Nat} {f : Addr} {fd : FuncData} {ps : List Str} {sp : Sp} (F : L2H.FnH P w K mg base CX j f fd ps sp) (h : j ≤ k) : L2H.FnH P w K mg base CX k f fd ps sp :=
  ⟨F.len, fun A outer s H args us vs Q E p hr => F.run A outer s H args us vs Q E p (hr.mono h)⟩
section
variable {X : Cx} {k j : Nat} {x : Str} {sp : Sp} {p pos : Pos} {e : Expr} {es : List Expr} {t : TA}
theorem pe_cX {W : WX} (c : CalX X.prog X.w X.K X.mg X.base k x sp) (hr : Room j X.A) (hk : k ≤ j) (hg : Gl X x) (tk : L2N.Takes X W) (ha : PA X (e :: es) t)
    (hdb : (x == ("__debug__" : Str)) = false := by decide) (he : starEach (e :: es) X.env = (false, eval e X.env) :: starEach es X.env := by rfl) (hpl : (backTo pos (starEach es X.env)).any (·.1) = false := by rfl) :
    PE X (.Call (.Name x p) (e :: es) [] pos) (tCallS sp (WE W) t) := by
  obtain ⟨f, fd, ps, F, hm, kp, b⟩ := c.ex
  exact pe_callS F (hr.mono hk) hg hm kp b (fun σ => L2N.passAt tk σ) ha hdb he hpl
theorem tCall_S {sp : Sp} {t : TA} : tCallS sp (fun _ => C8.E0) t = tCall sp [] C8.E0 t := by
  funext σ H Q
  unfold tCallS tCall
  congr 1
  funext vs H1
  rw [List.append_nil]
theorem pe_cH (c : CalH X.prog X.w X.K X.mg X.base k x sp) (hc : L2H.HotC X) (hr : L2H.RoomH j X.A) (hk : k ≤ j) (hg : Gl X x) (ha : PA X (e :: es) t)
    (hdb : (x == ("__debug__" : Str)) = false := by decide) (he : starEach (e :: es) X.env = (false, eval e X.env) :: starEach es X.env := by rfl) (hpl : (backTo pos (starEach es X.env)).any (·.1) = false := by rfl) :
    PE X (.Call (.Name x p) (e :: es) [] pos) (tCall sp [] C8.E0 t) := by
  obtain ⟨f, fd, ps, F, hm, kp, b⟩ := c.ex
  rw [← tCall_S]
  exact L2H.pe_callH (FnH.mono F hk) hr hc hg hm kp b (fun σ _ _ _ _ _ _ h => h.elim) ha hdb he hpl
theorem pe_cH0 (c : CalH X.prog X.w X.K X.mg X.base k x sp) (hc : L2H.HotC X) (hr : L2H.RoomH j X.A) (hk : k ≤ j) (hg : Gl X x)
    (hdb : (x == ("__debug__" : Str)) = false := by decide) : PE X (.Call (.Name x p) [] [] pos) (tCall sp [] C8.E0 tNil) := by
  obtain ⟨f, fd, ps, F, hm, kp, b⟩ := c.ex
  rw [← tCall_S]
  refine ⟨fun pins s σ H Q I h => ?_⟩
  refine wpAny_Call_Name_kw (ld_glob I hg hm ?_ hdb)
  exact PySem.W.callWith_K0 I.kIn kp (L2H.run_fnH (E := fun _ => C8.E0) (us := []) (FnH.mono F hk) hr hc b (fun _ _ _ _ _ _ h => h.elim) I .nil h)
theorem pe_c0 (c : C8.Cal X.prog X.w X.K X.mg X.base k x sp []) (hr : Room j X.A) (hk : k ≤ j) (hg : Gl X x)
    (hdb : (x == ("__debug__" : Str)) = false := by decide) : PE X (.Call (.Name x p) [] [] pos) (tCall sp [] C8.E0 tNil) := by
  obtain ⟨f, fd, ps, ds, F, hm, kp, b, d⟩ := c.ex
  exact pe_call0 F (hr.mono hk) hg hm kp b d C8.pass0 hdb
end
section
variable {P : Program} {w : World} {K : PySem.W.Frag} {mg : Str → Option Value} {base : Heap}
/-- a def of the module that may raise -/
theorem cal_mkX {x : Str} {st : Stmt} {f : Addr} {N ps : List Str} {k : Nat} {sp : Sp} (F : ∃ fd, FunD K x x (defArgs st) (defBody st) (defScope st) [] [] f fd) (hm : mg x = some (.ref f)) (S : FnScope N ps (defScope st))
    (hb : ∀ (kV doc pm : Value) (an : Option Addr) (cdv ct : Value) (us : List Value), us.length = ps.length → bindArgs (PySem.W.fnOf x x (defArgs st) (defBody st) (defScope st) .none kV doc pm an cdv ct) ⟨us, []⟩ = pure (ps.zip us))
    (len : ∀ vs H Q E, sp vs H Q E → vs.length = ps.length)
    (hbody : ∀ (cdv : Value) (A : Around) (outer : List Env) (s : Shared) (H : Hp) (vs : List V) (Q : VK) (E : XK), Room k (A.deeper (envOfC x (defScope st) s.heap.objs.size f cdv)) → sp vs H Q E →
      ∃ t, PSs (cxOf (L2N.CX P w) P w K mg base N x (defScope st) f cdv A outer s H E) (defBody st) t ∧ t ⟨fun _ H' => Q .non H', Q, fun _ _ => False, fun _ _ => False⟩ (start N vs) H) : CalX P w K mg base (k + 1) x sp := by
  obtain ⟨fd, F⟩ := F
  exact ⟨f, fd, ps, F.ok S len fun cdv A outer s H vs Q E hr h => hbody cdv A outer s H vs Q E hr h, hm, F.kp, F.bindsN hb⟩
/-- a def that lets nothing out, called while an exception is handled -/
theorem calH_mk {x : Str} {st : Stmt} {f : Addr} {N ps : List Str} {k : Nat} {sp : Sp} (F : ∃ fd, FunD K x x (defArgs st) (defBody st) (defScope st) [] [] f fd) (hm : mg x = some (.ref f)) (S : FnScope N ps (defScope st))
    (hb : ∀ (kV doc pm : Value) (an : Option Addr) (cdv ct : Value) (us : List Value), us.length = ps.length → bindArgs (PySem.W.fnOf x x (defArgs st) (defBody st) (defScope st) .none kV doc pm an cdv ct) ⟨us, []⟩ = pure (ps.zip us))
    (len : ∀ vs H Q E, sp vs H Q E → vs.length = ps.length)
    (hbody : ∀ (cdv : Value) (A : Around) (outer : List Env) (s : Shared) (H : Hp) (vs : List V) (Q : VK) (E : XK) (p : Addr × Obj), L2H.HotC (L2H.cxH CX0 P w K mg base N x (defScope st) f cdv A outer s H E p).nox → L2H.RoomH k (A.deeper (envOfC x (defScope st) s.heap.objs.size f cdv)) → sp vs H Q E →
      ∃ t, PSs (L2H.cxH CX0 P w K mg base N x (defScope st) f cdv A outer s H E p).nox (defBody st) t ∧ t ⟨fun _ H' => Q .non H', Q, fun _ _ => False, fun _ _ => False⟩ (start N vs) H) : CalH P w K mg base (k + 1) x sp := by
  obtain ⟨fd, F⟩ := F
  refine ⟨f, fd, ps, ?_, hm, F.kp, F.bindsN hb⟩
  obtain ⟨oc, od, dV, kV, doc, pm, an, cdv, ct, osl, rfl, lk, hcd, _, _⟩ := F.ex
  exact L2H.fn_ofH lk hcd S len fun A outer s H vs Q E p hot hr h => by
    obtain ⟨t, h1, h2⟩ := hbody _ A outer s H vs Q E p ⟨p, hot, List.mem_cons_self ..⟩ hr h
    exact ⟨t, h1.nox, h2⟩
end
/-! ### raise, try -/
theorem takesN0 {X : Cx} : L2N.Takes X (fun _ _ _ _ => False) := fun _ _ x => by
  obtain ⟨_, _, _, _, _, _, _, _, _, _, _, _, _, _, _, _, z⟩ := x
  exact z.elim
/-- in the suite of an except clause an exception is handled, whose context is None -/
theorem hot_suite {X : Cx} {a : Addr} {oe : Obj} {cls : Value} {d : Option Addr} {pn : List (Addr × Obj)} (hz : L2N.Zn cls d oe) (hf : ∃ vs, oe.data = .fields vs) : L2H.HotC (X.suite a ((a, oe) :: pn)) := by
  obtain ⟨vs, hv⟩ := hf
  exact ⟨(a, oe), ⟨rfl, vs, hv, hz.2.2 vs hv⟩, List.mem_cons_self ..⟩
theorem room_suite {X : Cx} {k : Nat} {a : Addr} {pn : List (Addr × Obj)} (hr : Room k X.A) : L2H.RoomH k (X.suite a pn).A := L2H.roomH_mark hr _
def tRz (W : WX) (t : L2.St → Hp → XK → Prop) : TS := fun _ σ H => t σ H fun cls d H' => W cls d σ H'
theorem ps_rz {X : Cx} {W : WX} {e : Expr} {t : L2.St → Hp → XK → Prop} {pos : Pos} (hc : X.calm = true) (tk : L2N.Takes X W) (he : L2N.PMk X e t) : PS X (.Raise (some e) none pos) (tRz W t) := L2N.ps_raise hc tk he
theorem x_rz {W : WX} {t : L2.St → Hp → XK → Prop} {D : Ends} {σ : L2.St} {H : Hp} (h : t σ H fun cls d H' => W cls d σ H') : tRz W t D σ H := h
theorem x_mkE {C : Addr} {fs : List Str} {ta : TA} {σ : L2.St} {H : Hp} {Q : XK} (h : ta σ H fun vs H1 => vs.length = fs.length ∧ (∀ v ∈ vs, XM.TxtV v) ∧ ∀ d, H1 d = none → Q (.ref C) (some d) (upd H1 d (.xd (fs.zip vs).reverse))) : XM.tMkE C fs ta σ H Q := h
def tTryAs (K : PySem.W.Frag) (c : Value) (i : Nat) (tb : WX → TS) (ts : Addr → Value → Option Addr → TS) : TS := fun D σ H => tb (wAs K c i ts (fun _ _ _ _ => False) D) D σ H
theorem x_tryAs {K : PySem.W.Frag} {c : Value} {i : Nat} {tb : WX → TS} {ts : Addr → Value → Option Addr → TS} {D : Ends} {σ : L2.St} {H : Hp} (h : tb (wAs K c i ts (fun _ _ _ _ => False) D) D σ H) : tTryAs K c i tb ts D σ H := h
theorem x_was {K : PySem.W.Frag} {c cls : Value} {i : Nat} {ts : Addr → Value → Option Addr → TS} {D : Ends} {σ : L2.St} {H : Hp} {d : Option Addr} {Wo : WX} (e : PySem.W.exmOne K cls c = some true)
    (h : ∀ a, H a = none → ts a cls d { nx := fun σ' H' => D.nx (σ'.set i none) H', rt := D.rt, bk := fun σ' H' => D.bk (σ'.set i none) H', ct := fun σ' H' => D.ct (σ'.set i none) H' } (σ.set i (some (.ref a))) H) : wAs K c i ts Wo D cls d σ H :=
  ⟨true, e, fun _ => h, fun q => Bool.noConfusion q⟩
section
variable {X : Cx} {x n : Str} {c : Value} {i : Nat} {body suite : List Stmt} {b₀ : Stmt} {np pos pos' : Pos} {tb : WX → TS} {ts : Addr → Value → Option Addr → TS}
/-- nothing but what the clause takes leaves the body -/
theorem ps_tryAs (hs : X.stack = X.env :: X.outer) (hf : X.env.frame = some X.env.locals) (hN : X.N.Nodup) (hi : X.N[i]? = some n) (hln : X.env.kindOf n = some .local) (hg : Gl X x) (hd : (x == ("__debug__" : Str)) = false) (hm : X.mg x = some c)
    (hb : ∀ (W : WX) (pn : List (Addr × Obj)) (xe : Value → Shared → Prop), L2N.Takes (X.tr pn xe) W → PassesOwn (model X.prog X.w) X.A X.env xe → PSs (X.tr pn xe) body (tb W))
    (hsu : ∀ (a : Addr) (oe : Obj) (cls : Value) (d : Option Addr) (pn : List (Addr × Obj)), L2N.Zn cls d oe → (∃ vs, oe.data = .fields vs) → PSs (X.suite a ((a, oe) :: pn)) (b₀ :: suite) (ts a cls d)) :
    PS X (.Try body [.ExceptHandler (some (.Name x np)) (some n) (b₀ :: suite) pos'] [] [] pos) (tTryAs X.K c i tb ts) := L2N.ps_try_as hs hf hN hi hln ⟨hg, hd, .inl hm⟩ takesN0 hb hsu
end
/-! ### isinstance(e, T), e held by the suite, with its own dict -/
theorem call_isX {X : Cx} {a D : Addr} {oe : Obj} {cls : Value} {dd : Option Addr} {pn : List (Addr × Obj)} (C : ExcC X.K D) (hz : Zc cls dd oe) (hf : ∃ vs, oe.data = .fields vs) :
    CallR (X.suite a ((a, oe) :: pn)) (.builtin "isinstance") (fun xs H Q => ∃ (c : V) (cv : Value) (b : Bool) (d : Addr) (fs : List (Str × V)), xs = [.ref a, c] ∧ cls = .ref D ∧ dd = some d ∧ H d = some (.xd fs) ∧ (∀ u, RelV c u → u = cv) ∧ PySem.W.kitOne X.K (.ref D) cv = some b ∧ Q (.bl b) H) := by
  intro pins s σ H xs us Q I r h
  obtain ⟨c, cv, b, d, fs, rfl, rfl, rfl, hd, hcv, e, q⟩ := h
  cases r with
  | cons rx rr =>
    cases rr with
    | cons rt rr =>
      cases rr
      cases rx
      have ec := hcv _ rt
      subst ec
      obtain ⟨hget, _⟩ := I.pin (a, oe) (List.mem_append.mpr (.inl List.mem_cons_self))
      obtain ⟨vs, hv⟩ := hf
      have hx : ObjOk X.prog X.w H s.heap d (.xd fs) := I.hok d _ hd
      obtain ⟨mA, hns, hr⟩ := hx
      obtain ⟨od, ho, hl⟩ := lookIn_ns hns
      have J : PySem.W.InstAt s.heap a oe D (some od) := ⟨hget, hz.1, by unfold PySem.W.notCls; rw [hv] <;> rfl, by rw [hz.2]; exact ho⟩
      have hcl : (PySem.W.clsIn X.K D).isSome = true := by
        obtain ⟨cd, hc, _⟩ := PySem.W.any_some C.hd
        rw [hc]; rfl
      exact PySem.W.kia_one (PySem.W.kitx_exc hcl C.hg C.hk C.hs C.ha C.hn C.ht C.hm) I.kIn J e (fun z => nomatch z) fun tk => ⟨.bl b, H, I.kept (t' := tk) fun _ _ z => z, rfl, q⟩
end M
namespace M
open PySem PySem.Spec PyProof.Rows L2
/-! ## texts in lists and tuples; split; equality of tuples and lists -/
def rTIdx (K : PySem.W.Frag) : V → List V → Hp → VK → Prop := fun x xs H Q => ∃ p, ∃ ys : List Str, ∃ z j, x = .ref p ∧ xs = [.str z] ∧ SqT K H p (ys.map V.str) ∧ ys[j]? = some z ∧ (∀ m, m < j → ys[m]? ≠ some z) ∧ Q (.int (j : Nat)) H
theorem mt_tindex {X : Cx} : MtR X "tuple.index" (rTIdx X.K) := mt_tup_index
def rSplitZ : V → List V → Hp → VK → Prop := fun x xs H Q => ∃ a b, x = .str a ∧ xs = [.str b] ∧ (b.length == 0) = false ∧ a.length + 2 ≤ sizeLine ∧ rNewStrs (Txt.split a b) H Q
theorem pe_splitZ {X : Cx} {o e : Expr} {to te : TE} {apos pos : Pos} (ho : PE X o to) (he : PE X e te) (hs : starEach [e] X.env = [(false, eval e X.env)] := by rfl) (hbase : attributeBase o "split" X.env (eval o X.env) = eval o X.env := by rfl) (hline : (apos.endLine == pos.line) = true := by rfl) :
    PE X (.Call (.Attribute o "split" apos) [e] [] pos) (tM1 rSplitZ to te) := pe_split ho he hs hbase hline
theorem flat_strsV (l : List Str) : (l.map V.str).all flatV = true := List.all_eq_true.mpr fun x hx => by
  obtain ⟨z, _, rfl⟩ := List.mem_map.mp hx
  rfl
theorem first_idx {l : List Str} {z : Str} (hz : z ∈ l) : l[l.idxOf z]? = some z ∧ ∀ m, m < l.idxOf z → l[m]? ≠ some z := by
  have hl : l.idxOf z < l.length := List.idxOf_lt_length_of_mem hz
  refine ⟨by rw [List.getElem?_eq_getElem hl, List.getElem_idxOf hl], fun m hm q => ?_⟩
  have hml : m < l.length := by omega
  have e : l[m] = z := by rw [List.getElem?_eq_getElem hml] at q; exact Option.some.inj q
  have := List.not_of_lt_findIdx (p := (· == z)) (xs := l) (i := m) hm
  simp [e] at this
theorem inV_strs {z : Str} {l : List Str} : inV (.str z) (l.map V.str) = decide (z ∈ l) := by
  unfold inV
  rw [Bool.eq_iff_iff, decide_eq_true_iff, List.any_eq_true]
  constructor
  · rintro ⟨x, hx, e⟩
    obtain ⟨y, hy, rfl⟩ := List.mem_map.mp hx
    have e2 : y = z := by simpa [eqV] using e
    rw [← e2]; exact hy
  · intro hz
    exact ⟨.str z, List.mem_map.mpr ⟨z, hz, rfl⟩, by simp [eqV]⟩
section
variable {σ : St} {H : Hp} {Q : VK} {x : V} {to te : TE} {t : TA} {K : PySem.W.Frag} {p : Addr} {xs : List V} {l : List Str} {z : Str}
theorem x_inL (h : SqL K H p xs) (fx : flatV x = true) (fs : xs.all flatV = true) (k : Q (.bl (inV x xs)) H) : rIn K false x (.ref p) H Q := ⟨p, xs, rfl, .inl h, fx, fs, k⟩
theorem x_inT (h : SqT K H p xs) (fx : flatV x = true) (fs : xs.all flatV = true) (k : Q (.bl (inV x xs)) H) : rIn K false x (.ref p) H Q := ⟨p, xs, rfl, .inr h, fx, fs, k⟩
theorem x_notInL (h : SqL K H p xs) (fx : flatV x = true) (fs : xs.all flatV = true) (k : Q (.bl (!inV x xs)) H) : rIn K true x (.ref p) H Q := ⟨p, xs, rfl, .inl h, fx, fs, k⟩
theorem x_notInT (h : SqT K H p xs) (fx : flatV x = true) (fs : xs.all flatV = true) (k : Q (.bl (!inV x xs)) H) : rIn K true x (.ref p) H Q := ⟨p, xs, rfl, .inr h, fx, fs, k⟩
/-- a value of this type, then -/
def isTy (K : PySem.W.Frag) (T : String) (x : V) (H : Hp) (A : Prop) : Prop := tyV K T x H ∧ A
theorem x_bm {T : String} {r : V → List V → Hp → VK → Prop} (k : to σ H fun x H1 => isTy K T x H1 (t σ H1 fun xs H2 => r x xs H2 Q)) : tBM K T r to t σ H Q := k
theorem x_tyL {A : Prop} (h : SqL K H p xs) (k : A) : isTy K "list" (.ref p) H A := ⟨.inl ⟨rfl, xs, h⟩, k⟩
theorem x_tyK {A : Prop} (h : ∃ o, K.lookup p = some o ∧ o.cls = .type "tuple" ∧ o.dict = none) (k : A) : isTy K "tuple" (.ref p) H A := ⟨.inr (.inl ⟨rfl, h⟩), k⟩
theorem x_tidx (h : SqT K H p (l.map V.str)) (hz : z ∈ l) (k : Q (.int (l.idxOf z)) H) : rTIdx K (.ref p) [.str z] H Q := ⟨p, l, z, _, rfl, rfl, h, (first_idx hz).1, (first_idx hz).2, k⟩
theorem x_lidx (h : SqL K H p (l.map V.str)) (hz : z ∈ l) (k : Q (.int (l.idxOf z)) H) : rIndex K (.ref p) [.str z] H Q := by
  refine ⟨p, l.map V.str, .str z, l.idxOf z, .str z, rfl, rfl, h, rfl, flat_strsV l, ?_, ?_, fun m z' hm hz' => ?_, k⟩
  · rw [List.getElem?_map, (first_idx hz).1]; rfl
  · simp [eqV]
  · rw [List.getElem?_map] at hz'
    cases q : l[m]? with
    | none => rw [q] at hz'; cases hz'
    | some y =>
      rw [q] at hz'
      have e : V.str y = z' := Option.some.inj hz'
      subst e
      have ne : y ≠ z := fun e => (first_idx hz).2 m hm (by rw [q, e])
      simpa [eqV] using ne
def isTxt (x : V) (A : Prop) : Prop := (∃ a, x = .str a) ∧ A
theorem x_m1 {r : V → List V → Hp → VK → Prop} (k : to σ H fun x H1 => isTxt x (te σ H1 fun y H2 => r x [y] H2 Q)) : tM1 r to te σ H Q := k
theorem x_txt {A : Prop} (k : A) : isTxt (.str z) A := ⟨⟨z, rfl⟩, k⟩
theorem x_split {a b : Str} (hb : (b.length == 0) = false) (hl : a.length + 2 ≤ sizeLine) (k : ∀ p H2, H p = none → Same H H2 → H2 p = some (.lst ((Txt.split a b).map V.str)) → Q (.ref p) H2) : rSplitZ (.str a) [.str b] H Q :=
  ⟨a, b, rfl, rfl, hb, hl, fun p hp => k p _ hp (same_new hp) upd_same⟩
theorem x_addZ {a b : Str} (h : a.length + b.length ≤ sizeLine) (k : Q (.str (a ++ b)) H) : rAddZ (.str a) (.str b) H Q := ⟨a, b, rfl, rfl, h, k⟩
theorem x_tupL {ys : List V} (h : SqL K H p ys) (k : ∀ q H2, H q = none → Same H H2 → H2 q = some (.tup ys) → Q (.ref q) H2) : rTupQ K [.ref p] H Q := ⟨p, ys, rfl, .inl ⟨h, fun q hq => k q _ hq (same_new hq) upd_same⟩⟩
theorem x_tupT {ys : List V} (h : SqT K H p ys) (k : Q (.ref p) H) : rTupQ K [.ref p] H Q := ⟨p, ys, rfl, .inr ⟨h, k⟩⟩
theorem DpAll.strs : ∀ l : List Str, DpAll K H (l.map V.str) (l.map PyData.str)
  | [] => .nil
  | z :: l => .cons (.str z) (DpAll.strs l)
theorem DpAll.ints : ∀ l : List Int, DpAll K H (l.map V.int) (l.map PyData.int)
  | [] => .nil
  | z :: l => .cons (.int z) (DpAll.ints l)
theorem x_neD {x y : V} {d e : PyData} (h1 : Dp K H x d) (h2 : Dp K H y e) (s1 : SeqAt.shaped d = true) (s2 : SeqAt.shaped e = true) (k : Q (.bl (!PyData.eqv d e)) H) : rNeD K x y H Q := ⟨d, e, h1, h2, s1, s2, k⟩
theorem x_eqD {x y : V} {d e : PyData} (h1 : Dp K H x d) (h2 : Dp K H y e) (s1 : SeqAt.shaped d = true) (s2 : SeqAt.shaped e = true) (k : Q (.bl (PyData.eqv d e)) H) : rEqD K x y H Q := ⟨d, e, h1, h2, s1, s2, k⟩
theorem x_isiTT {ys : List V} (h : H p = some (.tup ys)) (k : Q (.bl true) H) : rIsi K [.ref p, .ty "tuple"] H Q := x_isi (.base (.tup h)) (by decide +kernel) k
end
/-- isinstance(e, c) where e is the exception that the suite holds -/
def rIsX (K : PySem.W.Frag) (D a : Addr) (cls : Value) (dd : Option Addr) : List V → Hp → VK → Prop := fun xs H Q => ∃ (c : V) (cv : Value) (b : Bool) (d : Addr) (fs : List (Str × V)), xs = [.ref a, c] ∧ cls = .ref D ∧ dd = some d ∧ H d = some (.xd fs) ∧ (∀ u, RelV c u → u = cv) ∧ PySem.W.kitOne K (.ref D) cv = some b ∧ Q (.bl b) H
theorem call_isXn {X : Cx} {a D : Addr} {oe : Obj} {cls : Value} {dd : Option Addr} {pn : List (Addr × Obj)} (C : ExcC X.K D) (hz : Zc cls dd oe) (hf : ∃ vs, oe.data = .fields vs) : CallR (X.suite a ((a, oe) :: pn)) (.builtin "isinstance") (rIsX X.K D a cls dd) := call_isX C hz hf
section
variable {σ : St} {H : Hp} {Q : VK} {K : PySem.W.Frag} {a D d : Addr} {fs : List (Str × V)} {te : TE}
theorem x_isXr {A : Addr} {b : Bool} (hd : H d = some (.xd fs)) (e : PySem.W.kitOne K (.ref D) (.ref A) = some b) (k : Q (.bl b) H) : rIsX K D a (.ref D) (some d) [.ref a, .ref A] H Q := ⟨_, _, b, d, fs, rfl, rfl, rfl, hd, fun u h => h, e, k⟩
theorem x_isXt {T : String} {b : Bool} (hd : H d = some (.xd fs)) (e : PySem.W.kitOne K (.ref D) (.type T) = some b) (k : Q (.bl b) H) : rIsX K D a (.ref D) (some d) [.ref a, .ty T] H Q := ⟨_, _, b, d, fs, rfl, rfl, rfl, hd, fun u h => h, e, k⟩
/-- e.f -/
def isXf (a : Addr) (cls : Value) (dd : Option Addr) (C : Addr) (f : Str) (x : V) (H1 : Hp) (Q : VK) : Prop := x = .ref a ∧ cls = .ref C ∧ ∃ (d : Addr) (fs : List (Str × V)) (v : V), dd = some d ∧ H1 d = some (.xd fs) ∧ fs.lookup f = some v ∧ Q v H1
theorem x_xf {cls : Value} {dd : Option Addr} {C : Addr} {f : Str} (k : te σ H fun x H1 => isXf a cls dd C f x H1 Q) : tXf a cls dd C f te σ H Q := k
theorem x_isXf {f : Str} {v : V} (hd : H d = some (.xd fs)) (l : fs.lookup f = some v) (k : Q v H) : isXf a (.ref D) (some d) D f (.ref a) H Q := ⟨rfl, rfl, d, fs, v, rfl, hd, l, k⟩
theorem x_callS {sp : Sp} {W : WX} {tr : TA} (k : tr σ H fun vs H1 => sp vs H1 Q (WE W σ)) : tCallS sp (WE W) tr σ H Q := k
end
section
variable {σ : St} {H : Hp} {Q : VK} {ta : TA} {te : TE} {g : TG} {vs : List Nat}
/-- [elt for x in range(n)] -/
theorem x_lcR {n : Int} {ys : List V} (hi : ∀ Q : List V → Hp → Prop, Q [.int n] H → ta σ H Q) (hz : 0 ≤ n ∧ n ≤ 100000) (hy : ys.length = n.toNat)
    (hs : ∀ (i : Nat) (y : V) (H' : Hp), (i : Int) < n → ys[i]? = some y → Same H H' → g (.int (i : Int)) (wipe σ vs) H' fun σ2 H2 => wipe σ2 vs = wipe σ vs ∧ H2 = H' ∧ ∀ R : VK, R y H' → te σ2 H' R)
    (k : ∀ p H2, H p = none → Same H H2 → H2 p = some (.lst ys) → Q (.ref p) H2) (hg : ∀ x σ H (P P' : St → Hp → Prop), (∀ σ H, P σ H → P' σ H) → g x σ H P → g x σ H P') : tLc (iRng1 ta) g tYes te vs σ H Q := by
  refine hi _ ⟨n, rfl, by omega, by omega, fun D hD => ?_⟩
  refine lc_range (lo := 0) (n := n.toNat) (fun i H' => Same H H' ∧ H' D = some (.lst (ys.take i))) ⟨same_new hD, upd_same⟩ (fun i H' hi p => ?_) (fun H' p => ?_)
  · have hlt : i < ys.length := by rw [hy]; exact hi
    have hyi : ys[i]? = some ys[i] := List.getElem?_eq_getElem hlt
    have e0 : (0 : Int) + (i : Int) = (i : Int) := Int.zero_add _
    rw [e0]
    refine hg _ _ _ _ _ (fun σ2 H2 q => ?_) (hs i ys[i] H' (by omega) hyi p.1)
    obtain ⟨q1, rfl, q2⟩ := q
    refine ⟨q1, ?_⟩
    refine q2 _ ⟨ys.take i, p.2, ?_, ?_, ?_⟩
    · rw [List.length_take, sizeLine_eq]; omega
    · intro b o e
      have hb : b ≠ D := ne_of_none e hD
      rw [upd_ne hb]
      exact p.1 b o e
    · rw [upd_same, ← List.take_append_getElem hlt]
  · have e : ys.take n.toNat = ys := by rw [← hy]; exact List.take_length
    rw [e] at p
    exact k D H' hD p.1 p.2
end
theorem atI_strs {l : List Str} {i : Int} (h0 : 0 ≤ i) (h1 : i < l.length) : atI (l.map V.str) i = some (.str (l.getD i.toNat "")) := by
  refine atI_of h0 ?_
  have hl : i.toNat < l.length := by omega
  rw [List.getElem?_map, List.getElem?_eq_getElem hl]
  simp [List.getD, hl]
theorem bEq {Q : VK} {H : Hp} {b b' : Bool} (k : Q (.bl b) H) (e : b = b') : Q (.bl b') H := e ▸ k
theorem iEq {Q : VK} {H : Hp} {b b' : Int} (k : Q (.int b) H) (e : b = b') : Q (.int b') H := e ▸ k
section
variable {H : Hp} {Q : VK} {p : Addr} {i : Int} {z : Str}
theorem x_isN0 (k : Q (.bl true) H) : rIsN .non .non H Q := ⟨rfl, k⟩
theorem x_isNr (k : Q (.bl false) H) : rIsN (.ref p) .non H Q := ⟨rfl, k⟩
theorem x_isNi (k : Q (.bl false) H) : rIsN (.int i) .non H Q := ⟨rfl, k⟩
theorem x_isNs (k : Q (.bl false) H) : rIsN (.str z) .non H Q := ⟨rfl, k⟩
theorem x_notN0 (k : Q (.bl false) H) : rNotN .non .non H Q := ⟨rfl, k⟩
theorem x_notNr (k : Q (.bl true) H) : rNotN (.ref p) .non H Q := ⟨rfl, k⟩
theorem x_notNi (k : Q (.bl true) H) : rNotN (.int i) .non H Q := ⟨rfl, k⟩
theorem x_notNs (k : Q (.bl true) H) : rNotN (.str z) .non H Q := ⟨rfl, k⟩
end
theorem inV_ints {z : Int} {l : List Int} : inV (.int z) (l.map V.int) = decide (z ∈ l) := by
  unfold inV
  rw [Bool.eq_iff_iff, decide_eq_true_iff, List.any_eq_true]
  constructor
  · rintro ⟨x, hx, e⟩
    obtain ⟨y, hy, rfl⟩ := List.mem_map.mp hx
    have e2 : y = z := by simpa [eqV] using e
    rw [← e2]; exact hy
  · intro hz
    exact ⟨.int z, List.mem_map.mpr ⟨z, hz, rfl⟩, by simp [eqV]⟩
theorem inV2 {z a b : Int} (h : inV (.int z) [.int a, .int b] = true) : z = a ∨ z = b := by
  have h2 : inV (.int z) (([a, b] : List Int).map V.int) = true := h
  rw [inV_ints] at h2
  simpa using h2
theorem inV3 {z a b c : Int} (h : inV (.int z) [.int a, .int b, .int c] = true) : z = a ∨ z = b ∨ z = c := by
  have h2 : inV (.int z) (([a, b, c] : List Int).map V.int) = true := h
  rw [inV_ints] at h2
  simpa using h2
theorem inV4 {z a b c d : Int} (h : inV (.int z) [.int a, .int b, .int c, .int d] = true) : z = a ∨ z = b ∨ z = c ∨ z = d := by
  have h2 : inV (.int z) (([a, b, c, d] : List Int).map V.int) = true := h
  rw [inV_ints] at h2
  simpa using h2
end M
namespace M
open PySem PySem.Spec PyProof.Rows L2
/-! ## what changes: lists, instances, dicts in place -/
/-- all that is not in S stays -/
def Ext (S : List Addr) (H H' : Hp) : Prop := ∀ b o, b ∉ S → H b = some o → H' b = some o
theorem Ext.refl (S : List Addr) (H : Hp) : Ext S H H := fun _ _ _ e => e
theorem Ext.trans {S : List Addr} {H H1 H2 : Hp} (a : Ext S H H1) (b : Ext S H1 H2) : Ext S H H2 := fun x o h e => b x o h (a x o h e)
theorem Ext.mono {S S' : List Addr} {H H1 : Hp} (a : Ext S H H1) (h : ∀ b, b ∈ S → b ∈ S') : Ext S' H H1 := fun x o hx e => a x o (fun z => hx (h x z)) e
theorem Ext.of_same {S : List Addr} {H H1 : Hp} (a : Same H H1) : Ext S H H1 := fun x o _ e => a x o e
theorem Ext.same {H H1 : Hp} (a : Ext [] H H1) : Same H H1 := fun x o e => a x o (by simp) e
theorem ext_upd {H : Hp} {p : Addr} {o : HO} : Ext [p] H (upd H p o) := fun b u hb e => by
  rw [upd_ne (fun z => hb (by rw [z]; exact List.mem_cons_self ..))]
  exact e
theorem Ext.at1 {H H' : Hp} {p b : Addr} {o : HO} (a : Ext [p] H H') (ne : b ≠ p) (e : H b = some o) : H' b = some o := a b o (by simpa using ne) e
theorem Ext.seq {S : List Addr} {K : PySem.W.Frag} {H H' : Hp} {a : Addr} {xs : List V} (e : Ext S H H') (ha : a ∉ S) (h : SqL K H a xs) : SqL K H' a xs := by
  rcases h with (h | ⟨o, h⟩) | h
  · exact .inl (.inl (e _ _ ha h))
  · exact .inl (.inr ⟨o, e _ _ ha h⟩)
  · exact .inr h
section
variable {σ : St} {H : Hp} {Q : VK} {to ti ta tv : TE} {tr : TA} {K : PySem.W.Frag} {p a C dx : Addr} {f m : Str} {v x y : V} {nx bk ct : St → Hp → Prop} {rt : VK} {fs : List (Str × V)}
theorem x_gsub {t : TSet} {P : St → Hp → Prop} (k : to σ H fun o H1 => ti σ H1 fun i H2 => t o i v H2 fun H3 => P σ H3) : gSub to ti t v σ H P := k
theorem ixN_int {n : Nat} {i : Int} (h0 : 0 ≤ i) (h1 : i < n) : ixN n i = some i.toNat := by
  unfold ixN
  rw [if_pos h0, if_pos h1]
theorem x_setL {xs : List V} {i : Int} {P : Hp → Prop} (h : H p = some (.lst xs)) (h0 : 0 ≤ i) (h1 : i < xs.length) (k : ∀ H2, Ext [p] H H2 → H2 p = some (.lst (xs.set i.toNat v)) → P H2) : rSetL (.ref p) (.int i) v H P :=
  ⟨p, xs, i, _, rfl, rfl, h, ixN_int h0 h1, k _ ext_upd upd_same⟩
theorem x_setI {l : List Int} {i z : Int} {P : Hp → Prop} (h : H p = some (.lst (l.map V.int))) (h0 : 0 ≤ i) (h1 : i < l.length) (k : ∀ H2, Ext [p] H H2 → H2 p = some (.lst ((l.set i.toNat z).map V.int)) → P H2) : rSetL (.ref p) (.int i) (.int z) H P :=
  x_setL h h0 (by rw [List.length_map]; exact h1) fun H2 e h2 => k H2 e (by rw [h2, List.map_set])
/-- e.f -/
def isFld (K : PySem.W.Frag) (f : Str) (x : V) (H : Hp) (Q : VK) : Prop := ∃ a C dx fs v, x = .ref a ∧ H a = some (.ins C dx fs) ∧ Cls K C ∧ NoAttr K C f ∧ fs.lookup f = some v ∧ Q v H
theorem x_fld (k : ta σ H fun x H1 => isFld K f x H1 Q) : tFld K ta f σ H Q := k
theorem x_isFld (h : H a = some (.ins C dx fs)) (c : Cls K C) (n : NoAttr K C f) (l : fs.lookup f = some v) (k : Q v H) : isFld K f (.ref a) H Q := ⟨a, C, dx, fs, v, rfl, h, c, n, l, k⟩
/-- e.f = value -/
def isSF (K : PySem.W.Frag) (f : Str) (y x : V) (H : Hp) (P : Hp → Prop) : Prop := ∃ a C dx fs, x = .ref a ∧ H a = some (.ins C dx fs) ∧ Cls K C ∧ NoAttr K C f ∧ fs.length < 1000 ∧ P (upd H a (.ins C dx (putF f y fs)))
theorem x_sfld (k : tv σ H fun y H1 => ta σ H1 fun x H2 => isSF K f y x H2 (nx σ)) : sFld K ta tv f ⟨nx, rt, bk, ct⟩ σ H := k
theorem x_isSF {fs' : List (Str × V)} {P : Hp → Prop} (h : H a = some (.ins C dx fs)) (c : Cls K C) (n : NoAttr K C f) (hl : fs.length < 1000) (e : putF f y fs = fs') (k : ∀ H2, Ext [a] H H2 → H2 a = some (.ins C dx fs') → P H2) : isSF K f y (.ref a) H P :=
  ⟨a, C, dx, fs, rfl, h, c, n, hl, k _ ext_upd (by rw [upd_same, e])⟩
/-- e.f op= value -/
def isFA (K : PySem.W.Frag) (tv : TE) (rd : V → V → Hp → VK → Prop) (f : Str) (x : V) (σ : St) (H1 : Hp) (P : Hp → Prop) : Prop := ∃ a C dx fs v, x = .ref a ∧ H1 a = some (.ins C dx fs) ∧ Cls K C ∧ NoAttr K C f ∧ fs.lookup f = some v ∧
  tv σ H1 fun y H2 => rd v y H2 fun z H3 => ∃ dx' fs', H3 a = some (.ins C dx' fs') ∧ fs'.length < 1000 ∧ P (upd H3 a (.ins C dx' (putF f z fs')))
theorem x_fldaug {rd : V → V → Hp → VK → Prop} (k : ta σ H fun x H1 => isFA K tv rd f x σ H1 (nx σ)) : sFldAug K ta tv rd f ⟨nx, rt, bk, ct⟩ σ H := k
/-- self.f += 1 and alike, the value an int that is read at once -/
theorem x_isFAadd {i j : Int} {fs' : List (Str × V)} {P : Hp → Prop} (h : H a = some (.ins C dx fs)) (c : Cls K C) (n : NoAttr K C f) (l : fs.lookup f = some (.int i)) (hl : fs.length < 1000) (htv : ∀ Q : VK, Q (.int j) H → tv σ H Q) (e : putF f (.int (i + j)) fs = fs')
    (k : ∀ H2, Ext [a] H H2 → H2 a = some (.ins C dx fs') → P H2) : isFA K tv rAdd f (.ref a) σ H P :=
  ⟨a, C, dx, fs, _, rfl, h, c, n, l, htv _ ⟨i, j, rfl, rfl, dx, fs, h, hl, k _ ext_upd (by rw [upd_same, e])⟩⟩
/-- e.m(..) -/
def isMeth (C : Addr) (m : Str) (x : V) (H : Hp) (A : Prop) : Prop := ∃ a dx fs, x = .ref a ∧ H a = some (.ins C dx fs) ∧ fs.lookup m = none ∧ A
theorem x_meth {sp : Sp} {E : XK} (k : ta σ H fun x H1 => isMeth C m x H1 (tr σ H1 fun vs H2 => sp (x :: vs) H2 Q E)) : tMeth C m sp [] E ta tr σ H Q := by
  have e : (fun x H1 => ∃ a dx fs, x = V.ref a ∧ H1 a = some (.ins C dx fs) ∧ fs.lookup m = none ∧ tr σ H1 fun vs H2 => sp (x :: (vs ++ [])) H2 Q E) = fun x H1 => isMeth C m x H1 (tr σ H1 fun vs H2 => sp (x :: vs) H2 Q E) := by
    funext x H1
    unfold isMeth
    have e2 : (fun (vs : List V) (H2 : Hp) => sp (x :: (vs ++ [])) H2 Q E) = fun vs H2 => sp (x :: vs) H2 Q E := by
      funext vs H2
      rw [List.append_nil]
    rw [e2]
  show ta σ H (fun x H1 => ∃ a dx fs, x = V.ref a ∧ H1 a = some (.ins C dx fs) ∧ fs.lookup m = none ∧ tr σ H1 fun vs H2 => sp (x :: (vs ++ [])) H2 Q E)
  rw [e]
  exact k
theorem x_isMeth {A : Prop} (h : H a = some (.ins C dx fs)) (l : fs.lookup m = none) (k : A) : isMeth C m (.ref a) H A := ⟨a, dx, fs, rfl, h, l, k⟩
/-- .., letting something out -/
def tMethS (C : Addr) (m : Str) (sp : Sp) (E : St → XK) (ta : TE) (t : TA) : TE := fun σ H Q => ta σ H fun x H1 => ∃ a dx fs, x = .ref a ∧ H1 a = some (.ins C dx fs) ∧ fs.lookup m = none ∧ t σ H1 fun vs H2 => sp (x :: vs) H2 Q (E σ)
theorem x_methS {sp : Sp} {W : WX} (k : ta σ H fun x H1 => isMeth C m x H1 (tr σ H1 fun vs H2 => sp (x :: vs) H2 Q (WE W σ))) : tMethS C m sp (WE W) ta tr σ H Q := k
/-- C(..) -/
def isNew (C : Addr) (sp : Sp) (E : XK) (vs : List V) (H1 : Hp) (Q : VK) : Prop := ∀ x dx, H1 x = none → H1 dx = none → dx ≠ x → sp (.ref x :: vs) (upd (upd H1 dx (.own x)) x (.ins C dx [])) (fun v H2 => v = .non ∧ Q (.ref x) H2) E
theorem x_make {sp : Sp} {E : XK} (k : tr σ H fun vs H1 => isNew C sp E vs H1 Q) : tMake C sp [] E tr σ H Q := by
  have e : (fun (vs : List V) (H1 : Hp) => ∀ x dx, H1 x = none → H1 dx = none → dx ≠ x → sp (.ref x :: (vs ++ [])) (upd (upd H1 dx (.own x)) x (.ins C dx [])) (fun v H2 => v = .non ∧ Q (.ref x) H2) E) = fun vs H1 => isNew C sp E vs H1 Q := by
    funext vs H1
    unfold isNew
    rw [List.append_nil]
  show tr σ H (fun (vs : List V) (H1 : Hp) => ∀ x dx, H1 x = none → H1 dx = none → dx ≠ x → sp (.ref x :: (vs ++ [])) (upd (upd H1 dx (.own x)) x (.ins C dx [])) (fun v H2 => v = .non ∧ Q (.ref x) H2) E)
  rw [e]
  exact k
theorem x_isNew {sp : Sp} {E : XK} {vs : List V} (k : ∀ x dx H2, H x = none → Same H H2 → H2 x = some (.ins C dx []) → sp (.ref x :: vs) H2 (fun v H3 => v = .non ∧ Q (.ref x) H3) E) : isNew C sp E vs H Q := fun x dx hx hd ne => by
  refine k x dx _ hx (fun b o e => ?_) upd_same
  rw [upd_ne (ne_of_none e hx), upd_ne (ne_of_none e hd)]
  exact e
/-! dicts -/
def isDG (x y : V) (H : Hp) (Q : VK) : Prop := ∃ a v, x = .ref a ∧ DGet H a y (some v) ∧ Q v H
theorem x_dget {td ty : TE} (k : td σ H fun x H1 => ty σ H1 fun y H2 => isDG x y H2 Q) : tDGet td ty σ H Q := k
theorem x_isDG {kvs : List (Key × V)} {z : Str} (h : H p = some (.dK kvs)) (l : valV kvs (.inr z) = some v) (k : Q v H) : isDG (.ref p) (.str z) H Q := ⟨p, v, rfl, by rw [← l]; exact DGet.k (k := .inr z) h, k⟩
def isDP (v x y : V) (H : Hp) (P : Hp → Prop) : Prop := ∃ a H4, x = .ref a ∧ DPut H a y v H4 ∧ P H4
theorem x_dput {td ty : TE} (k : tv σ H fun v H1 => td σ H1 fun x H2 => ty σ H2 fun y H3 => isDP v x y H3 (nx σ)) : sDPut td ty tv ⟨nx, rt, bk, ct⟩ σ H := k
theorem x_isDP {kvs kvs' : List (Key × V)} {z : Str} {P : Hp → Prop} (h : H p = some (.dK kvs)) (hl : kvs.length ≤ 1000) (e : putK kvs (.inr z) v = kvs') (k : ∀ H2, Ext [p] H H2 → H2 p = some (.dK kvs') → P H2) : isDP v (.ref p) (.str z) H P :=
  ⟨p, _, rfl, DPut.k (k := .inr z) h (by rw [sizeLine_eq]; omega), k _ ext_upd (by rw [upd_same, e])⟩
end
/-! ### methods: contracts -/
structure MetX (P : Program) (w : World) (K : PySem.W.Frag) (mg : Str → Option Value) (base : Heap) (k : Nat) (C : Addr) (m : Str) (sp : Sp) : Prop where
  ex : ∃ (f : Addr) (fd : FuncData) (ps : List Str), Cls K C ∧ Meth K C m f ∧ FnOk P w K mg base (L2N.CX P w) k f fd ps sp ∧ Binds K fd ps []
structure MetH (P : Program) (w : World) (K : PySem.W.Frag) (mg : Str → Option Value) (base : Heap) (k : Nat) (C : Addr) (m : Str) (sp : Sp) : Prop where
  ex : ∃ (f : Addr) (fd : FuncData) (ps : List Str), Cls K C ∧ Meth K C m f ∧ L2H.FnH P w K mg base CX0 k f fd ps sp ∧ Binds K fd ps []
section
variable {X : Cx} {k j : Nat} {C : Addr} {m : Str} {sp : Sp} {pos apos : Pos} {e o : Expr} {es : List Expr} {ta : TE} {t : TA}
theorem pe_mX {W : WX} {pl : Sem Bool} (c : MetX X.prog X.w X.K X.mg X.base k C m sp) (hr : Room j X.A) (hk : k ≤ j) (tk : L2N.Takes X W) (he : PE X o ta) (ha : PA X (e :: es) t)
    (hst : starEach (e :: es) X.env = (false, eval e X.env) :: starEach es X.env := by rfl) (hpl : (backTo pos (starEach es X.env)).any (·.1) = false := by rfl)
    (ht : eval (.Call (.Attribute o m apos) (e :: es) [] pos) X.env = (do
      let ov ← eval o X.env
      standAt apos.atName
      let (f, first) ← holding [ov] (getMethod ov m pl)
      callWith pos f first (backTo pos (starEach (e :: es) X.env)) (backToKw pos (keywordEach [] X.env))) := by rfl) :
    PE X (.Call (.Attribute o m apos) (e :: es) [] pos) (tMethS C m sp (WE W) ta t) := by
  obtain ⟨f, fd, ps, hc, hm, F, b⟩ := c.ex
  refine ⟨fun pins s σ H Q I h => ?_⟩
  refine PySem.W.methodCall_KW (pl := pl) (thn (he.run pins s σ H _ I h) fun u s1 ⟨x, H1, I1, rx, a, dx, fs, ex, ea, l, q⟩ => ?_) ht
  subst ex
  obtain rfl : u = Value.ref a := rx
  refine getmeth_ok I1 ea hc hm l ?_
  refine PySem.W.callWith_K (first := [.ref a]) (h₀ := X.base) I.ok.mod.kin hm.kp (thn (ha.run pos pins s1 σ H1 _ I1 q) fun us s2 ⟨vs, H2, I2, r, q2⟩ => ⟨I2.kIn, ?_⟩) hst hpl
  exact run_fnS (us := .ref a :: us) (vs := .ref a :: vs) F (hr.mono hk) b (L2N.passAt tk σ) I2 (.cons rfl r) q2
theorem pe_mX0 {W : WX} {pl : Sem Bool} (c : MetX X.prog X.w X.K X.mg X.base k C m sp) (hr : Room j X.A) (hk : k ≤ j) (tk : L2N.Takes X W) (he : PE X o ta)
    (ht : eval (.Call (.Attribute o m apos) [] [] pos) X.env = (do
      let ov ← eval o X.env
      standAt apos.atName
      let (f, first) ← holding [ov] (getMethod ov m pl)
      callWith pos f first (backTo pos (starEach [] X.env)) (backToKw pos (keywordEach [] X.env))) := by rfl) :
    PE X (.Call (.Attribute o m apos) [] [] pos) (tMethS C m sp (WE W) ta tNil) := by
  obtain ⟨f, fd, ps, hc, hm, F, b⟩ := c.ex
  refine ⟨fun pins s σ H Q I h => ?_⟩
  refine PySem.W.methodCall_KW (pl := pl) (thn (he.run pins s σ H _ I h) fun u s1 ⟨x, H1, I1, rx, a, dx, fs, ex, ea, l, q⟩ => ?_) ht
  subst ex
  obtain rfl : u = Value.ref a := rx
  refine getmeth_ok I1 ea hc hm l ?_
  exact PySem.W.callWith_K0 (first := [.ref a]) I1.kIn hm.kp (run_fnS (us := [.ref a]) (vs := [.ref a]) F (hr.mono hk) b (L2N.passAt tk σ) I1 (.cons rfl .nil) q)
theorem tMethH_S {sp : Sp} : L2H.tMethH C m sp (fun _ => C8.E0) ta t = tMeth C m sp [] C8.E0 ta t := by
  funext σ H Q
  unfold L2H.tMethH tMeth
  congr 1
  funext x H1
  congr 1
  funext a
  congr 1
  funext dx
  congr 1
  funext fs
  congr 1
  congr 1
  congr 1
  congr 1
  funext vs H2
  rw [List.append_nil]
theorem pe_mH {pl : Sem Bool} (c : MetH X.prog X.w X.K X.mg X.base k C m sp) (hc : L2H.HotC X) (hr : L2H.RoomH j X.A) (hk : k ≤ j) (he : PE X o ta) (ha : PA X (e :: es) t)
    (hst : starEach (e :: es) X.env = (false, eval e X.env) :: starEach es X.env := by rfl) (hpl : (backTo pos (starEach es X.env)).any (·.1) = false := by rfl)
    (ht : eval (.Call (.Attribute o m apos) (e :: es) [] pos) X.env = (do
      let ov ← eval o X.env
      standAt apos.atName
      let (f, first) ← holding [ov] (getMethod ov m pl)
      callWith pos f first (backTo pos (starEach (e :: es) X.env)) (backToKw pos (keywordEach [] X.env))) := by rfl) :
    PE X (.Call (.Attribute o m apos) (e :: es) [] pos) (tMeth C m sp [] C8.E0 ta t) := by
  obtain ⟨f, fd, ps, hcl, hm, F, b⟩ := c.ex
  rw [← tMethH_S]
  exact L2H.pe_methH (pl := pl) he hcl hm (FnH.mono F hk) hr hc b (fun σ _ _ _ _ _ _ h => h.elim) ha hst hpl ht
end
section
variable {P : Program} {w : World} {K : PySem.W.Frag} {mg : Str → Option Value} {base : Heap}
theorem met_mk {m qual : Str} {C : Addr} {st : Stmt} {f : Addr} {N ps : List Str} {k : Nat} {sp : Sp} (F : ∃ fd, FunD K m qual (defArgs st) (defBody st) (defScope st) [] [] f fd) (c : Cls K C) (me : Meth K C m f) (S : FnScope N ps (defScope st))
    (hb : ∀ (kV doc pm : Value) (an : Option Addr) (cdv ct : Value) (us : List Value), us.length = ps.length → bindArgs (PySem.W.fnOf m qual (defArgs st) (defBody st) (defScope st) .none kV doc pm an cdv ct) ⟨us, []⟩ = pure (ps.zip us))
    (len : ∀ vs H Q E, sp vs H Q E → vs.length = ps.length)
    (hbody : ∀ (cdv : Value) (A : Around) (outer : List Env) (s : Shared) (H : Hp) (vs : List V) (Q : VK) (E : XK), Room k (A.deeper (envOfC qual (defScope st) s.heap.objs.size f cdv)) → sp vs H Q E →
      ∃ t, PSs (cxOf CX0 P w K mg base N qual (defScope st) f cdv A outer s H E).nox (defBody st) t ∧ t ⟨fun _ H' => Q .non H', Q, fun _ _ => False, fun _ _ => False⟩ (start N vs) H) : C8.Met P w K mg base (k + 1) C m sp [] := by
  obtain ⟨fd, F⟩ := F
  refine ⟨f, fd, ps, [], c, me, F.ok S len fun cdv A outer s H vs Q E hr h => ?_, F.bindsN hb, .nil⟩
  obtain ⟨t, h1, h2⟩ := hbody cdv A outer s H vs Q E hr h
  exact ⟨t, h1.nox, h2⟩
theorem met_mkX {m qual : Str} {C : Addr} {st : Stmt} {f : Addr} {N ps : List Str} {k : Nat} {sp : Sp} (F : ∃ fd, FunD K m qual (defArgs st) (defBody st) (defScope st) [] [] f fd) (c : Cls K C) (me : Meth K C m f) (S : FnScope N ps (defScope st))
    (hb : ∀ (kV doc pm : Value) (an : Option Addr) (cdv ct : Value) (us : List Value), us.length = ps.length → bindArgs (PySem.W.fnOf m qual (defArgs st) (defBody st) (defScope st) .none kV doc pm an cdv ct) ⟨us, []⟩ = pure (ps.zip us))
    (len : ∀ vs H Q E, sp vs H Q E → vs.length = ps.length)
    (hbody : ∀ (cdv : Value) (A : Around) (outer : List Env) (s : Shared) (H : Hp) (vs : List V) (Q : VK) (E : XK), Room k (A.deeper (envOfC qual (defScope st) s.heap.objs.size f cdv)) → sp vs H Q E →
      ∃ t, PSs (cxOf (L2N.CX P w) P w K mg base N qual (defScope st) f cdv A outer s H E) (defBody st) t ∧ t ⟨fun _ H' => Q .non H', Q, fun _ _ => False, fun _ _ => False⟩ (start N vs) H) : MetX P w K mg base (k + 1) C m sp := by
  obtain ⟨fd, F⟩ := F
  exact ⟨f, fd, ps, c, me, F.ok S len fun cdv A outer s H vs Q E hr h => hbody cdv A outer s H vs Q E hr h, F.bindsN hb⟩
theorem metH_mk {m qual : Str} {C : Addr} {st : Stmt} {f : Addr} {N ps : List Str} {k : Nat} {sp : Sp} (F : ∃ fd, FunD K m qual (defArgs st) (defBody st) (defScope st) [] [] f fd) (c : Cls K C) (me : Meth K C m f) (S : FnScope N ps (defScope st))
    (hb : ∀ (kV doc pm : Value) (an : Option Addr) (cdv ct : Value) (us : List Value), us.length = ps.length → bindArgs (PySem.W.fnOf m qual (defArgs st) (defBody st) (defScope st) .none kV doc pm an cdv ct) ⟨us, []⟩ = pure (ps.zip us))
    (len : ∀ vs H Q E, sp vs H Q E → vs.length = ps.length)
    (hbody : ∀ (cdv : Value) (A : Around) (outer : List Env) (s : Shared) (H : Hp) (vs : List V) (Q : VK) (E : XK) (p : Addr × Obj), L2H.HotC (L2H.cxH CX0 P w K mg base N qual (defScope st) f cdv A outer s H E p).nox → L2H.RoomH k (A.deeper (envOfC qual (defScope st) s.heap.objs.size f cdv)) → sp vs H Q E →
      ∃ t, PSs (L2H.cxH CX0 P w K mg base N qual (defScope st) f cdv A outer s H E p).nox (defBody st) t ∧ t ⟨fun _ H' => Q .non H', Q, fun _ _ => False, fun _ _ => False⟩ (start N vs) H) : MetH P w K mg base (k + 1) C m sp := by
  obtain ⟨fd, F⟩ := F
  refine ⟨f, fd, ps, c, me, ?_, F.bindsN hb⟩
  obtain ⟨oc, od, dV, kV, doc, pm, an, cdv, ct, osl, rfl, lk, hcd, _, _⟩ := F.ex
  exact L2H.fn_ofH lk hcd S len fun A outer s H vs Q E p hot hr h => by
    obtain ⟨t, h1, h2⟩ := hbody _ A outer s H vs Q E p ⟨p, hot, List.mem_cons_self ..⟩ hr h
    exact ⟨t, h1.nox, h2⟩
theorem mak_mk {x qual : Str} {C : Addr} {st : Stmt} {f : Addr} {N ps : List Str} {k : Nat} {sp : Sp} (F : ∃ fd, FunD K "__init__" qual (defArgs st) (defBody st) (defScope st) [] [] f fd) (mk : Mk K C f) (hm : mg x = some (.ref C)) (S : FnScope N ps (defScope st))
    (hb : ∀ (kV doc pm : Value) (an : Option Addr) (cdv ct : Value) (us : List Value), us.length = ps.length → bindArgs (PySem.W.fnOf "__init__" qual (defArgs st) (defBody st) (defScope st) .none kV doc pm an cdv ct) ⟨us, []⟩ = pure (ps.zip us))
    (len : ∀ vs H Q E, sp vs H Q E → vs.length = ps.length)
    (hbody : ∀ (cdv : Value) (A : Around) (outer : List Env) (s : Shared) (H : Hp) (vs : List V) (Q : VK) (E : XK), Room k (A.deeper (envOfC qual (defScope st) s.heap.objs.size f cdv)) → sp vs H Q E →
      ∃ t, PSs (cxOf CX0 P w K mg base N qual (defScope st) f cdv A outer s H E).nox (defBody st) t ∧ t ⟨fun _ H' => Q .non H', Q, fun _ _ => False, fun _ _ => False⟩ (start N vs) H) : C8.Mak P w K mg base (k + 1) x C sp [] := by
  obtain ⟨fd, F⟩ := F
  refine ⟨f, fd, ps, [], mk, F.ok S len fun cdv A outer s H vs Q E hr h => ?_, hm, F.bindsN hb, .nil⟩
  obtain ⟨t, h1, h2⟩ := hbody cdv A outer s H vs Q E hr h
  exact ⟨t, h1.nox, h2⟩
/-- a def that is never reached: nothing is promised -/
def spNo : Sp := fun _ _ _ _ => False
theorem met_no {m qual : Str} {C : Addr} {st : Stmt} {f : Addr} {N ps : List Str} {k : Nat} (F : ∃ fd, FunD K m qual (defArgs st) (defBody st) (defScope st) [] [] f fd) (c : Cls K C) (me : Meth K C m f) (S : FnScope N ps (defScope st))
    (hb : ∀ (kV doc pm : Value) (an : Option Addr) (cdv ct : Value) (us : List Value), us.length = ps.length → bindArgs (PySem.W.fnOf m qual (defArgs st) (defBody st) (defScope st) .none kV doc pm an cdv ct) ⟨us, []⟩ = pure (ps.zip us)) : C8.Met P w K mg base (k + 1) C m spNo [] :=
  met_mk F c me S hb (fun _ _ _ _ h => h.elim) fun _ _ _ _ _ _ _ _ _ h => h.elim
theorem met_noX {m qual : Str} {C : Addr} {st : Stmt} {f : Addr} {N ps : List Str} {k : Nat} (F : ∃ fd, FunD K m qual (defArgs st) (defBody st) (defScope st) [] [] f fd) (c : Cls K C) (me : Meth K C m f) (S : FnScope N ps (defScope st))
    (hb : ∀ (kV doc pm : Value) (an : Option Addr) (cdv ct : Value) (us : List Value), us.length = ps.length → bindArgs (PySem.W.fnOf m qual (defArgs st) (defBody st) (defScope st) .none kV doc pm an cdv ct) ⟨us, []⟩ = pure (ps.zip us)) : MetX P w K mg base (k + 1) C m spNo :=
  met_mkX F c me S hb (fun _ _ _ _ h => h.elim) fun _ _ _ _ _ _ _ _ _ h => h.elim
end
/-! ### a local that holds a def; a written dict -/
theorem hu {k : Nat} {A : Around} (hr : Room k A) : A.units + 1 < cLine := by have := hr.un; omega
theorem huH {k : Nat} {A : Around} (hr : L2H.RoomH k A) : A.units + 1 < cLine := by have := hr.un; omega
def tCallP (P : Program) (w : World) (K : PySem.W.Frag) (mg : Str → Option Value) (base : Heap) (k : Nat) (i : Nat) (t : TA) : TE := fun σ H Q => ∃ f sp, σ[i]? = some (some (.ref f)) ∧ Held P w K mg base k f sp ∧ t σ H fun vs H1 => sp vs H1 Q (fun _ _ _ => False)
section
variable {X : Cx} {k j i : Nat} {x : Str} {p pos : Pos} {e : Expr} {es : List Expr} {t : TA}
theorem pe_callP (hr : Room j X.A) (hN : X.N[i]? = some x) (hv : Vis X.env.scope x) (ha : PA X (e :: es) t) (hk : k ≤ j := by decide)
    (hdb : (x == ("__debug__" : Str)) = false := by decide) (hcd : (x == ("__classdict__" : Str)) = false := by decide)
    (he : starEach (e :: es) X.env = (false, eval e X.env) :: starEach es X.env := by rfl) (hpl : (backTo pos (starEach es X.env)).any (·.1) = false := by rfl) : PE X (.Call (.Name x p) (e :: es) [] pos) (tCallP X.prog X.w X.K X.mg X.base k i t) := by
  refine ⟨fun pins s σ H Q I h => ?_⟩
  obtain ⟨f, sp, hs, hS, ht⟩ := h
  obtain ⟨fd, ps, F, hkp, hb⟩ := hS.ex
  refine (pe_callL (i := i) (f := f) (sp := sp) (dvs := []) (E := fun _ _ _ => False) F (hr.mono hk) hN hv hkp hb .nil (fun _ _ _ _ _ _ _ z => z.elim) ha hdb hcd he hpl).run pins s σ H Q I ⟨hs, ?_⟩
  have e0 : (fun (vs : List V) (H1 : Hp) => sp (vs ++ []) H1 Q (fun _ _ _ => False)) = fun vs H1 => sp vs H1 Q (fun _ _ _ => False) := by
    funext vs H1
    rw [List.append_nil]
  show t σ H (fun vs H1 => sp (vs ++ []) H1 Q (fun _ _ _ => False))
  rw [e0]
  exact ht
end
section
variable {P : Program} {w : World} {K : PySem.W.Frag} {mg : Str → Option Value} {base : Heap} {k j i : Nat} {f p : Addr} {sp : Sp} {σ : St} {H : Hp} {Q : VK} {t : TA} {v : V} {z : Str} {a : Addr} {xs : List V} {n : Nat}
theorem held_of {x : Str} (c : C8.Cal P w K mg base k x sp []) (g : mg x = some (.ref f)) (hk : k ≤ j) : Held P w K mg base j f sp := by
  obtain ⟨f', fd, ps, ds, F, hm, kp, b, d⟩ := c.ex
  have e := hm.symm.trans g
  cases e
  cases d
  exact ⟨fd, ps, F.mono hk, kp, b⟩
theorem x_callP (hs : σ[i]? = some (some (.ref f))) (h : Held P w K mg base k f sp) (q : t σ H fun vs H1 => sp vs H1 Q (fun _ _ _ => False)) : tCallP P w K mg base k i t σ H Q := ⟨f, sp, hs, h, q⟩
theorem x_kd (h : KDct K w p z v) (q : Q v H) : rIxD K w (.ref p) (.str z) H Q := ⟨p, z, v, rfl, rfl, h, q⟩
theorem kdct_of {kvs : List (Str × He.Dv)} (D : ∃ es n, KDict K w p es n) (h : He.valsB K p kvs = true) {q : Str × He.Dv} (hq : q ∈ kvs) : KDct K w p q.1 (q.2.v K) := by
  obtain ⟨es, n, d⟩ := D
  obtain ⟨u, hu, r⟩ := He.valsB_ok h hq
  exact ⟨es, n, u, d.at_, d.lit, hu, r⟩
/-! a, b = t -/
theorem x_gtup {tg : TGs} {P : St → Hp → Prop} (h : SqT K H a xs) (hl : xs.length = n) (q : tg xs σ H P) : gTup K n tg (.ref a) σ H P := ⟨a, xs, rfl, h, hl, q⟩
end
section
variable {σ : L2.St} {H : Hp} {v : V} {xs : List V} {g : TG} {u : TGs} {P : L2.St → Hp → Prop}
theorem x_gnil (q : P σ H) : gNil [] σ H P := ⟨rfl, q⟩
theorem x_gcons (q : g v σ H fun σ' H' => u xs σ' H' P) : gCons g u (v :: xs) σ H P := ⟨v, xs, rfl, q⟩
end
/-! ### a caught Trap, a raised one -/
/-- an error of the class at C with these fields goes out -/
def Out1 (C : Addr) (fs : List (Str × V)) (H : Hp) (E : XK) : Prop := ∀ d H', H d = none → Same H H' → H' d = some (.xd fs) → E (.ref C) (some d) H'
theorem x_out {C : Addr} {fs : List (Str × V)} {H : Hp} {E : XK} (h : Out1 C fs H E) : ∀ d, H d = none → E (.ref C) (some d) (upd H d (.xd fs)) := fun d hd => h d _ hd (same_new hd) upd_same
/-- a new error of two fields -/
def isE2 (C : Addr) (f0 f1 : Str) (vs : List V) (H : Hp) (E : XK) : Prop := vs.length = 2 ∧ (∀ v ∈ vs, XM.TxtV v) ∧ ∀ d, H d = none → E (.ref C) (some d) (upd H d (.xd (([f0, f1] : List Str).zip vs).reverse))
theorem x_isE2 {C : Addr} {f0 f1 : Str} {v0 v1 : V} {H : Hp} {E : XK} (h0 : XM.TxtV v0) (h1 : XM.TxtV v1) (k : Out1 C [(f1, v1), (f0, v0)] H E) : isE2 C f0 f1 [v0, v1] H E := by
  refine ⟨rfl, ?_, fun d hd => x_out k d hd⟩
  intro v hv
  simp only [List.mem_cons, List.not_mem_nil, or_false] at hv
  rcases hv with rfl | rfl
  · exact h0
  · exact h1
theorem txtI {i : Int} (h : i.natAbs < 1000000000) : XM.TxtV (.int i) := .inl ⟨i, rfl, h⟩
theorem x_mkE2 {C : Addr} {f0 f1 : Str} {σ : L2.St} {H : Hp} {E : XK} {ta : TA} (k : ta σ H fun vs H1 => isE2 C f0 f1 vs H1 E) : XM.tMkE C [f0, f1] ta σ H E := k
/-! ### try: .., except X: .. -/
def tTryO (K : PySem.W.Frag) (c : Value) (tb : WX → TS) (ts : Addr → Value → Option Addr → TS) : TS := fun D σ H => tb (wMany K (fun _ _ _ _ => False) D [(c, ts)]) D σ H
theorem x_tryO {K : PySem.W.Frag} {c : Value} {tb : WX → TS} {ts : Addr → Value → Option Addr → TS} {D : Ends} {σ : L2.St} {H : Hp} (h : tb (wMany K (fun _ _ _ _ => False) D [(c, ts)]) D σ H) : tTryO K c tb ts D σ H := h
theorem ps_tryO {X : Cx} {x : Str} {c : Value} {body suite : List Stmt} {b₀ : Stmt} {np pos pos' : Pos} {tb : WX → TS} {ts : Addr → Value → Option Addr → TS} (hs : X.stack = X.env :: X.outer) (hf : X.env.frame = some X.env.locals) (hg : Gl X x) (hd : (x == ("__debug__" : Str)) = false) (hm : X.mg x = some c)
    (hb : ∀ (W : WX) (pn : List (Addr × Obj)) (xe : Value → Shared → Prop), L2N.Takes (X.tr pn xe) W → PassesOwn (model X.prog X.w) X.A X.env xe → PSs (X.tr pn xe) body (tb W))
    (hsu : ∀ (a : Addr) (oe : Obj) (cls : Value) (d : Option Addr) (pn : List (Addr × Obj)), L2N.Zn cls d oe → (∃ vs, oe.data = .fields vs) → PSs (X.suite a ((a, oe) :: pn)) (b₀ :: suite) (ts a cls d)) :
    PS X (.Try body [.ExceptHandler (some (.Name x np)) none (b₀ :: suite) pos'] [] [] pos) (tTryO X.K c tb ts) := L2N.ps_try_many hs hf takesN0 hb (.cons ⟨hg, hd, .inl hm⟩ hsu .nil)
section
variable {H : Hp} {a b C dx : Addr} {fs : List (Str × V)} {xs : List V} {kvs : List (Key × V)}
theorem ne_ho {o u : HO} (ha : H a = some o) (hb : H b = some u) (d : o ≠ u) : a ≠ b := fun z => by
  rw [z, hb] at ha
  exact d (Option.some.inj ha).symm
theorem ne_il (ha : H a = some (.ins C dx fs)) (hb : H b = some (.lst xs)) : a ≠ b := ne_ho ha hb (fun z => by cases z)
theorem ne_li (ha : H a = some (.lst xs)) (hb : H b = some (.ins C dx fs)) : a ≠ b := ne_ho ha hb (fun z => by cases z)
theorem ne_tl {ys : List V} (ha : H a = some (.tup ys)) (hb : H b = some (.lst xs)) : a ≠ b := ne_ho ha hb (fun z => by cases z)
theorem ne_ti {ys : List V} (ha : H a = some (.tup ys)) (hb : H b = some (.ins C dx fs)) : a ≠ b := ne_ho ha hb (fun z => by cases z)
theorem ne_dl (ha : H a = some (.dK kvs)) (hb : H b = some (.lst xs)) : a ≠ b := ne_ho ha hb (fun z => by cases z)
theorem ne_ld (ha : H a = some (.lst xs)) (hb : H b = some (.dK kvs)) : a ≠ b := ne_ho ha hb (fun z => by cases z)
theorem ne_di (ha : H a = some (.dK kvs)) (hb : H b = some (.ins C dx fs)) : a ≠ b := ne_ho ha hb (fun z => by cases z)
theorem ne_td {ys : List V} (ha : H a = some (.tup ys)) (hb : H b = some (.dK kvs)) : a ≠ b := ne_ho ha hb (fun z => by cases z)
end
section
variable {σ : L2.St} {H : Hp} {Q : VK} {K : PySem.W.Frag} {p : Addr} {ys : List V} {c : TT} {tb : TS} {nx bk ct : L2.St → Hp → Prop} {rt : VK}
/-- a turn of a while -/
def TurnW (Pv : Nat → L2.St → Hp → Prop) (m : Nat) (tb : TS) (rt : VK) (nx : L2.St → Hp → Prop) (σ' : L2.St) (H1 : Hp) : Prop := ∃ N : L2.St → Hp → Prop, (∀ σ' H', N σ' H' → ∃ m', m' < m ∧ Pv m' σ' H') ∧ tb ⟨N, rt, nx, N⟩ σ' H1
theorem x_turn {Pv : Nat → L2.St → Hp → Prop} {m : Nat} (k : tb ⟨fun σ2 H2 => ∃ m', m' < m ∧ Pv m' σ2 H2, rt, nx, fun σ2 H2 => ∃ m', m' < m ∧ Pv m' σ2 H2⟩ σ H) : TurnW Pv m tb rt nx σ H := ⟨_, fun _ _ h => h, k⟩
/-- while: by a measure -/
theorem x_while (Pv : Nat → L2.St → Hp → Prop) (m : Nat) (h0 : Pv m σ H) (hs : ∀ m σ' H', Pv m σ' H' → c σ' H' fun b H1 => ifB b (TurnW Pv m tb rt nx σ' H1) (nx σ' H1)) : tWhile c tb ⟨nx, rt, bk, ct⟩ σ H :=
  ⟨Pv, ⟨m, h0⟩, fun m σ' H' p => hs m σ' H' p⟩
theorem x_listQ (h : SqL K H p ys ∨ SqT K H p ys) (k : ∀ q H2, H q = none → Same H H2 → H2 q = some (.lst ys) → Q (.ref q) H2) : rListQ K [.ref p] H Q := ⟨p, ys, rfl, h, fun q hq => k q _ hq (same_new hq) upd_same⟩
theorem x_rep {k : Int} {xs : List V} (h : H p = some (.lst xs)) (h0 : 0 ≤ k ∧ k < 1000) (hl : xs.length * k.toNat ≤ 100000) (q : ∀ r H2, H r = none → Same H H2 → H2 r = some (.lst (List.replicate k.toNat xs).flatten) → Q (.ref r) H2) : rRep (.ref p) (.int k) H Q :=
  ⟨p, k, xs, rfl, rfl, h, by omega, by omega, sl4 hl, fun r hr => q r _ hr (same_new hr) upd_same⟩
end
section
variable {X : Cx} {K : PySem.W.Frag} {e o value : Expr} {ta tv : TE} {f : Str} {pos pos' : Pos}
theorem pe_fldK (hK : X.K = K) (he : PE X e ta) (hb : attributeBase e f X.env (eval e X.env) = eval e X.env) : PE X (.Attribute e f pos) (tFld K ta f) := hK ▸ pe_fld he hb
theorem ps_fldK (hK : X.K = K) (ha : PE X o ta) (hv : PE X value tv) (hs : swapsWith value (some (.Attribute o f pos')) pos.line X.env = pure false) : PS X (.Assign [.Attribute o f pos'] value pos) (sFld K ta tv f) := hK ▸ ps_fld ha hv hs
end
theorem x_wMany1 {K : PySem.W.Frag} {c cls : Value} {ts : Addr → Value → Option Addr → TS} {D : Ends} {σ : L2.St} {H : Hp} {d : Option Addr} {Wo : WX} (e : PySem.W.exmOne K cls c = some true) (h : ∀ a, H a = none → ts a cls d D σ H) : wMany K Wo D [(c, ts)] cls d σ H := ⟨true, e, fun _ => h, fun q => Bool.noConfusion q⟩
section
variable {H : Hp} {Q : VK} {p : Addr} {xs : List V} {v : V} {l : List Int} {z : Int}
theorem x_append (h : H p = some (.lst xs)) (hl : xs.length ≤ 50000) (k : ∀ H2, Ext [p] H H2 → H2 p = some (.lst (xs ++ [v])) → Q .non H2) : rAppend (.ref p) [v] H Q :=
  ⟨p, xs, v, rfl, rfl, h, by rw [sizeLine_eq]; omega, k _ ext_upd upd_same⟩
theorem x_appendI (h : H p = some (.lst (l.map V.int))) (hl : l.length ≤ 50000) (k : ∀ H2, Ext [p] H H2 → H2 p = some (.lst ((l ++ [z]).map V.int)) → Q .non H2) : rAppend (.ref p) [.int z] H Q :=
  x_append h (by rw [List.length_map]; exact hl) fun H2 e h2 => k H2 e (by rw [h2, List.map_append]; rfl)
end
/-! comprehensions whose values are known up to a property; the heap may grow on the way -/
section
variable {σ : L2.St} {H : Hp} {Q : VK} {ta : TA} {tl te : TE} {g : TG} {vs : List Nat} {K : PySem.W.Frag}
def LcI (R : Nat → V → Prop) (H : Hp) (D : Addr) (i : Nat) (H' : Hp) : Prop := Same H H' ∧ ∃ ys : List V, H' D = some (.lst ys) ∧ ys.length = i ∧ ∀ (j : Nat) (y : V), ys[j]? = some y → R j y
theorem LcI.step {R : Nat → V → Prop} {D : Addr} {i : Nat} {H' H3 : Hp} {y : V} (hD : H D = none) (hi : i ≤ 100000) (p : LcI R H D i H') (e : Same H' H3) (hy : R i y) : ∃ acc, H3 D = some (.lst acc) ∧ acc.length < sizeLine ∧ LcI R H D (i + 1) (upd H3 D (.lst (acc ++ [y]))) := by
  obtain ⟨p1, ys, p2, p3, p4⟩ := p
  refine ⟨ys, e _ _ p2, by rw [sizeLine_eq]; omega, fun b o h => ?_, ys ++ [y], upd_same, by simp [p3], fun j z hz => ?_⟩
  · rw [upd_ne (ne_of_none h hD)]
    exact e _ _ (p1 b o h)
  · by_cases hj : j < ys.length
    · rw [List.getElem?_append_left hj] at hz
      exact p4 j z hz
    · have hj2 : j = ys.length := by
        have := (List.getElem?_eq_some_iff.mp hz).1
        simp at this
        omega
      subst hj2
      simp at hz
      subst hz
      rw [p3]
      exact hy
theorem x_lcRG {n : Int} (R : Nat → V → Prop) (hi : ∀ Q : List V → Hp → Prop, Q [.int n] H → ta σ H Q) (hz : 0 ≤ n ∧ n ≤ 100000)
    (hs : ∀ (i : Nat) (H' : Hp), (i : Int) < n → Same H H' → g (.int (i : Int)) (wipe σ vs) H' fun σ2 H2 => wipe σ2 vs = wipe σ vs ∧ H2 = H' ∧ ∀ C : VK, (∀ y H3, R i y → Same H' H3 → C y H3) → te σ2 H' C)
    (k : ∀ p ys H2, H p = none → Same H H2 → ys.length = n.toNat → (∀ (j : Nat) (y : V), ys[j]? = some y → R j y) → H2 p = some (.lst ys) → Q (.ref p) H2) (hg : ∀ x σ H (P P' : L2.St → Hp → Prop), (∀ σ H, P σ H → P' σ H) → g x σ H P → g x σ H P') : tLc (iRng1 ta) g tYes te vs σ H Q := by
  refine hi _ ⟨n, rfl, by omega, by omega, fun D hD => ?_⟩
  refine lc_range (lo := 0) (n := n.toNat) (LcI R H D) ⟨same_new hD, [], upd_same, rfl, fun j y h => by simp at h⟩ (fun i H' hi p => ?_) (fun H' p => ?_)
  · have e0 : (0 : Int) + (i : Int) = (i : Int) := Int.zero_add _
    rw [e0]
    refine hg _ _ _ _ _ (fun σ2 H2 q => ?_) (hs i H' (by omega) p.1)
    obtain ⟨q1, rfl, q2⟩ := q
    exact ⟨q1, q2 _ fun y H3 hy e => p.step hD (by omega) e hy⟩
  · obtain ⟨p1, ys, p2, p3, p4⟩ := p
    exact k D ys H' hD p1 p3 p4 p2
theorem x_lcLG {a : Addr} {xs : List V} (R : Nat → V → Prop) (hi : ∀ Q : VK, Q (.ref a) H → tl σ H Q) (hx : SqL K H a xs) (hz : xs.length ≤ 100000)
    (hs : ∀ (i : Nat) (x : V) (H' : Hp), xs[i]? = some x → Same H H' → g x (wipe σ vs) H' fun σ2 H2 => wipe σ2 vs = wipe σ vs ∧ H2 = H' ∧ ∀ C : VK, (∀ y H3, R i y → Same H' H3 → C y H3) → te σ2 H' C)
    (k : ∀ p ys H2, H p = none → Same H H2 → ys.length = xs.length → (∀ (j : Nat) (y : V), ys[j]? = some y → R j y) → H2 p = some (.lst ys) → Q (.ref p) H2) (hg : ∀ x σ H (P P' : L2.St → Hp → Prop), (∀ σ H, P σ H → P' σ H) → g x σ H P → g x σ H P') : tLc (iList K tl) g tYes te vs σ H Q := by
  refine hi _ ⟨a, rfl, ⟨xs, hx⟩, fun D hD => ?_⟩
  refine lc_list (K := K) (a := a) (xs := xs) (LcI R H D) ⟨same_new hD, [], upd_same, rfl, fun j y h => by simp at h⟩ (fun i H' _ p => p.1.seq hx) (fun i x H' hi p => ?_) (fun H' p => ?_)
  · have hlt := (List.getElem?_eq_some_iff.mp hi).1
    refine hg _ _ _ _ _ (fun σ2 H2 q => ?_) (hs i x H' hi p.1)
    obtain ⟨q1, rfl, q2⟩ := q
    exact ⟨q1, q2 _ fun y H3 hy e => p.step hD (by omega) e hy⟩
  · obtain ⟨p1, ys, p2, p3, p4⟩ := p
    exact k D ys H' hD p1 p3 p4 p2
end
end M
namespace M
open PySem PySem.Spec PyProof.Rows L2
/-! ## comprehensions over a comprehension; slices; dict displays -/
section
variable {σ : L2.St} {H : Hp} {Q : VK} {tl te tk tv : TE} {g : TG} {vs : List Nat} {K : PySem.W.Frag}
def isLc (K : PySem.W.Frag) (g : TG) (te : TE) (vs : List Nat) (σ : L2.St) (x : V) (H : Hp) (Q : VK) : Prop := tLc (iList K (tC x)) g tYes te vs σ H Q
theorem x_lcI (k : tl σ H fun x H1 => isLc K g te vs σ x H1 Q) : tLc (iList K tl) g tYes te vs σ H Q := k
theorem x_isLcG {a : Addr} {xs : List V} (R : Nat → V → Prop) (hx : SqL K H a xs) (hz : xs.length ≤ 100000)
    (hs : ∀ (i : Nat) (x : V) (H' : Hp), xs[i]? = some x → Same H H' → g x (wipe σ vs) H' fun σ2 H2 => wipe σ2 vs = wipe σ vs ∧ H2 = H' ∧ ∀ C : VK, (∀ y H3, R i y → Same H' H3 → C y H3) → te σ2 H' C)
    (k : ∀ p ys H2, H p = none → Same H H2 → ys.length = xs.length → (∀ (j : Nat) (y : V), ys[j]? = some y → R j y) → H2 p = some (.lst ys) → Q (.ref p) H2) (hg : ∀ x σ H (P P' : L2.St → Hp → Prop), (∀ σ H, P σ H → P' σ H) → g x σ H P → g x σ H P') : isLc K g te vs σ (.ref a) H Q :=
  x_lcLG R (fun Q q => q) hx hz hs k hg
/-- two ways that meet again -/
theorem x_ifJ {b : Bool} {ts tu : TS} {nx bk ct : L2.St → Hp → Prop} {rt : VK} (G : Hp → Prop) (h1 : b = true → ∀ nx' : L2.St → Hp → Prop, (∀ Hx, G Hx → nx' σ Hx) → ts ⟨nx', rt, bk, ct⟩ σ H) (h2 : b = false → ∀ nx' : L2.St → Hp → Prop, (∀ Hx, G Hx → nx' σ Hx) → tu ⟨nx', rt, bk, ct⟩ σ H)
    (J : ∀ Hx, G Hx → nx σ Hx) : ifB b (ts ⟨nx, rt, bk, ct⟩ σ H) (tu ⟨nx, rt, bk, ct⟩ σ H) := x_if (fun e => h1 e nx J) fun e => h2 e nx J
/-! xs[lo:hi] -/
def isOI (x : V) (H : Hp) (Q : Option Int → Hp → Prop) : Prop := ∃ i, x = .int i ∧ Q (some i) H
theorem x_isOI {i : Int} {Q : Option Int → Hp → Prop} (k : Q (some i) H) : isOI (.int i) H Q := ⟨i, rfl, k⟩
theorem x_part {Q : Option Int → Hp → Prop} (k : te σ H fun x H1 => isOI x H1 Q) : tPart te σ H Q := k
theorem x_noPart {Q : Option Int → Hp → Prop} (k : Q none H) : tNoPart σ H Q := k
theorem x_sl {r : V → Option Int → Option Int → Hp → VK → Prop} {lo hi : TO} (k : te σ H fun x H1 => lo σ H1 fun l H2 => hi σ H2 fun u H3 => r x l u H3 Q) : tSl r te lo hi σ H Q := k
theorem x_slL {a : Addr} {xs : List V} {lo hi : Option Int} (h : SqL K H a xs) (k : ∀ p H2, H p = none → Same H H2 → H2 p = some (.lst (cutV xs lo hi)) → Q (.ref p) H2) : rSlL K (.ref a) lo hi H Q :=
  ⟨a, xs, rfl, h, fun p hp => k p _ hp (same_new hp) upd_same⟩
theorem x_slT {a : Addr} {xs : List V} {lo hi : Option Int} (h : SqT K H a xs) (hn : ¬ (HT.sIx xs.length 0 lo = 0 ∧ HT.sIx xs.length xs.length hi = xs.length)) (k : ∀ p H2, H p = none → Same H H2 → H2 p = some (.tup (cutV xs lo hi)) → Q (.ref p) H2) : rSlT K (.ref a) lo hi H Q :=
  ⟨a, xs, rfl, h, hn, fun p hp => k p _ hp (same_new hp) upd_same⟩
theorem cutV_map {l : List Int} {lo hi : Option Int} : cutV (l.map V.int) lo hi = ((l.drop (HT.sIx l.length 0 lo)).take (HT.sIx l.length l.length hi - HT.sIx l.length 0 lo)).map V.int := by
  unfold cutV
  rw [List.length_map, List.map_take, List.map_drop]
theorem cut_first {l : List Int} {n : Nat} (h : n ≤ l.length) : cutV (l.map V.int) none (some (n : Int)) = (l.take n).map V.int := by
  rw [cutV_map]
  have e0 : HT.sIx l.length 0 none = 0 := rfl
  have e1 : HT.sIx l.length l.length (some (n : Int)) = n := by
    rw [HT.sIx_nat]
    omega
  rw [e0, e1, List.drop_zero, Nat.sub_zero]
theorem cut_mid {l : List Int} {m n : Nat} (h : n ≤ l.length) (hm : m ≤ n) : cutV (l.map V.int) (some (m : Int)) (some (n : Int)) = ((l.drop m).take (n - m)).map V.int := by
  rw [cutV_map]
  have e0 : HT.sIx l.length 0 (some (m : Int)) = m := by
    rw [HT.sIx_nat]
    omega
  have e1 : HT.sIx l.length l.length (some (n : Int)) = n := by
    rw [HT.sIx_nat]
    omega
  rw [e0, e1]
/-! {k: v, ..} -/
theorem x_pnil {Q : List (V × V) → Hp → Prop} (k : Q [] H) : tPairs [] σ H Q := k
theorem x_pcons {r : List (TE × TE)} {Q : List (V × V) → Hp → Prop} (k : tk σ H fun x H1 => tv σ H1 fun y H2 => tPairs r σ H2 fun ps H3 => Q ((x, y) :: ps) H3) : tPairs ((tk, tv) :: r) σ H Q := k
def isDisp (p : Addr) (ps : List (V × V)) (H : Hp) (Q : VK) : Prop := H p = some (.dK []) ∧ ∃ kvs : List (Key × V), ps = kvs.map (fun kv => (kV kv.1, kv.2)) ∧ kvs.length ≤ 15 ∧ Q (.ref p) (upd H p (.dK (mergeK [] kvs)))
theorem x_disp {trs : List (TE × TE)} (k : ∀ p H1, H p = none → Same H H1 → H1 p = some (.dK []) → tPairs trs σ H1 fun ps H2 => isDisp p ps H2 Q) : tDisp trs σ H Q := fun p hp => k p _ hp (same_new hp) upd_same
theorem x_isDisp {p : Addr} {ps : List (V × V)} (kvs : List (Key × V)) (h : H p = some (.dK [])) (e : ps = kvs.map (fun kv => (kV kv.1, kv.2))) (hl : kvs.length ≤ 15) (k : ∀ H3, Ext [p] H H3 → H3 p = some (.dK (mergeK [] kvs)) → Q (.ref p) H3) : isDisp p ps H Q :=
  ⟨h, kvs, e, hl, k _ ext_upd upd_same⟩
end
end M
namespace M
open PySem PySem.Spec PyProof.Rows L2
/-! ## data: equal, laid out -/
mutual
theorem eqv_refl : ∀ d : PyData, d.canLay0 = true → PyData.eqv d d = true
  | .none, _ => by simp [PyData.eqv]
  | .bool b, _ => by simp [PyData.eqv]
  | .int i, _ => by simp [PyData.eqv]
  | .str x, _ => by simp [PyData.eqv]
  | .list xs, h => by
    simp only [PyData.eqv]
    exact eqv_reflAll xs (by simpa [PyData.canLay0] using h)
  | .tuple xs, h => by
    simp only [PyData.eqv]
    exact eqv_reflAll xs (by simpa [PyData.canLay0] using h)
  | .dict _, h => by simp [PyData.canLay0] at h
theorem eqv_reflAll : ∀ ds : List PyData, PyData.canLayAll0 ds = true → PyData.eqvAll ds ds = true
  | [], _ => by simp [PyData.eqvAll]
  | d :: ds, h => by
    have h' : d.canLay0 = true ∧ PyData.canLayAll0 ds = true := by simpa [PyData.canLayAll0] using h
    simp [PyData.eqvAll, eqv_refl d h'.1, eqv_reflAll ds h'.2]
end
theorem lay_all : ∀ ds : List PyData, (∀ d ∈ ds, d.canLay0 = true) → PyData.canLayAll0 ds = true
  | [], _ => by simp [PyData.canLayAll0]
  | d :: ds, h => by simp [PyData.canLayAll0, h d (List.mem_cons_self ..), lay_all ds fun e he => h e (List.mem_cons_of_mem _ he)]
theorem dep_all {n : Nat} : ∀ ds : List PyData, (∀ d ∈ ds, d.depth ≤ n) → PyData.depthAll ds ≤ n
  | [], _ => by simp [PyData.depthAll]
  | d :: ds, h => by
    have h1 := h d (List.mem_cons_self ..)
    have h2 := dep_all ds fun e he => h e (List.mem_cons_of_mem _ he)
    simp only [PyData.depthAll]
    omega
/-- data of a depth -/
def ShN (n : Nat) (d : PyData) : Prop := d.canLay0 = true ∧ d.depth ≤ n
theorem ShN.shaped {n : Nat} {d : PyData} (h : ShN n d) (hn : n ≤ 64 := by decide) : SeqAt.shaped d = true := by
  unfold SeqAt.shaped
  rw [h.1, decide_eq_true (Nat.le_trans h.2 hn)]
  rfl
theorem ShN.int {n : Nat} (i : Int) : ShN n (.int i) := ⟨by simp [PyData.canLay0], by simp [PyData.depth]⟩
theorem ShN.bool {n : Nat} (i : Bool) : ShN n (.bool i) := ⟨by simp [PyData.canLay0], by simp [PyData.depth]⟩
theorem ShN.non {n : Nat} : ShN n .none := ⟨by simp [PyData.canLay0], by simp [PyData.depth]⟩
theorem ShN.list {n : Nat} {ds : List PyData} (h : ∀ d ∈ ds, ShN n d) : ShN (n + 1) (.list ds) := ⟨by simp only [PyData.canLay0]; exact lay_all ds fun d hd => (h d hd).1, by have := dep_all (n := n) ds fun d hd => (h d hd).2; simp only [PyData.depth]; omega⟩
theorem ShN.tup {n : Nat} {ds : List PyData} (h : ∀ d ∈ ds, ShN n d) : ShN (n + 1) (.tuple ds) := ⟨by simp only [PyData.canLay0]; exact lay_all ds fun d hd => (h d hd).1, by have := dep_all (n := n) ds fun d hd => (h d hd).2; simp only [PyData.depth]; omega⟩
theorem ShN.ints {n : Nat} (l : List Int) : ShN (n + 1) (.list (l.map PyData.int)) := ShN.list fun d hd => by obtain ⟨i, _, rfl⟩ := List.mem_map.mp hd; exact ShN.int i
theorem ShN.tints {n : Nat} (l : List Int) : ShN (n + 1) (.tuple (l.map PyData.int)) := ShN.tup fun d hd => by obtain ⟨i, _, rfl⟩ := List.mem_map.mp hd; exact ShN.int i
section
variable {K : PySem.W.Frag} {H : Hp} {Q : VK} {x y : V} {d : PyData}
theorem x_neS' {n : Nat} (h1 : Dp K H x d) (h2 : Dp K H y d) (s : ShN n d) (k : Q (.bl false) H) (hn : n ≤ 64 := by decide) : rNeD K x y H Q := ⟨d, d, h1, h2, s.shaped hn, s.shaped hn, by rw [eqv_refl d s.1]; exact k⟩
theorem x_eqS' {n : Nat} (h1 : Dp K H x d) (h2 : Dp K H y d) (s : ShN n d) (k : Q (.bl true) H) (hn : n ≤ 64 := by decide) : rEqD K x y H Q := ⟨d, d, h1, h2, s.shaped hn, s.shaped hn, by rw [eqv_refl d s.1]; exact k⟩
/-! lengths of lists of ints -/
theorem x_lenLI {p : Addr} {l : List Int} (h : SqL K H p (l.map V.int)) (k : Q (.int l.length) H) : rLenQ K [.ref p] H Q := x_lenL h (by rw [List.length_map]; exact k)
theorem x_lenTI {p : Addr} {l : List Int} (h : SqT K H p (l.map V.int)) (k : Q (.int l.length) H) : rLenQ K [.ref p] H Q := x_lenT h (by rw [List.length_map]; exact k)
/-! slices of tuples, tuples many times -/
theorem x_slA {a : Addr} {xs : List V} {lo hi : Option Int} (h : SqT K H a xs) (hn : ¬ (HT.sIx xs.length 0 lo = 0 ∧ HT.sIx xs.length xs.length hi = xs.length)) (k : ∀ p H2, H p = none → Same H H2 → H2 p = some (.tup (cutV xs lo hi)) → Q (.ref p) H2) : rSlA K (.ref a) lo hi H Q :=
  ⟨a, xs, rfl, h, fun q => absurd q hn, fun _ p hp => k p _ hp (same_new hp) upd_same⟩
theorem x_repT {p : Addr} {k : Int} {xs : List V} (h : SqT K H p xs) (h0 : 2 ≤ k ∧ k ≤ 1000) (hx : xs ≠ []) (hl : xs.length ≤ 1000) (q : ∀ r H2, H r = none → Same H H2 → H2 r = some (.tup (List.replicate k.toNat xs).flatten) → Q (.ref r) H2) : rRepT K (.ref p) (.int k) H Q :=
  ⟨p, k, xs, rfl, rfl, h, hx, h0.1, h0.2, hl, fun r hr => q r _ hr (same_new hr) upd_same⟩
theorem cut_last {l : List Int} {z : Int} (hl : l.length < 1000000) : cutV ((l ++ [z]).map V.int) none (some (-1)) = l.map V.int := by
  have e0 : HT.sIx (l ++ [z]).length 0 none = 0 := rfl
  have e1 : HT.sIx (l ++ [z]).length (l ++ [z]).length (some (-1)) = l.length := by
    rw [List.length_append, List.length_singleton]
    unfold HT.sIx
    simp
    try omega
  rw [cutV_map, e0, e1, List.drop_zero, Nat.sub_zero]
  simp
theorem DpAll.map {α : Type} {f : α → V} {g : α → PyData} : ∀ l : List α, (∀ a ∈ l, Dp K H (f a) (g a)) → DpAll K H (l.map f) (l.map g)
  | [], _ => .nil
  | a :: l, h => .cons (h a (List.mem_cons_self ..)) (DpAll.map l fun b hb => h b (List.mem_cons_of_mem _ hb))
theorem DpAll.zip {α β : Type} {f : α → V} {g : β → PyData} : ∀ (l : List α) (m : List β), l.length = m.length → (∀ (i : Nat) (a : α) (b : β), l[i]? = some a → m[i]? = some b → Dp K H (f a) (g b)) → DpAll K H (l.map f) (m.map g)
  | [], [], _, _ => .nil
  | a :: l, b :: m, e, h => .cons (h 0 a b rfl rfl) (DpAll.zip l m (by simpa using e) fun i a b ha hb => h (i + 1) a b ha hb)
  | [], _ :: _, e, _ => by simp at e
  | _ :: _, [], e, _ => by simp at e
theorem Dp.li {p : Addr} {l : List Int} (h : SqL K H p (l.map V.int)) : Dp K H (.ref p) (.list (l.map PyData.int)) := .lst h (DpAll.ints l)
theorem Dp.ti {p : Addr} {l : List Int} (h : SqT K H p (l.map V.int)) : Dp K H (.ref p) (.tuple (l.map PyData.int)) := .tup h (DpAll.ints l)
end
/-! slots: the list stays written out -/
theorem x_gn0 {x : V} {a0 : Option V} {r : L2.St} {H : Hp} {Q : L2.St → Hp → Prop} (k : Q (some x :: r) H) : gName 0 x (a0 :: r) H Q := k
theorem x_gn1 {x : V} {a0 a1 : Option V} {r : L2.St} {H : Hp} {Q : L2.St → Hp → Prop} (k : Q (a0 :: some x :: r) H) : gName 1 x (a0 :: a1 :: r) H Q := k
theorem x_gn2 {x : V} {a0 a1 a2 : Option V} {r : L2.St} {H : Hp} {Q : L2.St → Hp → Prop} (k : Q (a0 :: a1 :: some x :: r) H) : gName 2 x (a0 :: a1 :: a2 :: r) H Q := k
theorem x_gn3 {x : V} {a0 a1 a2 a3 : Option V} {r : L2.St} {H : Hp} {Q : L2.St → Hp → Prop} (k : Q (a0 :: a1 :: a2 :: some x :: r) H) : gName 3 x (a0 :: a1 :: a2 :: a3 :: r) H Q := k
theorem x_gn4 {x : V} {a0 a1 a2 a3 a4 : Option V} {r : L2.St} {H : Hp} {Q : L2.St → Hp → Prop} (k : Q (a0 :: a1 :: a2 :: a3 :: some x :: r) H) : gName 4 x (a0 :: a1 :: a2 :: a3 :: a4 :: r) H Q := k
theorem x_gn5 {x : V} {a0 a1 a2 a3 a4 a5 : Option V} {r : L2.St} {H : Hp} {Q : L2.St → Hp → Prop} (k : Q (a0 :: a1 :: a2 :: a3 :: a4 :: some x :: r) H) : gName 5 x (a0 :: a1 :: a2 :: a3 :: a4 :: a5 :: r) H Q := k
theorem x_gn6 {x : V} {a0 a1 a2 a3 a4 a5 a6 : Option V} {r : L2.St} {H : Hp} {Q : L2.St → Hp → Prop} (k : Q (a0 :: a1 :: a2 :: a3 :: a4 :: a5 :: some x :: r) H) : gName 6 x (a0 :: a1 :: a2 :: a3 :: a4 :: a5 :: a6 :: r) H Q := k
theorem x_gn7 {x : V} {a0 a1 a2 a3 a4 a5 a6 a7 : Option V} {r : L2.St} {H : Hp} {Q : L2.St → Hp → Prop} (k : Q (a0 :: a1 :: a2 :: a3 :: a4 :: a5 :: a6 :: some x :: r) H) : gName 7 x (a0 :: a1 :: a2 :: a3 :: a4 :: a5 :: a6 :: a7 :: r) H Q := k
theorem x_gn8 {x : V} {a0 a1 a2 a3 a4 a5 a6 a7 a8 : Option V} {r : L2.St} {H : Hp} {Q : L2.St → Hp → Prop} (k : Q (a0 :: a1 :: a2 :: a3 :: a4 :: a5 :: a6 :: a7 :: some x :: r) H) : gName 8 x (a0 :: a1 :: a2 :: a3 :: a4 :: a5 :: a6 :: a7 :: a8 :: r) H Q := k
theorem x_gn9 {x : V} {a0 a1 a2 a3 a4 a5 a6 a7 a8 a9 : Option V} {r : L2.St} {H : Hp} {Q : L2.St → Hp → Prop} (k : Q (a0 :: a1 :: a2 :: a3 :: a4 :: a5 :: a6 :: a7 :: a8 :: some x :: r) H) : gName 9 x (a0 :: a1 :: a2 :: a3 :: a4 :: a5 :: a6 :: a7 :: a8 :: a9 :: r) H Q := k
theorem x_gn10 {x : V} {a0 a1 a2 a3 a4 a5 a6 a7 a8 a9 a10 : Option V} {r : L2.St} {H : Hp} {Q : L2.St → Hp → Prop} (k : Q (a0 :: a1 :: a2 :: a3 :: a4 :: a5 :: a6 :: a7 :: a8 :: a9 :: some x :: r) H) : gName 10 x (a0 :: a1 :: a2 :: a3 :: a4 :: a5 :: a6 :: a7 :: a8 :: a9 :: a10 :: r) H Q := k
theorem x_gn11 {x : V} {a0 a1 a2 a3 a4 a5 a6 a7 a8 a9 a10 a11 : Option V} {r : L2.St} {H : Hp} {Q : L2.St → Hp → Prop} (k : Q (a0 :: a1 :: a2 :: a3 :: a4 :: a5 :: a6 :: a7 :: a8 :: a9 :: a10 :: some x :: r) H) : gName 11 x (a0 :: a1 :: a2 :: a3 :: a4 :: a5 :: a6 :: a7 :: a8 :: a9 :: a10 :: a11 :: r) H Q := k
theorem x_gn12 {x : V} {a0 a1 a2 a3 a4 a5 a6 a7 a8 a9 a10 a11 a12 : Option V} {r : L2.St} {H : Hp} {Q : L2.St → Hp → Prop} (k : Q (a0 :: a1 :: a2 :: a3 :: a4 :: a5 :: a6 :: a7 :: a8 :: a9 :: a10 :: a11 :: some x :: r) H) : gName 12 x (a0 :: a1 :: a2 :: a3 :: a4 :: a5 :: a6 :: a7 :: a8 :: a9 :: a10 :: a11 :: a12 :: r) H Q := k
theorem x_gn13 {x : V} {a0 a1 a2 a3 a4 a5 a6 a7 a8 a9 a10 a11 a12 a13 : Option V} {r : L2.St} {H : Hp} {Q : L2.St → Hp → Prop} (k : Q (a0 :: a1 :: a2 :: a3 :: a4 :: a5 :: a6 :: a7 :: a8 :: a9 :: a10 :: a11 :: a12 :: some x :: r) H) : gName 13 x (a0 :: a1 :: a2 :: a3 :: a4 :: a5 :: a6 :: a7 :: a8 :: a9 :: a10 :: a11 :: a12 :: a13 :: r) H Q := k
theorem x_gn14 {x : V} {a0 a1 a2 a3 a4 a5 a6 a7 a8 a9 a10 a11 a12 a13 a14 : Option V} {r : L2.St} {H : Hp} {Q : L2.St → Hp → Prop} (k : Q (a0 :: a1 :: a2 :: a3 :: a4 :: a5 :: a6 :: a7 :: a8 :: a9 :: a10 :: a11 :: a12 :: a13 :: some x :: r) H) : gName 14 x (a0 :: a1 :: a2 :: a3 :: a4 :: a5 :: a6 :: a7 :: a8 :: a9 :: a10 :: a11 :: a12 :: a13 :: a14 :: r) H Q := k
theorem x_gn15 {x : V} {a0 a1 a2 a3 a4 a5 a6 a7 a8 a9 a10 a11 a12 a13 a14 a15 : Option V} {r : L2.St} {H : Hp} {Q : L2.St → Hp → Prop} (k : Q (a0 :: a1 :: a2 :: a3 :: a4 :: a5 :: a6 :: a7 :: a8 :: a9 :: a10 :: a11 :: a12 :: a13 :: a14 :: some x :: r) H) : gName 15 x (a0 :: a1 :: a2 :: a3 :: a4 :: a5 :: a6 :: a7 :: a8 :: a9 :: a10 :: a11 :: a12 :: a13 :: a14 :: a15 :: r) H Q := k
theorem x_gn16 {x : V} {a0 a1 a2 a3 a4 a5 a6 a7 a8 a9 a10 a11 a12 a13 a14 a15 a16 : Option V} {r : L2.St} {H : Hp} {Q : L2.St → Hp → Prop} (k : Q (a0 :: a1 :: a2 :: a3 :: a4 :: a5 :: a6 :: a7 :: a8 :: a9 :: a10 :: a11 :: a12 :: a13 :: a14 :: a15 :: some x :: r) H) : gName 16 x (a0 :: a1 :: a2 :: a3 :: a4 :: a5 :: a6 :: a7 :: a8 :: a9 :: a10 :: a11 :: a12 :: a13 :: a14 :: a15 :: a16 :: r) H Q := k
theorem x_gn17 {x : V} {a0 a1 a2 a3 a4 a5 a6 a7 a8 a9 a10 a11 a12 a13 a14 a15 a16 a17 : Option V} {r : L2.St} {H : Hp} {Q : L2.St → Hp → Prop} (k : Q (a0 :: a1 :: a2 :: a3 :: a4 :: a5 :: a6 :: a7 :: a8 :: a9 :: a10 :: a11 :: a12 :: a13 :: a14 :: a15 :: a16 :: some x :: r) H) : gName 17 x (a0 :: a1 :: a2 :: a3 :: a4 :: a5 :: a6 :: a7 :: a8 :: a9 :: a10 :: a11 :: a12 :: a13 :: a14 :: a15 :: a16 :: a17 :: r) H Q := k
theorem x_gn18 {x : V} {a0 a1 a2 a3 a4 a5 a6 a7 a8 a9 a10 a11 a12 a13 a14 a15 a16 a17 a18 : Option V} {r : L2.St} {H : Hp} {Q : L2.St → Hp → Prop} (k : Q (a0 :: a1 :: a2 :: a3 :: a4 :: a5 :: a6 :: a7 :: a8 :: a9 :: a10 :: a11 :: a12 :: a13 :: a14 :: a15 :: a16 :: a17 :: some x :: r) H) : gName 18 x (a0 :: a1 :: a2 :: a3 :: a4 :: a5 :: a6 :: a7 :: a8 :: a9 :: a10 :: a11 :: a12 :: a13 :: a14 :: a15 :: a16 :: a17 :: a18 :: r) H Q := k
theorem x_gn19 {x : V} {a0 a1 a2 a3 a4 a5 a6 a7 a8 a9 a10 a11 a12 a13 a14 a15 a16 a17 a18 a19 : Option V} {r : L2.St} {H : Hp} {Q : L2.St → Hp → Prop} (k : Q (a0 :: a1 :: a2 :: a3 :: a4 :: a5 :: a6 :: a7 :: a8 :: a9 :: a10 :: a11 :: a12 :: a13 :: a14 :: a15 :: a16 :: a17 :: a18 :: some x :: r) H) : gName 19 x (a0 :: a1 :: a2 :: a3 :: a4 :: a5 :: a6 :: a7 :: a8 :: a9 :: a10 :: a11 :: a12 :: a13 :: a14 :: a15 :: a16 :: a17 :: a18 :: a19 :: r) H Q := k
theorem x_gn20 {x : V} {a0 a1 a2 a3 a4 a5 a6 a7 a8 a9 a10 a11 a12 a13 a14 a15 a16 a17 a18 a19 a20 : Option V} {r : L2.St} {H : Hp} {Q : L2.St → Hp → Prop} (k : Q (a0 :: a1 :: a2 :: a3 :: a4 :: a5 :: a6 :: a7 :: a8 :: a9 :: a10 :: a11 :: a12 :: a13 :: a14 :: a15 :: a16 :: a17 :: a18 :: a19 :: some x :: r) H) : gName 20 x (a0 :: a1 :: a2 :: a3 :: a4 :: a5 :: a6 :: a7 :: a8 :: a9 :: a10 :: a11 :: a12 :: a13 :: a14 :: a15 :: a16 :: a17 :: a18 :: a19 :: a20 :: r) H Q := k
theorem x_gn21 {x : V} {a0 a1 a2 a3 a4 a5 a6 a7 a8 a9 a10 a11 a12 a13 a14 a15 a16 a17 a18 a19 a20 a21 : Option V} {r : L2.St} {H : Hp} {Q : L2.St → Hp → Prop} (k : Q (a0 :: a1 :: a2 :: a3 :: a4 :: a5 :: a6 :: a7 :: a8 :: a9 :: a10 :: a11 :: a12 :: a13 :: a14 :: a15 :: a16 :: a17 :: a18 :: a19 :: a20 :: some x :: r) H) : gName 21 x (a0 :: a1 :: a2 :: a3 :: a4 :: a5 :: a6 :: a7 :: a8 :: a9 :: a10 :: a11 :: a12 :: a13 :: a14 :: a15 :: a16 :: a17 :: a18 :: a19 :: a20 :: a21 :: r) H Q := k
theorem x_gn22 {x : V} {a0 a1 a2 a3 a4 a5 a6 a7 a8 a9 a10 a11 a12 a13 a14 a15 a16 a17 a18 a19 a20 a21 a22 : Option V} {r : L2.St} {H : Hp} {Q : L2.St → Hp → Prop} (k : Q (a0 :: a1 :: a2 :: a3 :: a4 :: a5 :: a6 :: a7 :: a8 :: a9 :: a10 :: a11 :: a12 :: a13 :: a14 :: a15 :: a16 :: a17 :: a18 :: a19 :: a20 :: a21 :: some x :: r) H) : gName 22 x (a0 :: a1 :: a2 :: a3 :: a4 :: a5 :: a6 :: a7 :: a8 :: a9 :: a10 :: a11 :: a12 :: a13 :: a14 :: a15 :: a16 :: a17 :: a18 :: a19 :: a20 :: a21 :: a22 :: r) H Q := k
theorem x_gn23 {x : V} {a0 a1 a2 a3 a4 a5 a6 a7 a8 a9 a10 a11 a12 a13 a14 a15 a16 a17 a18 a19 a20 a21 a22 a23 : Option V} {r : L2.St} {H : Hp} {Q : L2.St → Hp → Prop} (k : Q (a0 :: a1 :: a2 :: a3 :: a4 :: a5 :: a6 :: a7 :: a8 :: a9 :: a10 :: a11 :: a12 :: a13 :: a14 :: a15 :: a16 :: a17 :: a18 :: a19 :: a20 :: a21 :: a22 :: some x :: r) H) : gName 23 x (a0 :: a1 :: a2 :: a3 :: a4 :: a5 :: a6 :: a7 :: a8 :: a9 :: a10 :: a11 :: a12 :: a13 :: a14 :: a15 :: a16 :: a17 :: a18 :: a19 :: a20 :: a21 :: a22 :: a23 :: r) H Q := k
theorem x_gn24 {x : V} {a0 a1 a2 a3 a4 a5 a6 a7 a8 a9 a10 a11 a12 a13 a14 a15 a16 a17 a18 a19 a20 a21 a22 a23 a24 : Option V} {r : L2.St} {H : Hp} {Q : L2.St → Hp → Prop} (k : Q (a0 :: a1 :: a2 :: a3 :: a4 :: a5 :: a6 :: a7 :: a8 :: a9 :: a10 :: a11 :: a12 :: a13 :: a14 :: a15 :: a16 :: a17 :: a18 :: a19 :: a20 :: a21 :: a22 :: a23 :: some x :: r) H) : gName 24 x (a0 :: a1 :: a2 :: a3 :: a4 :: a5 :: a6 :: a7 :: a8 :: a9 :: a10 :: a11 :: a12 :: a13 :: a14 :: a15 :: a16 :: a17 :: a18 :: a19 :: a20 :: a21 :: a22 :: a23 :: a24 :: r) H Q := k
theorem x_gn25 {x : V} {a0 a1 a2 a3 a4 a5 a6 a7 a8 a9 a10 a11 a12 a13 a14 a15 a16 a17 a18 a19 a20 a21 a22 a23 a24 a25 : Option V} {r : L2.St} {H : Hp} {Q : L2.St → Hp → Prop} (k : Q (a0 :: a1 :: a2 :: a3 :: a4 :: a5 :: a6 :: a7 :: a8 :: a9 :: a10 :: a11 :: a12 :: a13 :: a14 :: a15 :: a16 :: a17 :: a18 :: a19 :: a20 :: a21 :: a22 :: a23 :: a24 :: some x :: r) H) : gName 25 x (a0 :: a1 :: a2 :: a3 :: a4 :: a5 :: a6 :: a7 :: a8 :: a9 :: a10 :: a11 :: a12 :: a13 :: a14 :: a15 :: a16 :: a17 :: a18 :: a19 :: a20 :: a21 :: a22 :: a23 :: a24 :: a25 :: r) H Q := k
theorem x_st {N : List Str} {vs : List V} {σ0 : L2.St} {ts : TS} {D : Ends} {H : Hp} (h : start N vs = σ0) (k : ts D σ0 H) : ts D (start N vs) H := h ▸ k
end M
namespace M
open PySem PySem.Spec PyProof.Rows L2
/-! ## [f(a) for a in xs if p(a)], values at hand -/
section
variable {α : Type} {σ : L2.St} {H : Hp} {Q : VK} {K : PySem.W.Frag} {tl te : TE} {tt : TT} {ta : TA} {g : TG} {vs : List Nat}
def LcT (H : Hp) (D : Addr) (acc : List V) (H' : Hp) : Prop := Same H H' ∧ H' D = some (.lst acc)
/-- one turn: the test's answer, the value -/
def TurnT (tt : TT) (te : TE) (b : Bool) (y : V) (σ2 : L2.St) (H' : Hp) : Prop :=
  ∀ R : Bool → Hp → Prop, (∀ H3, Same H' H3 → (b = true → ∀ C : VK, (∀ H4, Same H3 H4 → C y H4) → te σ2 H3 C) → R b H3) → tt σ2 H' R
theorem lct_step {D : Addr} {acc : List V} {b : Bool} {y : V} {H' : Hp} {σ2 : L2.St} (hD : H D = none) (hz : acc.length ≤ 100000) (p : LcT H D acc H') (h : TurnT tt te b y σ2 H') :
    tt σ2 H' fun b H3 => if b = true then te σ2 H3 fun y H4 => ∃ acc, H4 D = some (.lst acc) ∧ acc.length < sizeLine ∧ (fun Hx => LcT H D (if b then acc ++ [y] else acc) Hx) (upd H4 D (.lst (acc ++ [y]))) else LcT H D acc H3 := by
  refine h _ fun H3 e3 q => ?_
  cases b with
  | false => exact ⟨p.1.trans e3, e3 _ _ p.2⟩
  | true =>
    refine q rfl _ fun H4 e4 => ⟨acc, e4 _ _ (e3 _ _ p.2), by rw [sizeLine_eq]; omega, fun c o e => ?_, upd_same⟩
    rw [upd_ne (ne_of_none e hD)]
    exact e4 _ _ (e3 _ _ (p.1 c o e))
theorem x_lcT {a : Addr} (l : List α) (enc f : α → V) (p : α → Bool) (hi : ∀ Q : VK, Q (.ref a) H → tl σ H Q) (hx : SqL K H a (l.map enc)) (hz : l.length ≤ 100000)
    (hs : ∀ (i : Nat) (x : α) (H' : Hp), l[i]? = some x → Same H H' → g (enc x) (wipe σ vs) H' fun σ2 H2 => wipe σ2 vs = wipe σ vs ∧ H2 = H' ∧ TurnT tt te (p x) (f x) σ2 H')
    (k : ∀ p' H2, H p' = none → Same H H2 → H2 p' = some (.lst ((l.filter p).map f)) → Q (.ref p') H2) (hg : ∀ x σ H (P P' : L2.St → Hp → Prop), (∀ σ H, P σ H → P' σ H) → g x σ H P → g x σ H P') : tLc (iList K tl) g tt te vs σ H Q := by
  refine hi _ ⟨a, rfl, ⟨_, hx⟩, fun D hD => ?_⟩
  refine lc_list (K := K) (a := a) (xs := l.map enc) (fun i H' => LcT H D (((l.take i).filter p).map f) H') ⟨same_new hD, upd_same⟩ (fun i H' _ q => q.1.seq hx) (fun i x H' hi q => ?_) (fun H' q => ?_)
  · rw [List.getElem?_map] at hi
    cases e : l[i]? with
    | none => rw [e] at hi; cases hi
    | some x =>
      rw [e] at hi
      cases hi
      have hlt := (List.getElem?_eq_some_iff.mp e).1
      have e1 : l.take (i + 1) = l.take i ++ [x] := by
        rw [← List.take_append_getElem hlt]
        congr 2
        exact (List.getElem?_eq_some_iff.mp e).2
      refine hg _ _ _ _ _ (fun σ2 H2 z => ?_) (hs i x H' e q.1)
      obtain ⟨z1, rfl, z2⟩ := z
      refine ⟨z1, ?_⟩
      have hlen : (((l.take i).filter p).map f).length ≤ 100000 := by
        rw [List.length_map]
        have h1 := List.length_filter_le p (l.take i)
        have h2 := List.length_take_le i l
        have h3 : (l.take i).length ≤ l.length := by rw [List.length_take]; omega
        omega
      refine z2 _ fun H3 e3 w => ?_
      rw [e1, List.filter_append, List.map_append]
      cases hp : p x with
      | false =>
        rw [if_neg (by decide)]
        have e0 : List.filter p [x] = [] := by simp [hp]
        rw [e0, List.map_nil, List.append_nil]
        exact ⟨q.1.trans e3, e3 _ _ q.2⟩
      | true =>
        rw [if_pos rfl]
        have e0 : List.filter p [x] = [x] := by simp [hp]
        rw [e0]
        refine w hp _ fun H4 e4 => ⟨_, e4 _ _ (e3 _ _ q.2), by rw [sizeLine_eq]; omega, fun c o z => ?_, upd_same⟩
        rw [upd_ne (ne_of_none z hD)]
        exact e4 _ _ (e3 _ _ (q.1 c o z))
  · rw [List.length_map, List.take_length] at q
    exact k D H' hD q.1 q.2
theorem x_isLcT' {a : Addr} (l : List α) (enc f : α → V) (p : α → Bool) (hi : ∀ Q : VK, Q (.ref a) H → tl σ H Q) (hx : SqL K H a (l.map enc)) (hz : l.length ≤ 100000)
    (hs : ∀ (i : Nat) (x : α) (H' : Hp), l[i]? = some x → Same H H' → g (enc x) (wipe σ vs) H' fun σ2 H2 => wipe σ2 vs = wipe σ vs ∧ H2 = H' ∧ TurnT tt te (p x) (f x) σ2 H')
    (k : ∀ p' H2, H p' = none → Same H H2 → H2 p' = some (.lst ((l.filter p).map f)) → Q (.ref p') H2) (hg : ∀ x σ H (P P' : L2.St → Hp → Prop), (∀ σ H, P σ H → P' σ H) → g x σ H P → g x σ H P') : tLc (iList K tl) g tt te vs σ H Q := x_lcT l enc f p hi hx hz hs k hg
theorem x_neNil {a b : Addr} {l : List Int} (h1 : H a = some (.lst (l.map V.int))) (h2 : H b = some (.lst [])) (k : Q (.bl (!l.isEmpty)) H) : rNeD K (.ref a) (.ref b) H Q :=
  ⟨_, _, Dp.li (SqL.of h1), Dp.li (l := []) (SqL.of h2), (ShN.ints (n := 0) l).shaped (by decide), (ShN.ints (n := 0) []).shaped (by decide), by
    have e : PyData.eqv (.list (l.map PyData.int)) (.list (([] : List Int).map PyData.int)) = l.isEmpty := by cases l <;> simp [PyData.eqv, PyData.eqvAll]
    rw [e]; exact k⟩
/-- the turn's test and value -/
theorem turnT {b : Bool} {y : V} {σ2 : L2.St} {H' : Hp} (h : ∀ R : Bool → Hp → Prop, (∀ H3, Same H' H3 → R b H3) → tt σ2 H' R) (h2 : ∀ H3, Same H' H3 → b = true → ∀ C : VK, (∀ H4, Same H3 H4 → C y H4) → te σ2 H3 C) : TurnT tt te b y σ2 H' := fun R k => h R fun H3 e3 => k H3 e3 (h2 H3 e3)
theorem turnY {y : V} {σ2 : L2.St} {H' : Hp} (h2 : ∀ C : VK, (∀ H4, Same H' H4 → C y H4) → te σ2 H' C) : TurnT tYes te true y σ2 H' := fun R k => k H' (Same.refl _) fun _ C c => h2 C c
end
/-! ## [new object for ..]: the elements are new objects -/
section
variable {α : Type} {σ : L2.St} {H : Hp} {Q : VK} {K : PySem.W.Frag} {tl te : TE} {ta : TA} {g : TG} {vs : List Nat}
def LcN (ob : Nat → HO) (H : Hp) (D : Addr) (i : Nat) (H' : Hp) : Prop := Same H H' ∧ ∃ ps : List Addr, H' D = some (.lst (ps.map V.ref)) ∧ ps.length = i ∧ ∀ (j : Nat) (q : Addr), ps[j]? = some q → H' q = some (ob j) ∧ q ≠ D
theorem LcN.step {ob : Nat → HO} {D q : Addr} {i : Nat} {H' H3 : Hp} (hD : H D = none) (hi : i ≤ 100000) (p : LcN ob H D i H') (hq : H' q = none) (e : Same H' H3) (ho : H3 q = some (ob i)) : ∃ acc, H3 D = some (.lst acc) ∧ acc.length < sizeLine ∧ LcN ob H D (i + 1) (upd H3 D (.lst (acc ++ [.ref q]))) := by
  obtain ⟨p1, ps, p2, p3, p4⟩ := p
  have nq : q ≠ D := fun z => by rw [z, p2] at hq; cases hq
  refine ⟨ps.map V.ref, e _ _ p2, by rw [sizeLine_eq, List.length_map]; omega, fun b o h => ?_, ps ++ [q], by rw [upd_same, List.map_append]; rfl, by simp [p3], fun j z hz => ?_⟩
  · rw [upd_ne (ne_of_none h hD)]
    exact e _ _ (p1 b o h)
  · by_cases hj : j < ps.length
    · rw [List.getElem?_append_left hj] at hz
      obtain ⟨w1, w2⟩ := p4 j z hz
      exact ⟨by rw [upd_ne w2]; exact e _ _ w1, w2⟩
    · have hj2 : j = ps.length := by
        have := (List.getElem?_eq_some_iff.mp hz).1
        simp at this
        omega
      subst hj2
      simp at hz
      subst hz
      exact ⟨by rw [upd_ne nq, p3]; exact ho, nq⟩
theorem x_lcNR {n : Int} (ob : Nat → HO) (hi : ∀ Q : List V → Hp → Prop, Q [.int n] H → ta σ H Q) (hz : 0 ≤ n ∧ n ≤ 100000)
    (hs : ∀ (i : Nat) (H' : Hp), (i : Int) < n → Same H H' → g (.int (i : Int)) (wipe σ vs) H' fun σ2 H2 => wipe σ2 vs = wipe σ vs ∧ H2 = H' ∧ ∀ C : VK, (∀ q H3, H' q = none → Same H' H3 → H3 q = some (ob i) → C (.ref q) H3) → te σ2 H' C)
    (k : ∀ (p : Addr) (ps : List Addr) (H2 : Hp), H p = none → Same H H2 → ps.length = n.toNat → (∀ (j : Nat) (q : Addr), ps[j]? = some q → H2 q = some (ob j)) → H2 p = some (.lst (ps.map V.ref)) → Q (.ref p) H2) (hg : ∀ x σ H (P P' : L2.St → Hp → Prop), (∀ σ H, P σ H → P' σ H) → g x σ H P → g x σ H P') : tLc (iRng1 ta) g tYes te vs σ H Q := by
  refine hi _ ⟨n, rfl, by omega, by omega, fun D hD => ?_⟩
  refine lc_range (lo := 0) (n := n.toNat) (LcN ob H D) ⟨same_new hD, [], upd_same, rfl, fun j y h => by simp at h⟩ (fun i H' hi p => ?_) (fun H' p => ?_)
  · have e0 : (0 : Int) + (i : Int) = (i : Int) := Int.zero_add _
    rw [e0]
    refine hg _ _ _ _ _ (fun σ2 H2 q => ?_) (hs i H' (by omega) p.1)
    obtain ⟨q1, rfl, q2⟩ := q
    exact ⟨q1, q2 _ fun q H3 hq e ho => p.step hD (by omega) hq e ho⟩
  · obtain ⟨p1, ps, p2, p3, p4⟩ := p
    exact k D ps H' hD p1 p3 (fun j q h => (p4 j q h).1) p2
theorem x_lcNL {a : Addr} (l : List α) (enc : α → V) (ob : Nat → HO) (hi : ∀ Q : VK, Q (.ref a) H → tl σ H Q) (hx : SqL K H a (l.map enc)) (hz : l.length ≤ 100000)
    (hs : ∀ (i : Nat) (x : α) (H' : Hp), l[i]? = some x → Same H H' → g (enc x) (wipe σ vs) H' fun σ2 H2 => wipe σ2 vs = wipe σ vs ∧ H2 = H' ∧ ∀ C : VK, (∀ q H3, H' q = none → Same H' H3 → H3 q = some (ob i) → C (.ref q) H3) → te σ2 H' C)
    (k : ∀ (p : Addr) (ps : List Addr) (H2 : Hp), H p = none → Same H H2 → ps.length = l.length → (∀ (j : Nat) (q : Addr), ps[j]? = some q → H2 q = some (ob j)) → H2 p = some (.lst (ps.map V.ref)) → Q (.ref p) H2) (hg : ∀ x σ H (P P' : L2.St → Hp → Prop), (∀ σ H, P σ H → P' σ H) → g x σ H P → g x σ H P') : tLc (iList K tl) g tYes te vs σ H Q := by
  refine hi _ ⟨a, rfl, ⟨_, hx⟩, fun D hD => ?_⟩
  refine lc_list (K := K) (a := a) (xs := l.map enc) (LcN ob H D) ⟨same_new hD, [], upd_same, rfl, fun j y h => by simp at h⟩ (fun i H' _ p => p.1.seq hx) (fun i x H' hi p => ?_) (fun H' p => ?_)
  · rw [List.getElem?_map] at hi
    cases e : l[i]? with
    | none => rw [e] at hi; cases hi
    | some y =>
      rw [e] at hi
      cases hi
      have hlt := (List.getElem?_eq_some_iff.mp e).1
      refine hg _ _ _ _ _ (fun σ2 H2 q => ?_) (hs i y H' e p.1)
      obtain ⟨q1, rfl, q2⟩ := q
      exact ⟨q1, q2 _ fun q H3 hq e ho => p.step hD (by omega) hq e ho⟩
  · obtain ⟨p1, ps, p2, p3, p4⟩ := p
    rw [List.length_map] at p3
    exact k D ps H' hD p1 p3 (fun j q h => (p4 j q h).1) p2
end
end M
namespace M
open PySem PySem.Spec PyProof.Rows L2
/-! ## == and != by an own __eq__; in over tuples of data; tuples of instances and data -/
section
variable {prog : Program} {w : World} {A : Around} {E : Value → Shared → Prop} {s : Shared} {K : PySem.W.Frag} {x C L f : Addr} {h₀ : Heap} {m : Str → Option Value} {ox : Obj} {od : Option Obj} {b tb : Value}
theorem ne_slot_bind (self : Value) : bindSpecial (.builtin "object.__ne__") self = pure (.builtin "object.__ne__", [self]) := PySem.F.slot_object_ne.bind self
theorem ne_args (a b : Value) : argsOk "object.__ne__" ⟨[a, b], []⟩ := by unfold argsOk; kernel_rfl
theorem ne_own {Q : Value → Shared → Prop} (hu : A.units + 1 < cLine) (X : K.In s.heap) (I : PySem.W.InstAt s.heap x ox C od) (hb : PySem.W.Looks (model prog w) s.heap (typeOf b) tb) (hn : PySem.W.notFirst K C tb = true)
    (hs : PySem.W.findIn K (.ref C) "__ne__" = some (some (.builtin "object.__ne__"))) (he : PySem.W.findIn K (.ref C) "__eq__" = some (some (.ref f))) (hf : PySem.W.isFn K (.ref f) = true) (ho : PySem.W.subIn K (.ref C) (.type "object") = some true)
    (h : wpAny (model prog w) A.in1 (call (.ref f) [.ref x, b]) (fun v s' => ∃ k, v = .bool k ∧ Q (.bool (!k)) s') E s) : wpAny (model prog w) A (richCompare .NotEq (.ref x) b) Q E s := by
  have io : PySem.W.Looks (model prog w) s.heap (isInstance (.ref x) (.type "object")) true := I.type.andThen (PySem.W.looks_subIn X ho)
  have body : wpAny (model prog w) A (call (.builtin "object.__ne__") [.ref x, b]) (fun v s' => ∃ k, v = .bool k ∧ Q v s') E s := by
    refine wpAny_call (codeAny_call_builtin PySem.F.slot_object_ne.plain PySem.F.entry_object_ne (@PySem.W.check_slot (model prog w) _ _ s "object.__ne__" "object" "__ne__" (.ref x) [b] [] _ (by decide +kernel) (by decide +kernel) io (ne_args _ _) ?_))
    unfold Builtin.«object.__ne__»
    repeat (first
      | with_reducible refine wpAny_cRoomFor (by show A.units + 1 < cLine; omega) ?_
      | (refine wpAny_bind (m := callSpecialIfBound? (.ref x) "__eq__" [b]) (PySem.W.ifBound_K X I he hf (wpAny_mono h (fun v s' hv => ?_) fun _ _ e => e)))
      | wp_step)
    obtain ⟨k, rfl, q⟩ := hv
    repeat (first | exact ⟨_, rfl, q⟩ | exact wpAny_pure q | (refine wpAny_bind (m := truthy (.bool _)) (wpAny_truthy_bool ?_)) | wp_step)
    all_goals exact ⟨_, rfl, q⟩
  have one : wpAny (model prog w) A (tryCompare (.ref x) "__ne__" b) (fun r s' => ∃ k, r = some (.bool k) ∧ Q (.bool k) s') E s := by
    unfold tryCompare
    simp only [callSpecialIfBound?, bindSpecialIfBound?]
    refine wpAny_bind (wpAny_holding (wpAny_bind (wpAny_bind (wpAny_bind (I.type.here ((PySem.W.looks_findIn X hs).here ?_))))))
    refine wpAny_bind (wpAny_askSetting (wpAny_ite ?_))
    have fin : wpAny (model prog w) A (call (.builtin "object.__ne__") ([.ref x] ++ [b]) >>= fun v => pure (some v)) (fun r s' => wpAny (model prog w) A (match r with | some .notImplemented | none => pure none | some v => pure (some v)) (fun r s' => ∃ k, r = some (.bool k) ∧ Q (.bool k) s') E s') E s :=
      wpAny_bind (wpAny_mono body (fun v s' h' => by
        obtain ⟨k, rfl, q⟩ := h'
        exact wpAny_pure (wpAny_pure ⟨k, rfl, q⟩)) fun _ _ h' => h')
    split
    · exact wpAny_bind (by rw [ne_slot_bind]; exact wpAny_pure (wpAny_pure fin))
    · exact wpAny_tryCatch (wpAny_bind (by rw [ne_slot_bind]; exact wpAny_pure (wpAny_pure fin)))
  unfold richCompare
  simp only [oneThing_ref]
  refine wpAny_holding (wpAny_bind (wpAny_cRoomFor (Nat.lt_of_succ_lt hu) ?_))
  rw [cmpInfo_NotEq]
  dsimp only
  refine wpAny_bind (I.type.here (wpAny_bind (hb.here ?_)))
  have fin2 : wpAny (model prog w) A (tryCompare (.ref x) "__ne__" b) (fun r s' => ∃ k, r = some (.bool k) ∧ Q (.bool k) s') E s := one
  split
  · rename_i q
    have e : PySem.W.subIn K tb (.ref C) = some false := by
      rcases Bool.or_eq_true_iff.mp hn with e | e
      · rw [beq_iff_eq.mp e] at q; simp at q
      · exact beq_iff_eq.mp e
    refine wpAny_bind ((PySem.W.looks_subIn X e).here ?_)
    simp only [Bool.false_eq_true, if_false]
    refine wpAny_bind (wpAny_mono one (fun r s' z => ?_) fun _ _ e => e)
    obtain ⟨v, rfl, hq⟩ := z
    exact wpAny_pure hq
  · refine wpAny_bind (wpAny_pure ?_)
    simp only [Bool.false_eq_true, if_false]
    refine wpAny_bind (wpAny_mono one (fun r s' z => ?_) fun _ _ e => e)
    obtain ⟨v, rfl, hq⟩ := z
    exact wpAny_pure hq
end
section
variable {X : Cx} {pins : List (Addr × Obj)} {σ : L2.St} {H : Hp} {s : Shared} {n k j : Nat} {C : Addr} {sp : Sp}
/-- the other one of a comparison: an instance of the same class, or a number -/
def YOk (C : Addr) (H : Hp) (y : V) : Prop := (∃ b dy gs, y = .ref b ∧ H b = some (.ins C dy gs)) ∨ ∃ i, y = .int i
theorem YOk.look {y : V} {u : Value} (I : Inv X pins σ H s) (h : YOk C H y) (r : RelV y u) : ∃ tb, PySem.W.Looks (model X.prog X.w) s.heap (typeOf u) tb ∧ PySem.W.notFirst X.K C tb = true := by
  rcases h with ⟨b, dy, gs, rfl, hb⟩ | ⟨i, rfl⟩
  · cases r
    obtain ⟨mB, J', _⟩ := ins_get I.hok hb
    obtain ⟨od', J', _⟩ := J'.look
    exact ⟨_, J'.type, by simp [PySem.W.notFirst]⟩
  · obtain ⟨t, rfl⟩ := (show ∃ t, u = Value.int i t from r)
    exact ⟨.type "int", PySem.W.Looks.of_pure rfl, Bool.or_eq_true_iff.mpr (.inr rfl)⟩
theorem run_sub {f : Addr} {fd : FuncData} {ps : List Str} {A : Around} {Q : VK} {us : List Value} {ws : List V} (sb : Sub X n A) (F : FnOk X.prog X.w X.K X.mg X.base CX0 n f fd ps sp) (hb : Binds X.K fd ps []) (I : Inv X pins σ H s) (r : Vals ws us) (h : sp ws H Q C8.E0) :
    wpAny (model X.prog X.w) A (call (.ref f) us) (fun v s' => ∃ z H', Inv X pins σ H' s' ∧ RelV z v ∧ Q z H') X.xe s := by
  have e0 : Env0 X.prog X.w X.K X.mg X.base A X.stack s H := by
    have e := I.env0
    exact ⟨by rw [sb.fr]; exact e.frames, e.mod, e.bs, e.bsz, e.funs, e.frf, e.hok, e.bare⟩
  have hl := F.len _ _ _ _ h
  refine wpAny_call (codeAny_mono (F.run A X.stack s H ⟨us, []⟩ us ws _ C8.E0 sb.room e0 (by
    have := hb s us I.kIn (by simpa [← r.length] using hl)
    simpa using this) r h) fun q s' hq => ?_)
  cases q with
  | error e => exact C8.pass0 (E := C8.E0) pins σ H s e s' I hq
  | ok fl =>
    cases fl with
    | ret w =>
      obtain ⟨z, H', I', rz, q⟩ := I.after hq
      exact ⟨z, H', I', rz, q⟩
    | next => exact False.elim hq
    | brk => exact False.elim hq
    | cont => exact False.elim hq
def rOwnQ (C : Addr) (sp : Sp) (neg : Bool) : R2 := fun x y H Q => ∃ a dx fs, x = .ref a ∧ H a = some (.ins C dx fs) ∧ YOk C H y ∧ sp [x, y] H (fun z H' => ∃ k, z = .bl k ∧ Q (.bl (if neg then !k else k)) H') C8.E0
theorem op_eqO (c : C8.Met X.prog X.w X.K X.mg X.base k C "__eq__" sp []) (hr : Room j X.A) (hk : k ≤ j := by decide) : OpR X (compareOp .Eq) (rOwnQ C sp false) := by
  intro pins s σ H x y v u Q I rx ry h
  obtain ⟨f, fd, ps, ds, hc, hm, F, b, d⟩ := c.ex
  cases d
  obtain ⟨a, dx, fs, rfl, ha, hy, q⟩ := h
  obtain ⟨tb, lt, nf⟩ := hy.look I ry
  cases rx
  obtain ⟨mA, J, _⟩ := ins_get I.hok ha
  obtain ⟨od, J, _⟩ := J.look
  obtain ⟨m, hF⟩ := I.fr
  show wpAny (model X.prog X.w) X.A (richCompare .Eq (.ref a) u) (EP X pins σ Q) X.xe s
  refine PySem.W.cmp_K (op := .Eq) hr.units0 hF I.ok.mod.kin J lt nf hm.at_ hm.fn ?_
  refine wpAny_mono (run_sub ⟨hr.mono hk, rfl⟩ F b I (ws := [V.ref a, y]) (.cons rfl (.cons ry .nil)) q) (fun w s' z => ?_) fun _ _ x => x
  obtain ⟨z, H', I', rz, k', rfl, q⟩ := z
  cases (show w = Value.bool k' from rz)
  exact ⟨.bl k', H', I', rfl, q⟩
theorem op_neO (c : C8.Met X.prog X.w X.K X.mg X.base k C "__eq__" sp []) (hn : PySem.W.findIn X.K (.ref C) "__ne__" = some (some (.builtin "object.__ne__"))) (ho : PySem.W.subIn X.K (.ref C) (.type "object") = some true) (hr : Room j X.A) (hk : k + 1 ≤ j := by decide) : OpR X (compareOp .NotEq) (rOwnQ C sp true) := by
  intro pins s σ H x y v u Q I rx ry h
  obtain ⟨f, fd, ps, ds, hc, hm, F, b, d⟩ := c.ex
  cases d
  obtain ⟨a, dx, fs, rfl, ha, hy, q⟩ := h
  obtain ⟨tb, lt, nf⟩ := hy.look I ry
  cases rx
  obtain ⟨mA, J, _⟩ := ins_get I.hok ha
  obtain ⟨od, J, _⟩ := J.look
  show wpAny (model X.prog X.w) X.A (richCompare .NotEq (.ref a) u) (EP X pins σ Q) X.xe s
  have r1 : Room (k + 1) X.A := hr.mono hk
  refine ne_own (hu_of r1) I.kIn J lt nf hn hm.at_ hm.fn ho ?_
  refine wpAny_mono (run_sub (⟨r1, rfl⟩ : Sub X (k + 1) X.A).in1 F b I (ws := [V.ref a, y]) (.cons rfl (.cons ry .nil)) q) (fun w s' z => ?_) fun _ _ x => x
  obtain ⟨z, H', I', rz, k', rfl, q⟩ := z
  cases (show w = Value.bool k' from rz)
  exact ⟨k', rfl, .bl (!k'), H', I', rfl, q⟩
/-! in over tuples of data -/
def rInDT (K : PySem.W.Frag) (neg : Bool) : R2 := fun x y H Q => ∃ d ds, Dp K H x d ∧ Dp K H y (.tuple ds) ∧ SeqAt.shaped d = true ∧ SeqAt.shaped (.tuple ds) = true ∧ Q (.bl (if neg then !(ds.any fun z => PyData.eqv z d) else ds.any fun z => PyData.eqv z d)) H
theorem op_inDT (hu : X.A.units + 65 < cLine) : OpR X (compareOp .In) (rInDT X.K false) := by
  intro pins s σ H x y v u Q I rx ry h
  obtain ⟨d, ds, hd, he, sd, se, q⟩ := h
  obtain ⟨as, r1⟩ := Dp.reads I d x v hd rx
  obtain ⟨bs, r2⟩ := Dp.reads I (.tuple ds) y u he ry
  exact SeqAt.in_tuple_reads r2 r1 (SeqAt.canLay_of_shaped se) (SeqAt.canLay_of_shaped sd) (room_in_shaped sd hu) ⟨.bl _, H, I, rfl, q⟩
/-! tuples of the same instances and of data -/
inductive EqB (K : PySem.W.Frag) (H : Hp) : Nat → V → V → Bool → Prop where
  | same {n : Nat} (a : Addr) : EqB K H n (.ref a) (.ref a) true
  | dat {n : Nat} {x y : V} {d e : PyData} (h1 : Dp K H x d) (h2 : Dp K H y e) (s1 : ShN n d) (s2 : ShN n e) : EqB K H n x y (PyData.eqv d e)
  | tup {n : Nat} {a b : Addr} {xs ys : List V} {e : Nat → Bool} (h1 : SqT K H a xs) (h2 : SqT K H b ys) (hn : a ≠ b) (hp : ∀ (i : Nat) (x y : V), xs[i]? = some x → ys[i]? = some y → EqB K H n x y (e i)) : EqB K H (n + 1) (.ref a) (.ref b) ((List.range (min xs.length ys.length)).all e && xs.length == ys.length)
  | len {n : Nat} {a b : Addr} {xs ys : List V} {e : Nat → Bool} (h1 : SqT K H a xs) (h2 : SqT K H b ys) (hn : xs.length ≠ ys.length) (hp : ∀ (i : Nat) (x y : V), xs[i]? = some x → ys[i]? = some y → EqB K H n x y (e i)) : EqB K H (n + 1) (.ref a) (.ref b) false
theorem vals_at {xs : List V} {us : List Value} (r : Vals xs us) {i : Nat} (h : i < us.toArray.size) : ∃ x, xs[i]? = some x ∧ RelV x us.toArray[i] := by
  have h1 : i < us.length := by simpa using h
  have h2 : i < xs.length := by rw [r.length]; exact h1
  refine ⟨xs[i], List.getElem?_eq_getElem h2, ?_⟩
  obtain ⟨w, hw, rw'⟩ := r.get (i := i) (x := xs[i]) (List.getElem?_eq_getElem h2)
  have e := (List.getElem?_eq_some_iff.mp hw).2
  simpa [e] using rw'
theorem EqB.run (I : Inv X pins σ H s) {n : Nat} {x y : V} {b : Bool} (h : EqB X.K H n x y b) : ∀ (A : Around) (v u : Value), A.units + n < cLine → RelV x v → RelV y u → SeqAt.EqAt A s v u b := by
  induction h with
  | same a =>
    intro A v u hu rx ry
    cases (show v = Value.ref a from rx)
    cases (show u = Value.ref a from ry)
    exact SeqAt.EqAt.same _
  | dat h1 h2 s1 s2 =>
    intro A v u hu rx ry
    obtain ⟨as, r1⟩ := Dp.reads I _ _ _ h1 rx
    obtain ⟨bs, r2⟩ := Dp.reads I _ _ _ h2 ry
    exact SeqAt.eqAt_reads _ _ A s v u as bs r1 r2 s1.1 s2.1 (by have := s1.2; have := s2.2; omega)
  | @tup n a b xs ys e h1 h2 hn hp ih =>
    intro A v u hu rx ry
    cases (show v = Value.ref a from rx)
    cases (show u = Value.ref b from ry)
    obtain ⟨us, q1, p1, _⟩ := I.tuple h1
    obtain ⟨ws, q2, p2, _⟩ := I.tuple h2
    refine SeqAt.EqAt.of_refs hn ?_
    have g := SeqAt.RcAt.tuples (A := A) (s := s) (e := e) p1 p2 (by omega) fun i hi1 hi2 => ?_
    · rw [List.size_toArray, List.size_toArray, ← q1.length, ← q2.length] at g
      exact g
    · obtain ⟨x, hx, rx⟩ := vals_at q1 hi1
      obtain ⟨y, hy, ry⟩ := vals_at q2 hi2
      exact ih i x y hx hy A.in1 _ _ (by show A.units + 1 + n < cLine; omega) rx ry
  | @len n a b xs ys e h1 h2 hn hp ih =>
    intro A v u hu rx ry
    cases (show v = Value.ref a from rx)
    cases (show u = Value.ref b from ry)
    obtain ⟨us, q1, p1, _⟩ := I.tuple h1
    obtain ⟨ws, q2, p2, _⟩ := I.tuple h2
    have hab : a ≠ b := fun z => by
      subst z
      exact hn (congrArg List.length (I.tuple_inj h1 h2))
    refine SeqAt.EqAt.of_refs hab ?_
    have g := SeqAt.RcAt.tuples (A := A) (s := s) (e := e) p1 p2 (by omega) fun i hi1 hi2 => ?_
    · rw [List.size_toArray, List.size_toArray, ← q1.length, ← q2.length] at g
      rw [show (xs.length == ys.length) = false from beq_eq_false_iff_ne.mpr hn, Bool.and_false] at g
      exact g
    · obtain ⟨x, hx, rx⟩ := vals_at q1 hi1
      obtain ⟨y, hy, ry⟩ := vals_at q2 hi2
      exact ih i x y hx hy A.in1 _ _ (by show A.units + 1 + n < cLine; omega) rx ry
def rEqM (K : PySem.W.Frag) (neg : Bool) : R2 := fun x y H Q => ∃ n a b xs ys e, n ≤ 60 ∧ x = .ref a ∧ y = .ref b ∧ SqT K H a xs ∧ SqT K H b ys ∧ (∀ (i : Nat) (x y : V), xs[i]? = some x → ys[i]? = some y → EqB K H n x y (e i)) ∧
  Q (.bl (if neg then !((List.range (min xs.length ys.length)).all e && xs.length == ys.length) else ((List.range (min xs.length ys.length)).all e && xs.length == ys.length))) H
theorem op_eqM (hu : X.A.units + 64 < cLine) : OpR X (compareOp .Eq) (rEqM X.K false) := by
  intro pins s σ H x y v u Q I rx ry h
  obtain ⟨n, a, b, xs, ys, e, hn, rfl, rfl, h1, h2, hp, q⟩ := h
  cases (show v = Value.ref a from rx)
  cases (show u = Value.ref b from ry)
  obtain ⟨us, q1, p1, _⟩ := I.tuple h1
  obtain ⟨ws, q2, p2, _⟩ := I.tuple h2
  have g := SeqAt.RcAt.tuples (A := X.A) (s := s) (e := e) p1 p2 (by omega) fun i hi1 hi2 => by
    obtain ⟨x, hx, rx⟩ := vals_at q1 hi1
    obtain ⟨y, hy, ry⟩ := vals_at q2 hi2
    exact (hp i x y hx hy).run I X.A.in1 _ _ (by show X.A.units + 1 + n < cLine; omega) rx ry
  rw [List.size_toArray, List.size_toArray, ← q1.length, ← q2.length] at g
  exact g _ _ _ _ ⟨.bl _, H, I, rfl, q⟩
theorem op_neM (hu : X.A.units + 64 < cLine) : OpR X (compareOp .NotEq) (rEqM X.K true) := by
  intro pins s σ H x y v u Q I rx ry h
  obtain ⟨n, a, b, xs, ys, e, hn, rfl, rfl, h1, h2, hp, q⟩ := h
  cases (show v = Value.ref a from rx)
  cases (show u = Value.ref b from ry)
  obtain ⟨us, q1, p1, _⟩ := I.tuple h1
  obtain ⟨ws, q2, p2, _⟩ := I.tuple h2
  have g := SeqAt.RcNeAt.tuples (A := X.A) (s := s) (e := e) p1 p2 (by omega) fun i hi1 hi2 => by
    obtain ⟨x, hx, rx⟩ := vals_at q1 hi1
    obtain ⟨y, hy, ry⟩ := vals_at q2 hi2
    exact (hp i x y hx hy).run I X.A.in1 _ _ (by show X.A.units + 1 + n < cLine; omega) rx ry
  rw [List.size_toArray, List.size_toArray, ← q1.length, ← q2.length] at g
  exact g _ _ _ _ ⟨.bl _, H, I, rfl, q⟩
/-! isinstance of own classes -/
theorem x_isiO {Q : VK} {b C : Addr} {dy : Addr} {gs : List (Str × V)} (c : C8.InsC X.K C) (h : H b = some (.ins C dy gs)) (q : Q (.bl true) H) : rIsi X.K [.ref b, .ref C] H Q := ⟨_, _, .ref C, .ref C, true, rfl, .own C, .base (TyOf.ins h c.cl c.ha c.hn c.htk c.hm), c.me, q⟩
end
section
variable {K : PySem.W.Frag} {H : Hp} {Q : VK}
theorem x_isiOI {C : Addr} {i : Int} (c : PySem.W.kitOne K (.type "int") (.ref C) = some false) (q : Q (.bl false) H) : rIsi K [.int i, .ref C] H Q := ⟨_, _, .type "int", .ref C, false, rfl, .own C, .base (.int i), c, q⟩
theorem x_eqO {a dx : Addr} {fs : List (Str × V)} {C : Addr} {sp : Sp} {y : V} (h : H a = some (.ins C dx fs)) (hy : YOk C H y) (k : sp [.ref a, y] H (fun z H' => ∃ k, z = .bl k ∧ Q (.bl k) H') C8.E0) : rOwnQ C sp false (.ref a) y H Q := ⟨a, dx, fs, rfl, h, hy, k⟩
theorem x_neO {a dx : Addr} {fs : List (Str × V)} {C : Addr} {sp : Sp} {y : V} (h : H a = some (.ins C dx fs)) (hy : YOk C H y) (k : sp [.ref a, y] H (fun z H' => ∃ k, z = .bl k ∧ Q (.bl (!k)) H') C8.E0) : rOwnQ C sp true (.ref a) y H Q := ⟨a, dx, fs, rfl, h, hy, k⟩
theorem x_inDT {x : V} {a : Addr} {d : PyData} {ds : List PyData} (h1 : Dp K H x d) (h2 : Dp K H (.ref a) (.tuple ds)) (s1 : ShN 8 d) (s2 : ShN 9 (.tuple ds)) (k : Q (.bl (ds.any fun z => PyData.eqv z d)) H) : rInDT K false x (.ref a) H Q := ⟨d, ds, h1, h2, s1.shaped, s2.shaped, k⟩
end
/-! index of a number in a tuple -/
def rTIdxI (K : PySem.W.Frag) : V → List V → Hp → VK → Prop := fun x xs H Q => ∃ p, ∃ ys : List Int, ∃ z : Int, x = .ref p ∧ xs = [.int z] ∧ SqT K H p (ys.map V.int) ∧ z ∈ ys ∧ Q (.int (ys.idxOf z : Nat)) H
theorem mt_tindexI {X : Cx} : MtR X "tuple.index" (rTIdxI X.K) := by
  intro pins s σ H x xs v us Q I rx rs h
  obtain ⟨p, ys, z, rfl, rfl, hq, hz, q⟩ := h
  cases rx
  obtain ⟨u, rfl, t, rfl⟩ := vals1 rs
  obtain ⟨its, r, pl, _⟩ := I.tuple hq
  exact PySem.SeqAt.tuple_index_ints (vs := its) pl r.ints hz ⟨.int _, H, I.tok _, ⟨_, rfl⟩, q⟩
end M
namespace M
open PySem PySem.Spec PyProof.Rows L2
theorem hu64 {k : Nat} {A : Around} (hr : Room k A) : A.units + 64 < cLine := by have := hr.un; omega
theorem hu65 {k : Nat} {A : Around} (hr : Room k A) : A.units + 65 < cLine := by have := hr.un; omega
/-! ## what never changes: tuples, instances of the configuration's classes -/
def Fz : HO → Prop
  | .tup _ => True
  | .frz _ _ => True
  | .ins _ _ ((f, _) :: _) => f = "partitions" ∨ f = "image"
  | _ => False
def Kp (H H' : Hp) : Prop := ∀ b o, H b = some o → Fz o → H' b = some o
theorem Kp.refl (H : Hp) : Kp H H := fun _ _ e _ => e
theorem Kp.trans {H H1 H2 : Hp} (a : Kp H H1) (b : Kp H1 H2) : Kp H H2 := fun x o e f => b x o (a x o e f) f
theorem Kp.same {H H1 : Hp} (a : Same H H1) : Kp H H1 := fun x o e _ => a x o e
theorem Kp.ext {S : List Addr} {H H1 : Hp} (a : Ext S H H1) (h : ∀ b ∈ S, ∀ o, H b = some o → ¬ Fz o) : Kp H H1 := fun x o e f => a x o (fun hx => h x hx o e f) e
theorem Kp.lst {p : Addr} {xs : List V} {H H1 : Hp} (a : Ext [p] H H1) (h : H p = some (.lst xs)) : Kp H H1 := Kp.ext a fun b hb o e f => by
  rw [List.mem_singleton.mp hb, h] at e
  cases e
  exact f
mutual
def tupD : PyData → Bool
  | .none => true
  | .bool _ => true
  | .int _ => true
  | .str _ => true
  | .tuple ds => tupDs ds
  | _ => false
def tupDs : List PyData → Bool
  | [] => true
  | d :: ds => tupD d && tupDs ds
end
section
variable {K : PySem.W.Frag} {H H' : Hp}
theorem Rd.kp {a : Addr} {xs : List V} (e : Kp H H') (h : Rd H a (.tup xs)) : Rd H' a (.tup xs) := by
  rcases h with h | ⟨o, h⟩
  · exact .inl (e _ _ h trivial)
  · exact .inr ⟨o, e _ _ h trivial⟩
theorem SqT.kp {a : Addr} {xs : List V} (e : Kp H H') (h : SqT K H a xs) : SqT K H' a xs := by
  rcases h with h | h
  · exact .inl (Rd.kp e h)
  · exact .inr h
mutual
theorem Dp.kp (e : Kp H H') : ∀ (d : PyData) (x : V), tupD d = true → Dp K H x d → Dp K H' x d
  | .none, _, _, h => by cases h; exact .non
  | .bool b, _, _, h => by cases h; exact .bl b
  | .int b, _, _, h => by cases h; exact .int b
  | .str b, _, _, h => by cases h; exact .str b
  | .tuple ds, _, t, h => by
    cases h with
    | tup h1 h2 => exact .tup (SqT.kp e h1) (DpAll.kp e ds _ (by simpa only [tupD] using t) h2)
  | .list ds, _, t, h => by simp [tupD] at t
  | .dict ds, _, t, h => by simp [tupD] at t
theorem DpAll.kp (e : Kp H H') : ∀ (ds : List PyData) (xs : List V), tupDs ds = true → DpAll K H xs ds → DpAll K H' xs ds
  | [], _, _, h => by cases h; exact .nil
  | d :: ds, _, t, h => by
    have t' : tupD d = true ∧ tupDs ds = true := by simpa [tupDs] using t
    cases h with
    | cons h1 h2 => exact .cons (Dp.kp e d _ t'.1 h1) (DpAll.kp e ds _ t'.2 h2)
end
theorem DpAll.app {xs ys : List V} {ds es : List PyData} (h1 : DpAll K H xs ds) (h2 : DpAll K H ys es) : DpAll K H (xs ++ ys) (ds ++ es) := by
  induction xs generalizing ds with
  | nil => cases h1; exact h2
  | cons x xs ih => cases h1 with | cons a b => exact .cons a (ih b)
theorem DpAll.len {xs : List V} {ds : List PyData} (h : DpAll K H xs ds) : xs.length = ds.length := by
  induction xs generalizing ds with
  | nil => cases h; rfl
  | cons x xs ih => cases h with | cons a b => simp [ih b]
theorem DpAll.get {xs : List V} {ds : List PyData} (h : DpAll K H xs ds) {i : Nat} {d : PyData} (hd : ds[i]? = some d) : ∃ x, xs[i]? = some x ∧ Dp K H x d := by
  induction xs generalizing ds i with
  | nil => cases h; simp at hd
  | cons x xs ih =>
    cases h with
    | cons a b =>
      cases i with
      | zero => simp at hd; subst hd; exact ⟨x, rfl, a⟩
      | succ i => simpa using ih b (by simpa using hd)
theorem DpAll.getx {xs : List V} {ds : List PyData} (h : DpAll K H xs ds) {i : Nat} {x : V} (hx : xs[i]? = some x) : ∃ d, ds[i]? = some d ∧ Dp K H x d := by
  induction xs generalizing ds i with
  | nil => simp at hx
  | cons y xs ih =>
    cases h with
    | cons a b =>
      cases i with
      | zero => simp at hx; subst hx; exact ⟨_, rfl, a⟩
      | succ i => simpa using ih b (by simpa using hx)
theorem tupDs_all : ∀ {ds : List PyData}, (∀ d ∈ ds, tupD d = true) → tupDs ds = true
  | [], _ => rfl
  | d :: ds, h => by simp only [tupDs, h d (List.mem_cons_self ..), tupDs_all fun e he => h e (List.mem_cons_of_mem _ he)]; rfl
theorem tupDs_map {α : Type} {f : α → PyData} {l : List α} (h : ∀ a, tupD (f a) = true) : tupDs (l.map f) = true := tupDs_all fun d hd => by obtain ⟨a, _, rfl⟩ := List.mem_map.mp hd; exact h a
/-- a tuple of data: its items -/
theorem Dp.tupE {x : V} {ds : List PyData} (h : Dp K H x (.tuple ds)) : ∃ a xs, x = .ref a ∧ SqT K H a xs ∧ DpAll K H xs ds := by
  cases h with | tup h1 h2 => exact ⟨_, _, rfl, h1, h2⟩
theorem Dp.intE {x : V} {i : Int} (h : Dp K H x (.int i)) : x = .int i := by cases h; rfl
theorem Dp.blE {x : V} {i : Bool} (h : Dp K H x (.bool i)) : x = .bl i := by cases h; rfl
theorem Dp.strE {x : V} {i : Str} (h : Dp K H x (.str i)) : x = .str i := by cases h; rfl
theorem Dp.nonE {x : V} (h : Dp K H x .none) : x = .non := by cases h; rfl
theorem DpAll.ints_eq : ∀ {xs : List V} {l : List Int}, DpAll K H xs (l.map PyData.int) → xs = l.map V.int
  | [], [], _ => rfl
  | x :: xs, i :: l, .cons h1 h2 => by cases h1; rw [DpAll.ints_eq h2]; rfl
/-- a tuple of numbers -/
theorem Dp.tints {x : V} {l : List Int} (h : Dp K H x (.tuple (l.map PyData.int))) : ∃ a, x = .ref a ∧ SqT K H a (l.map V.int) := by
  obtain ⟨a, xs, rfl, h1, h2⟩ := Dp.tupE h
  rw [DpAll.ints_eq h2] at h1
  exact ⟨a, rfl, h1⟩
end
/-! ## comprehensions with a word of their own; walks over tuples -/
def LcPut (Pv : Nat → List V → Hp → Prop) (D : Addr) (i : Nat) (y : V) (H : Hp) : Prop := ∃ acc, H D = some (.lst acc) ∧ acc.length < sizeLine ∧ ∃ acc', acc'.length ≤ i + 1 ∧ upd H D (.lst (acc ++ [y])) D = some (.lst acc') ∧ Pv (i + 1) acc' (upd H D (.lst (acc ++ [y])))
def LcNo (Pv : Nat → List V → Hp → Prop) (D : Addr) (i : Nat) (H : Hp) : Prop := ∃ acc, acc.length ≤ i + 1 ∧ H D = some (.lst acc) ∧ Pv (i + 1) acc H
theorem x_lcPut {Pv : Nat → List V → Hp → Prop} {D : Addr} {acc : List V} {i : Nat} {y : V} {H : Hp} (h : H D = some (.lst acc)) (hl : acc.length ≤ i) (hi : i ≤ 200000) (k : ∀ H5, Ext [D] H H5 → H5 D = some (.lst (acc ++ [y])) → Pv (i + 1) (acc ++ [y]) H5) : LcPut Pv D i y H :=
  ⟨acc, h, by rw [sizeLine_eq]; omega, acc ++ [y], by simp; omega, upd_same, k _ ext_upd upd_same⟩
theorem x_lcNo {Pv : Nat → List V → Hp → Prop} {D : Addr} {acc : List V} {i : Nat} {H : Hp} (h : H D = some (.lst acc)) (hl : acc.length ≤ i) (k : Pv (i + 1) acc H) : LcNo Pv D i H := ⟨acc, by omega, h, k⟩
theorem x_tYes {σ : L2.St} {H : Hp} {Q : Bool → Hp → Prop} (k : Q true H) : tYes σ H Q := k
section
variable {σ : L2.St} {H : Hp} {Q : VK} {K : PySem.W.Frag} {tl te : TE} {ta : TA} {tt : TT} {g : TG} {vs : List Nat}
/-- one turn of a comprehension -/
def LcTurn (g : TG) (tt : TT) (te : TE) (vs : List Nat) (σ : L2.St) (Pv : Nat → List V → Hp → Prop) (D : Addr) (i : Nat) (x : V) (H' : Hp) : Prop :=
  g x (wipe σ vs) H' fun σ2 H2 => wipe σ2 vs = wipe σ vs ∧ tt σ2 H2 fun b H3 => ifB b (te σ2 H3 fun y H4 => LcPut Pv D i y H4) (LcNo Pv D i H3)
theorem x_lcRP {n : Int} (Pv : Addr → Nat → List V → Hp → Prop) (hi : ∀ Q : List V → Hp → Prop, Q [.int n] H → ta σ H Q) (hz : 0 ≤ n ∧ n ≤ 100000)
    (h0 : ∀ D H1, H D = none → Same H H1 → H1 D = some (.lst []) → Pv D 0 [] H1)
    (hs : ∀ D (i : Nat) acc H', H D = none → (i : Int) < n → acc.length ≤ i → H' D = some (.lst acc) → Pv D i acc H' → LcTurn g tt te vs σ (Pv D) D i (.int (i : Int)) H')
    (k : ∀ D acc H', H D = none → acc.length ≤ n.toNat → H' D = some (.lst acc) → Pv D n.toNat acc H' → Q (.ref D) H') : tLc (iRng1 ta) g tt te vs σ H Q := by
  refine hi _ ⟨n, rfl, by omega, by omega, fun D hD => ?_⟩
  refine lc_range (lo := 0) (n := n.toNat) (fun i H' => ∃ acc, acc.length ≤ i ∧ H' D = some (.lst acc) ∧ Pv D i acc H') ⟨[], Nat.le_refl _, upd_same, h0 D _ hD (same_new hD) upd_same⟩ (fun i H' hlt p => ?_) (fun H' p => ?_)
  · obtain ⟨acc, p1, p2, p3⟩ := p
    have e0 : (0 : Int) + (i : Int) = (i : Int) := Int.zero_add _
    rw [e0]
    exact hs D i acc H' hD (by omega) p1 p2 p3
  · obtain ⟨acc, p1, p2, p3⟩ := p
    exact k D acc H' hD p1 p2 p3
theorem x_lcLP {a : Addr} {xs : List V} (Pv : Addr → Nat → List V → Hp → Prop) (hi : ∀ Q : VK, Q (.ref a) H → tl σ H Q) (hx : SqL K H a xs) (hz : xs.length ≤ 100000)
    (h0 : ∀ D H1, H D = none → Same H H1 → H1 D = some (.lst []) → Pv D 0 [] H1) (hl : ∀ D i acc H', H D = none → i ≤ xs.length → H' D = some (.lst acc) → Pv D i acc H' → SqL K H' a xs)
    (hs : ∀ D (i : Nat) x acc H', H D = none → xs[i]? = some x → acc.length ≤ i → H' D = some (.lst acc) → Pv D i acc H' → LcTurn g tt te vs σ (Pv D) D i x H')
    (k : ∀ D acc H', H D = none → acc.length ≤ xs.length → H' D = some (.lst acc) → Pv D xs.length acc H' → Q (.ref D) H') : tLc (iList K tl) g tt te vs σ H Q := by
  refine hi _ ⟨a, rfl, ⟨xs, hx⟩, fun D hD => ?_⟩
  refine lc_list (K := K) (a := a) (xs := xs) (fun i H' => ∃ acc, acc.length ≤ i ∧ H' D = some (.lst acc) ∧ Pv D i acc H') ⟨[], Nat.le_refl _, upd_same, h0 D _ hD (same_new hD) upd_same⟩ (fun i H' hi p => ?_) (fun i x H' hx p => ?_) (fun H' p => ?_)
  · obtain ⟨acc, p1, p2, p3⟩ := p
    exact hl D i acc H' hD hi p2 p3
  · obtain ⟨acc, p1, p2, p3⟩ := p
    exact hs D i x acc H' hD hx p1 p2 p3
  · obtain ⟨acc, p1, p2, p3⟩ := p
    exact k D acc H' hD p1 p2 p3
theorem x_lcTP {a : Addr} {xs : List V} (Pv : Addr → Nat → List V → Hp → Prop) (hi : ∀ Q : VK, Q (.ref a) H → tl σ H Q) (hx : SqT K H a xs) (hz : xs.length ≤ 100000)
    (h0 : ∀ D H1, H D = none → Same H H1 → H1 D = some (.lst []) → Pv D 0 [] H1) (hl : ∀ D i acc H', H D = none → i ≤ xs.length → H' D = some (.lst acc) → Pv D i acc H' → SqT K H' a xs)
    (hs : ∀ D (i : Nat) x acc H', H D = none → xs[i]? = some x → acc.length ≤ i → H' D = some (.lst acc) → Pv D i acc H' → LcTurn g tt te vs σ (Pv D) D i x H')
    (k : ∀ D acc H', H D = none → acc.length ≤ xs.length → H' D = some (.lst acc) → Pv D xs.length acc H' → Q (.ref D) H') : tLc (iTup K tl) g tt te vs σ H Q := by
  refine hi _ ⟨a, rfl, ⟨xs, hx⟩, fun D hD => ?_⟩
  refine lc_tup (K := K) (a := a) (xs := xs) (fun i H' => ∃ acc, acc.length ≤ i ∧ H' D = some (.lst acc) ∧ Pv D i acc H') ⟨[], Nat.le_refl _, upd_same, h0 D _ hD (same_new hD) upd_same⟩ (fun i H' hi p => ?_) (fun i x H' hx p => ?_) (fun H' p => ?_)
  · obtain ⟨acc, p1, p2, p3⟩ := p
    exact hl D i acc H' hD hi p2 p3
  · obtain ⟨acc, p1, p2, p3⟩ := p
    exact hs D i x acc H' hD hx p1 p2 p3
  · obtain ⟨acc, p1, p2, p3⟩ := p
    exact k D acc H' hD p1 p2 p3
end
section
variable {σ : L2.St} {H : Hp} {nx bk ct : L2.St → Hp → Prop} {rt : VK} {tb : TS} {g : TG} {K : PySem.W.Frag} {tl : TE}
theorem x_forT {a : Addr} {xs : List V} (hi : ∀ Q : VK, Q (.ref a) H → tl σ H Q) (hx : SqT K H a xs) (Pv : Nat → L2.St → Hp → Prop) (h0 : Pv 0 σ H) (hl : ∀ i σ' H', i ≤ xs.length → Pv i σ' H' → SqT K H' a xs)
    (hs : ∀ i x σ' H', xs[i]? = some x → Pv i σ' H' → g x σ' H' fun σ2 H2 => tb ⟨Pv (i + 1), rt, nx, Pv (i + 1)⟩ σ2 H2) (hd : ∀ σ' H', Pv xs.length σ' H' → nx σ' H') : tFor (iTup K tl) g tb ⟨nx, rt, bk, ct⟩ σ H := by
  refine hi _ ⟨a, rfl, ⟨xs, hx⟩, ?_⟩
  exact for_tup (K := K) (a := a) (xs := xs) (D := ⟨nx, rt, bk, ct⟩) Pv h0 hl hs hd
end
/-! what is walked, worked out first -/
section
variable {σ : L2.St} {H : Hp} {D : Ends} {nx bk ct : L2.St → Hp → Prop} {rt : VK} {tb : TS} {g : TG} {K : PySem.W.Frag} {tl te : TE} {ta : TA} {tt : TT} {vs : List Nat} {Q : VK}
def isForR (g : TG) (tb : TS) (D : Ends) (σ : L2.St) (xs : List V) (H : Hp) : Prop := tFor (iRng1 fun _ H Q => Q xs H) g tb D σ H
def isForL (K : PySem.W.Frag) (g : TG) (tb : TS) (D : Ends) (σ : L2.St) (x : V) (H : Hp) : Prop := tFor (iList K (tC x)) g tb D σ H
def isForT (K : PySem.W.Frag) (g : TG) (tb : TS) (D : Ends) (σ : L2.St) (x : V) (H : Hp) : Prop := tFor (iTup K (tC x)) g tb D σ H
def isLcR (g : TG) (tt : TT) (te : TE) (vs : List Nat) (σ : L2.St) (Q : VK) (xs : List V) (H : Hp) : Prop := tLc (iRng1 fun _ H Q => Q xs H) g tt te vs σ H Q
def isLcL (K : PySem.W.Frag) (g : TG) (tt : TT) (te : TE) (vs : List Nat) (σ : L2.St) (Q : VK) (x : V) (H : Hp) : Prop := tLc (iList K (tC x)) g tt te vs σ H Q
def isLcT (K : PySem.W.Frag) (g : TG) (tt : TT) (te : TE) (vs : List Nat) (σ : L2.St) (Q : VK) (x : V) (H : Hp) : Prop := tLc (iTup K (tC x)) g tt te vs σ H Q
theorem x_forRI (k : ta σ H fun xs H1 => isForR g tb D σ xs H1) : tFor (iRng1 ta) g tb D σ H := k
theorem x_forLI (k : tl σ H fun x H1 => isForL K g tb D σ x H1) : tFor (iList K tl) g tb D σ H := k
theorem x_forTI (k : tl σ H fun x H1 => isForT K g tb D σ x H1) : tFor (iTup K tl) g tb D σ H := k
theorem x_lcRI (k : ta σ H fun xs H1 => isLcR g tt te vs σ Q xs H1) : tLc (iRng1 ta) g tt te vs σ H Q := k
theorem x_lcLI (k : tl σ H fun x H1 => isLcL K g tt te vs σ Q x H1) : tLc (iList K tl) g tt te vs σ H Q := k
theorem x_lcTI (k : tl σ H fun x H1 => isLcT K g tt te vs σ Q x H1) : tLc (iTup K tl) g tt te vs σ H Q := k
theorem x_isForR {n : Int} (h : 0 ≤ n ∧ n < 2 ^ 62) (Pv : Nat → L2.St → Hp → Prop) (h0 : Pv 0 σ H)
    (hs : ∀ (i : Nat) σ' H', (i : Int) < n → Pv i σ' H' → g (.int (i : Int)) σ' H' fun σ2 H2 => tb ⟨Pv (i + 1), rt, nx, Pv (i + 1)⟩ σ2 H2) (hd : ∀ σ' H', Pv n.toNat σ' H' → nx σ' H') : isForR g tb ⟨nx, rt, bk, ct⟩ σ [.int n] H := x_for1 (fun _ q => q) h Pv h0 hs hd
theorem x_isForL {a : Addr} {xs : List V} (hx : SqL K H a xs) (Pv : Nat → L2.St → Hp → Prop) (h0 : Pv 0 σ H) (hl : ∀ i σ' H', i ≤ xs.length → Pv i σ' H' → SqL K H' a xs)
    (hs : ∀ i x σ' H', xs[i]? = some x → Pv i σ' H' → g x σ' H' fun σ2 H2 => tb ⟨Pv (i + 1), rt, nx, Pv (i + 1)⟩ σ2 H2) (hd : ∀ σ' H', Pv xs.length σ' H' → nx σ' H') : isForL K g tb ⟨nx, rt, bk, ct⟩ σ (.ref a) H := x_forL (fun _ q => q) hx Pv h0 hl hs hd
theorem x_isForT {a : Addr} {xs : List V} (hx : SqT K H a xs) (Pv : Nat → L2.St → Hp → Prop) (h0 : Pv 0 σ H) (hl : ∀ i σ' H', i ≤ xs.length → Pv i σ' H' → SqT K H' a xs)
    (hs : ∀ i x σ' H', xs[i]? = some x → Pv i σ' H' → g x σ' H' fun σ2 H2 => tb ⟨Pv (i + 1), rt, nx, Pv (i + 1)⟩ σ2 H2) (hd : ∀ σ' H', Pv xs.length σ' H' → nx σ' H') : isForT K g tb ⟨nx, rt, bk, ct⟩ σ (.ref a) H := x_forT (fun _ q => q) hx Pv h0 hl hs hd
theorem x_isLcR {n : Int} (Pv : Addr → Nat → List V → Hp → Prop) (hz : 0 ≤ n ∧ n ≤ 100000)
    (h0 : ∀ D H1, H D = none → Same H H1 → H1 D = some (.lst []) → Pv D 0 [] H1)
    (hs : ∀ D (i : Nat) acc H', H D = none → (i : Int) < n → acc.length ≤ i → H' D = some (.lst acc) → Pv D i acc H' → LcTurn g tt te vs σ (Pv D) D i (.int (i : Int)) H')
    (k : ∀ D acc H', H D = none → acc.length ≤ n.toNat → H' D = some (.lst acc) → Pv D n.toNat acc H' → Q (.ref D) H') : isLcR g tt te vs σ Q [.int n] H := x_lcRP Pv (fun _ q => q) hz h0 hs k
theorem x_isLcL {a : Addr} {xs : List V} (Pv : Addr → Nat → List V → Hp → Prop) (hx : SqL K H a xs) (hz : xs.length ≤ 100000)
    (h0 : ∀ D H1, H D = none → Same H H1 → H1 D = some (.lst []) → Pv D 0 [] H1) (hl : ∀ D i acc H', H D = none → i ≤ xs.length → H' D = some (.lst acc) → Pv D i acc H' → SqL K H' a xs)
    (hs : ∀ D (i : Nat) x acc H', H D = none → xs[i]? = some x → acc.length ≤ i → H' D = some (.lst acc) → Pv D i acc H' → LcTurn g tt te vs σ (Pv D) D i x H')
    (k : ∀ D acc H', H D = none → acc.length ≤ xs.length → H' D = some (.lst acc) → Pv D xs.length acc H' → Q (.ref D) H') : isLcL K g tt te vs σ Q (.ref a) H := x_lcLP Pv (fun _ q => q) hx hz h0 hl hs k
theorem x_isLcT {a : Addr} {xs : List V} (Pv : Addr → Nat → List V → Hp → Prop) (hx : SqT K H a xs) (hz : xs.length ≤ 100000)
    (h0 : ∀ D H1, H D = none → Same H H1 → H1 D = some (.lst []) → Pv D 0 [] H1) (hl : ∀ D i acc H', H D = none → i ≤ xs.length → H' D = some (.lst acc) → Pv D i acc H' → SqT K H' a xs)
    (hs : ∀ D (i : Nat) x acc H', H D = none → xs[i]? = some x → acc.length ≤ i → H' D = some (.lst acc) → Pv D i acc H' → LcTurn g tt te vs σ (Pv D) D i x H')
    (k : ∀ D acc H', H D = none → acc.length ≤ xs.length → H' D = some (.lst acc) → Pv D xs.length acc H' → Q (.ref D) H') : isLcT K g tt te vs σ Q (.ref a) H := x_lcTP Pv (fun _ q => q) hx hz h0 hl hs k
end
/-! in over lists of data -/
theorem x_inDL {K : PySem.W.Frag} {H : Hp} {Q : VK} {x : V} {a : Addr} {d : PyData} {ds : List PyData} (h1 : Dp K H x d) (h2 : Dp K H (.ref a) (.list ds)) (s1 : ShN 8 d) (s2 : ShN 9 (.list ds)) (k : Q (.bl (ds.any fun z => PyData.eqv z d)) H) : rInD K x (.ref a) H Q := ⟨d, ds, h1, h2, s1.shaped, s2.shaped, k⟩
end M
namespace M
open PySem PySem.Spec PyProof.Rows L2
/-! ## unpacking a tuple while an exception is handled -/
section
variable {prog : Program} {w : World} {A : Around} {E : Value → Shared → Prop} {s : Shared}
theorem next_tuple_end_hot {it t x1 : Addr} {i : Nat} {items : Array Value} {Q : Option Value → Shared → Prop} (hot : HotX.HotAt A x1 s.heap)
    (hit : IsTupIter s.heap it t i) (ht : IsTup s.heap t items) (hx : items[i]? = none) (hne : x1 ≠ it)
    (hQ : ∀ h', Heap.ExtBut it s.heap h' → Q none { s with heap := h' }) : wpAny (model prog w) A (pyNext (.ref it)) Q E s := by
  obtain ⟨hh, o1, vs1, h1, d1, c1⟩ := hot
  obtain ⟨o, ho, hc, hd⟩ := id hit
  obtain ⟨ol, hol, _, nl, hdl⟩ := ht
  unfold pyNext
  refine wpAny_bind (wpAny_attempt (wpAny_callSpecial?_slot (name := Str.ofString "__next__") hit.typeIs slot_tupleiter_next
    (wpAny_call_entry slot_tupleiter_next hit.typeIs entry_tupleiter_next ?_ (args_tupleiter_next _))))
  show wpAny _ _ (field (.ref it) 0 >>= _) _ _ s
  refine wpAny_bind (wpAny_field ho hd (x := .ref t) rfl ?_)
  show wpAny _ _ (if (Value.ref t == Value.none) = true then _ else _) _ _ s
  rw [if_neg (show ¬ ((Value.ref t == Value.none) = true) from Bool.false_ne_true)]
  show wpAny _ _ (field (.ref it) 1 >>= _) _ _ s
  refine wpAny_bind (wpAny_field ho hd (x := .int i 0) rfl ?_)
  show wpAny _ _ (seqItems? (.ref t) >>= _) _ _ s
  refine wpAny_bind (wpAny_seqItems hol hdl ?_)
  simp only [Int.toNat_natCast, hx]
  refine wpAny_bind (wpAny_rule (wpAny_bind (wpAny_setField ho hd (by simp) ?_)))
  show wpAny _ _ (newExc (.type "StopIteration") [] >>= _) _ _ _
  refine wpAny_bind ?_
  simp only [newExc, newTuple]
  refine wpAny_bind (wpAny_newObj_type ?_ (by size_fits))
  refine wpAny_bind (m := firstArgMember _ _) (wpAny_of_eq (a := Value.none) (by first | rfl | (simp only [firstArgMember]; rfl)) ?_)
  refine wpAny_newObj_type ?_ (by size_fits)
  have g1 : (s.heap.update it (Obj.mapFields (·.setIfInBounds 0 Value.none))).get? x1 = some o1 := by
    rw [Heap.get?_update_other _ _ (Ne.symm hne)]
    exact h1
  refine HotX.raiseNew_hot ⟨hh, o1, vs1, Heap.get?_push_of_some _ (Heap.get?_push_of_some _ g1), d1, c1⟩ (Nat.ne_of_lt (Heap.lt_size (Heap.get?_push_of_some _ g1))) (Heap.get?_push_size _ rfl) rfl (by first | (simp; done) | (simp; omega) | (simp only [Array.size_append]; simp; omega)) ?_
  refine wpAny_bind (wpAny_isInstance (T := "StopIteration") (b := true) ⟨_, Heap.get?_update_self _ (Heap.get?_push_size _ rfl) rfl, rfl⟩ isSubtype_stop ?_)
  refine wpAny_pure (hQ _ fun b o' hb e => ?_)
  have g2 : (s.heap.update it (Obj.mapFields (·.setIfInBounds 0 Value.none))).get? b = some o' := by
    rw [Heap.get?_update_other _ _ (Ne.symm hb)]
    exact e
  rw [Heap.get?_update_other _ _ (Nat.ne_of_gt (Heap.lt_size (Heap.get?_push_of_some _ g2)))]
  exact Heap.get?_push_of_some _ (Heap.get?_push_of_some _ g2)
theorem unpackItems_hot {t x1 : Addr} {items : Array Value} {Q : List Value → Shared → Prop} (hot : HotX.HotAt A x1 s.heap) (ht : IsTup s.heap t items)
    (hQ : ∀ h', Heap.ExtBut s.heap.objs.size s.heap h' → Q items.toList { s with heap := h' }) : wpAny (model prog w) A (unpackItems (.ref t) items.size none) Q E s := by
  have hlt : t ≠ s.heap.objs.size := by obtain ⟨o, ho, _⟩ := ht; exact Nat.ne_of_lt (Heap.lt_size ho)
  obtain ⟨hh, o1, vs1, h1, d1, c1⟩ := hot
  have hx1 : x1 ≠ s.heap.objs.size := Nat.ne_of_lt (Heap.lt_size h1)
  unfold unpackItems
  refine wpAny_bind ?_
  · unfold notIterableAtAll
    refine wpAny_bind (wpAny_specialOf ht.typeIs slot_tuple_iter.lookup ?_)
    refine wpAny_pure ?_
    simp only [Bool.false_eq_true, if_false]
    refine wpAny_bind (wpAny_holding (iter_tuple ht ?_))
    refine wpAny_bind (wpAny_holding (draw_tuple hlt items.size 0 _ _ ⟨_, Heap.get?_push_size _ rfl, rfl, rfl⟩ (ht.push _) (by omega) fun h₁ hit₁ hs₁ => ?_))
    have hall : List.take items.size (List.drop 0 items.toList) = items.toList := by
      rw [List.drop_zero]; exact List.take_of_length_le (by simp)
    rw [hall]
    rw [if_neg (by simp)]
    have ht₁ : IsTup h₁ t items := (ht.push _).extBut hs₁.extBut hlt
    have g1 : h₁.get? x1 = some o1 := hs₁.extBut _ _ hx1 (Heap.get?_push_of_some _ h1)
    refine wpAny_bind (wpAny_holding (next_tuple_end_hot ⟨hh, o1, vs1, g1, d1, c1⟩ hit₁ ht₁ (by simp) hx1 fun h₂ he₂ => ?_))
    simp only [Option.isSome_none, Bool.false_eq_true, if_false]
    refine wpAny_pure (hQ h₂ fun b o hb e => he₂ b o hb (hs₁.extBut b o hb (Heap.get?_push_of_some _ e)))
theorem assign_tuple_hot {env : Env} {elts : List Expr} {x1' : Nat} {pos : Pos} {t x1 : Addr} {items : Array Value} {Q : Unit → Shared → Prop} (hot : HotX.HotAt A x1 s.heap) (ht : IsTup s.heap t items)
    (hn : (assignEach elts env).length = items.size) (hstar : (assignEach elts env).findIdx? (·.1) = none)
    (h : ∀ h', Heap.ExtBut s.heap.objs.size s.heap h' → wpAny (model prog w) A (assignInOrder ((assignEach elts env).map (·.2)) items.toList) Q E { s with heap := h' }) :
    wpAny (model prog w) A (assign (.Tuple elts x1' pos) env (.ref t)) Q E s := by
  rw [assign_Tuple]
  refine wpAny_bind (wpAny_standAt ?_)
  unfold unpack
  rw [hn, hstar]
  exact wpAny_bind (wpAny_holding (unpackItems_hot hot ht h))
end
theorem pg_tupH {X : Cx} {es : List Expr} {k : Nat} {pos : Pos} {t : TGs} {n : Nat} (hc : L2H.HotC X) (h : PGs X es t)
    (hn : (assignEach es X.env).length = n := by rfl) (hst : (assignEach es X.env).findIdx? (·.1) = none := by rfl) : PG X (.Tuple es k pos) (gTup X.K n t) := by
  refine ⟨fun pins s σ H v u Q I r hw => ?_⟩
  obtain ⟨a, xs, e1, hq, hl, hw⟩ := hw
  subst e1
  cases r
  obtain ⟨its, rv, ht, hz⟩ := I.tuple hq
  obtain ⟨x1, hot⟩ := hc.at I
  refine assign_tuple_hot hot ht (by simp [hn, ← hl, rv.length]) hst fun h' hx => ?_
  have I1 : Inv X pins σ H { s with heap := h' } := I.kept (t' := s.toks) fun b o e => hx b o (Nat.ne_of_lt (Heap.lt_size e)) e
  exact h.run pins _ σ H xs _ Q I1 (by simpa using rv) hw
/-! ## methods that are handed the exception that is handled -/
abbrev SpE := Addr → Value → Option Addr → Sp
structure FnE (P : Program) (w : World) (K : PySem.W.Frag) (mg : Str → Option Value) (base : Heap) (k : Nat) (f : Addr) (fd : FuncData) (ps : List Str) (sp : SpE) : Prop where
  len : ∀ a cls d vs H Q E, sp a cls d vs H Q E → vs.length = ps.length
  run : ∀ (A : Around) (outer : List Env) (s : Shared) (H : Hp) (args : Args) (us : List Value) (vs : List V) (Q : VK) (E : XK) (p : Addr × Obj) (cls : Value) (d : Option Addr), L2H.RoomH k A → L2H.Hot1 A p → L2H.PinOk outer H s p → L2N.Zn cls d p.2 → (∃ vs, p.2.data = .fields vs) → Env0 P w K mg base A outer s H → BindsTo s fd args (ps.zip us) → Vals vs us → sp p.1 cls d vs H Q E →
    codeAny (model P w) A (.call (.ref f) args) (CR CX0 outer P w H s Q E) s
structure MetE (P : Program) (w : World) (K : PySem.W.Frag) (mg : Str → Option Value) (base : Heap) (k : Nat) (C : Addr) (m : Str) (sp : SpE) : Prop where
  ex : ∃ (f : Addr) (fd : FuncData) (ps : List Str), Cls K C ∧ Meth K C m f ∧ FnE P w K mg base k f fd ps sp ∧ Binds K fd ps []
theorem fn_ofE {P : Program} {w : World} {K : PySem.W.Frag} {mg : Str → Option Value} {base : Heap} {k : Nat} {f : Addr} {name qual : Str} {params : Arguments} {body : List Stmt} {scope : Scope} {dV kV doc pm cdv ct oc : Value} {an od : Option Addr}
    {osl : Array (Option Value)} {N ps : List Str} {sp : SpE} (lk : K.lookup f = some ⟨oc, od, .func (PySem.W.fnOf name qual params body scope dV kV doc pm an cdv ct), osl⟩) (hcd : PySem.W.codeIn K cdv qual = true) (S : FnScope N ps scope)
    (len : ∀ a cls d vs H Q E, sp a cls d vs H Q E → vs.length = ps.length)
    (hbody : ∀ (A : Around) (outer : List Env) (s : Shared) (H : Hp) (vs : List V) (Q : VK) (E : XK) (p : Addr × Obj) (cls : Value) (d : Option Addr), L2H.Hot1 A p → L2N.Zn cls d p.2 → (∃ vs, p.2.data = .fields vs) → L2H.RoomH k (A.deeper (envOfC qual scope s.heap.objs.size f cdv)) → sp p.1 cls d vs H Q E →
      ∃ t, PSs (L2H.cxH CX0 P w K mg base N qual scope f cdv A outer s H E p) body t ∧ t { nx := fun _ H' => Q .non H', rt := Q } (L2.start N vs) H) :
    FnE P w K mg base (k + 1) f (PySem.W.fnOf name qual params body scope dV kV doc pm an cdv ct) ps sp := by
  refine ⟨len, fun A outer s H args us vs Q E p cls d hr hot hpin hz hf e0 hb r hsp => ?_⟩
  have hl := len _ _ _ _ _ _ _ hsp
  have KX : K.In s.heap := e0.mod.kin.keeps fun b o e => (e0.bs b o e).1
  have lim : s.heap.NoLimit := e0.mod.nolimit.keeps fun b o e => (e0.bs b o e).1
  have hkind : ∀ y ∈ ps.zip us, scope.names.lookup y.1 = some .local ∨ (scope.names.lookup y.1 = some .cell ∧ ((cellsFrom (s.heap.objs.size + 1) scope.names []).lookup y.1).isSome = true) := fun ⟨n, v⟩ hy => by
    rcases S.par n (List.of_mem_zip hy).1 with q | q
    · exact .inl q
    · exact .inr ⟨q, PySem.W.cellsFrom_some _ _ _ (.inl q)⟩
  refine codeAny_call_function hr.depth (KX _ _ lk) rfl S.co S.gen rfl (PySem.W.codeRec_of KX hcd) (hb _ _ _ _ ?_)
  refine wpAny_newFunctionEnv_cells S.kind hkind fun env he s1 x => ?_
  subst he
  refine ⟨lim.keeps x.toInCall.keep, codeAny_func ?_⟩
  obtain ⟨t, ht, hq⟩ := hbody A outer s H vs Q E p cls d hot hz hf (hr.deeper _) hsp
  have I : Inv (L2H.cxH CX0 P w K mg base N qual scope f cdv A outer s H E p) [] (L2.start N vs) H s1 := L2H.inv_startH S hpin e0 hl r x
  refine wpAny_mono (ht.run [] s1 (L2.start N vs) H _ I hq) (fun fl s' hs => ?_) fun e s' hs => hs
  have fin : ∀ {σ' : St} {H' : Hp} {v : V} {u : Value}, Inv (L2H.cxH CX0 P w K mg base N qual scope f cdv A outer s H E p) [] σ' H' s' → RelV v u → Q v H' → CE outer P w H s Q u s' :=
    fun {σ' H' v u} J rv q => ⟨v, H', J.os, J.bare, J.base, J.hok, rv, q⟩
  cases fl with
  | ret u =>
    obtain ⟨v, σ', H', J, rv, q⟩ := hs
    exact fin J rv q
  | next =>
    obtain ⟨σ', H', J, q⟩ := hs
    exact fin (v := V.non) (u := Value.none) J rfl q
  | brk =>
    obtain ⟨_, _, _, q⟩ := hs
    exact False.elim q
  | cont =>
    obtain ⟨_, _, _, q⟩ := hs
    exact False.elim q
theorem FnE.mono {P : Program} {w : World} {K : PySem.W.Frag} {mg : Str → Option Value} {base : Heap} {j k : Nat} {f : Addr} {fd : FuncData} {ps : List Str} {sp : SpE} (F : FnE P w K mg base j f fd ps sp) (h : j ≤ k) : FnE P w K mg base k f fd ps sp :=
  ⟨F.len, fun A outer s H args us vs Q E p cls d hr => F.run A outer s H args us vs Q E p cls d (hr.mono h)⟩
section
variable {X : Cx} {k j : Nat} {f C : Addr} {fd : FuncData} {ps : List Str} {sp : SpE} {m : Str} {pos apos : Pos} {e o : Expr} {es : List Expr} {ta : TE} {t : TA} {a : Addr} {oe : Obj} {cls : Value} {d : Option Addr}
theorem run_fnE {pins : List (Addr × Obj)} {σ : St} {H : Hp} {s : Shared} {Q : VK} {us : List Value} {vs : List V} (F : FnE X.prog X.w X.K X.mg X.base k f fd ps sp) (hr : L2H.RoomH k X.A) (hot : L2H.Hot1 X.A (a, oe)) (hp : (a, oe) ∈ X.pn) (hz : L2N.Zn cls d oe) (hf : ∃ vs, oe.data = .fields vs) (hb : Binds X.K fd ps [])
    (I : Inv X pins σ H s) (r : Vals vs us) (h : sp a cls d vs H Q C8.E0) : wpAny (model X.prog X.w) X.A (call (.ref f) us) (EP X pins σ Q) X.xe s := by
  have hl : us.length = ps.length := by rw [← r.length]; exact F.len _ _ _ _ _ _ _ h
  have b := hb s us I.kIn (by rw [List.append_nil]; exact hl)
  rw [List.append_nil] at b
  have P1 := I.pin (a, oe) (List.mem_append_left _ hp)
  have hpin : L2H.PinOk X.stack H s (a, oe) := ⟨P1.1, P1.2.1, fun hm => (List.mem_cons.mp (I.stkSub a hm)).elim P1.2.2.1 P1.2.2.2.1, P1.2.2.2.2⟩
  refine wpAny_call (codeAny_mono (F.run X.A X.stack s H ⟨us, []⟩ us vs Q C8.E0 (a, oe) cls d hr hot hpin hz hf I.env0 b r h) fun r s' hq => ?_)
  cases r with
  | error e => exact C8.pass0 (E := C8.E0) pins σ H s e s' I hq
  | ok fl =>
    cases fl with
    | ret u => exact I.after hq
    | next => exact False.elim hq
    | brk => exact False.elim hq
    | cont => exact False.elim hq
theorem pe_mE {pl : Sem Bool} (c : MetE X.prog X.w X.K X.mg X.base k C m sp) (hr : L2H.RoomH j X.A) (hk : k ≤ j) (hot : L2H.Hot1 X.A (a, oe)) (hp : (a, oe) ∈ X.pn) (hz : L2N.Zn cls d oe) (hf : ∃ vs, oe.data = .fields vs) (he : PE X o ta) (ha : PA X (e :: es) t)
    (hst : starEach (e :: es) X.env = (false, eval e X.env) :: starEach es X.env := by rfl) (hpl : (backTo pos (starEach es X.env)).any (·.1) = false := by rfl)
    (ht : eval (.Call (.Attribute o m apos) (e :: es) [] pos) X.env = (do
      let ov ← eval o X.env
      standAt apos.atName
      let (f, first) ← holding [ov] (getMethod ov m pl)
      callWith pos f first (backTo pos (starEach (e :: es) X.env)) (backToKw pos (keywordEach [] X.env))) := by rfl) :
    PE X (.Call (.Attribute o m apos) (e :: es) [] pos) (tMeth C m (sp a cls d) [] C8.E0 ta t) := by
  obtain ⟨f, fd, ps, hcl, hm, F, b⟩ := c.ex
  rw [← tMethH_S]
  refine ⟨fun pins s σ H Q I h => ?_⟩
  refine PySem.W.methodCall_KW (pl := pl) (thn (he.run pins s σ H _ I h) fun u s1 ⟨x, H1, I1, rx, b1, dx, fs, ex, ea, l, q⟩ => ?_) ht
  subst ex
  obtain rfl : u = Value.ref b1 := rx
  refine getmeth_ok I1 ea hcl hm l ?_
  refine PySem.W.callWith_K (first := [.ref b1]) (h₀ := X.base) I.ok.mod.kin hm.kp (thn (ha.run pos pins s1 σ H1 _ I1 q) fun us s2 ⟨vs, H2, I2, r, q2⟩ => ⟨I2.kIn, ?_⟩) hst hpl
  exact run_fnE (us := .ref b1 :: us) (vs := .ref b1 :: vs) (F.mono hk) hr hot hp hz hf b I2 (.cons rfl r) q2
/-- e.f where e is the exception that is handled -/
theorem pe_xfH {e : Expr} {te : TE} {n : Str} (T : XfC X.K C) (hno : PySem.W.findIn X.K (.ref C) n = some none) (hp : (a, oe) ∈ X.pn) (hz : L2N.Zn cls d oe) (hf : ∃ vs, oe.data = .fields vs) (he : PE X e te) (hb : attributeBase e n X.env (eval e X.env) = eval e X.env := by rfl) :
    PE X (.Attribute e n pos) (tXf a cls d C n te) := by
  refine ⟨fun pins s σ H Q I h => ?_⟩
  refine attr_of hb (thn (he.run pins s σ H _ I h) fun u s1 hh => ?_)
  obtain ⟨x, H1, I1, rx, ex, ec, dd, fs, v, ed, ea, l, q⟩ := hh
  subst ex
  obtain rfl : u = Value.ref a := rx
  subst ec
  subst ed
  obtain ⟨ha, _⟩ := I1.pin (a, oe) (List.mem_append_left _ hp)
  obtain ⟨vs, hd⟩ := hf
  have hx : ObjOk X.prog X.w H1 s1.heap dd (.xd fs) := I1.hok dd _ ea
  obtain ⟨mA, hns, hr⟩ := hx
  obtain ⟨od, ho, hl⟩ := lookIn_ns hns
  obtain ⟨u, hu, ru⟩ := RelO.some_of (v := v) (o := mA n) (by rw [← l]; exact hr n)
  have hz := hz.zc
  have J : PySem.W.InstAt s1.heap a oe C (some od) := ⟨ha, hz.1, by unfold PySem.W.notCls; rw [hd] <;> rfl, by rw [hz.2]; exact ho⟩
  exact HandSPX.exc_get I1.kIn J T.ga T.gg T.exC (PySem.W.findObj_own T.hdC hno rfl (by rw [hl, hu])) (handed_of ru) ⟨v, H1, I1.tok _, ru, q⟩
end
section
variable {P : Program} {w : World} {K : PySem.W.Frag} {mg : Str → Option Value} {base : Heap}
theorem metE_mk {m qual : Str} {C : Addr} {st : Stmt} {f : Addr} {N ps : List Str} {k : Nat} {sp : SpE} (F : ∃ fd, FunD K m qual (defArgs st) (defBody st) (defScope st) [] [] f fd) (c : Cls K C) (me : Meth K C m f) (S : FnScope N ps (defScope st))
    (hb : ∀ (kV doc pm : Value) (an : Option Addr) (cdv ct : Value) (us : List Value), us.length = ps.length → bindArgs (PySem.W.fnOf m qual (defArgs st) (defBody st) (defScope st) .none kV doc pm an cdv ct) ⟨us, []⟩ = pure (ps.zip us))
    (len : ∀ a cls d vs H Q E, sp a cls d vs H Q E → vs.length = ps.length)
    (hbody : ∀ (cdv : Value) (A : Around) (outer : List Env) (s : Shared) (H : Hp) (vs : List V) (Q : VK) (E : XK) (a : Addr) (oe : Obj) (cls : Value) (d : Option Addr), L2H.HotC (L2H.cxH CX0 P w K mg base N qual (defScope st) f cdv A outer s H E (a, oe)).nox → L2N.Zn cls d oe → (∃ vs, oe.data = .fields vs) → L2H.RoomH k (A.deeper (envOfC qual (defScope st) s.heap.objs.size f cdv)) → sp a cls d vs H Q E →
      ∃ t, PSs (L2H.cxH CX0 P w K mg base N qual (defScope st) f cdv A outer s H E (a, oe)).nox (defBody st) t ∧ t ⟨fun _ H' => Q .non H', Q, fun _ _ => False, fun _ _ => False⟩ (start N vs) H) : MetE P w K mg base (k + 1) C m sp := by
  obtain ⟨fd, F⟩ := F
  refine ⟨f, fd, ps, c, me, ?_, F.bindsN hb⟩
  obtain ⟨oc, od, dV, kV, doc, pm, an, cdv, ct, osl, rfl, lk, hcd, _, _⟩ := F.ex
  exact fn_ofE lk hcd S len fun A outer s H vs Q E p cls d hot hz hf hr h => by
    obtain ⟨t, h1, h2⟩ := hbody _ A outer s H vs Q E p.1 p.2 cls d ⟨p, hot, List.mem_cons_self ..⟩ hz hf hr h
    exact ⟨t, h1.nox, h2⟩
end
theorem hot1_suite {X : Cx} {a : Addr} {oe : Obj} {cls : Value} {d : Option Addr} {pn : List (Addr × Obj)} (hz : L2N.Zn cls d oe) (hf : ∃ vs, oe.data = .fields vs) : L2H.Hot1 (X.suite a ((a, oe) :: pn)).A (a, oe) := by
  obtain ⟨vs, hv⟩ := hf
  exact ⟨rfl, vs, hv, hz.2.2 vs hv⟩
end M
namespace M
open PySem PySem.Spec PyProof.Rows L2
/-! ## steps without side conditions, as instances -/
class Stp (g : Prop) (h : outParam Prop) : Prop where
  run : h → g
section
variable {σ : St} {H : Hp} {Q : VK} {i : Nat} {v x y : V} {ta tb tc te : TE} {t u : TT} {r r' : R2} {tr tl : TA} {K : PySem.W.Frag}
instance i_c  : Stp (tC v σ H Q) (Q v H) := ⟨fun k => x_c k⟩
instance i_op  : Stp (tOp r ta tb σ H Q) (ta σ H fun x H1 => tb σ H1 fun y H2 => r x y H2 Q) := ⟨fun k => x_op k⟩
instance i_rI0 {g : Int → Int → V} {a b : Int} : Stp (rI0 g (.int a) (.int b) H Q) (Q (g a b) H) := ⟨fun k => x_rI0 k⟩
instance i_call {sp : Sp} {E : XK} : Stp (tCall sp [] E tr σ H Q) (tr σ H fun vs H1 => sp vs H1 Q E) := ⟨fun k => x_call k⟩
instance i_callB {r : List V → Hp → VK → Prop} : Stp (tCB r tr σ H Q) (tr σ H fun vs H1 => r vs H1 Q) := ⟨fun k => x_callB k⟩
instance i_cons {Q : List V → Hp → Prop} : Stp (tCons te tr σ H Q) (te σ H fun x H1 => tr σ H1 fun xs H2 => Q (x :: xs) H2) := ⟨fun k => x_cons k⟩
instance i_nil {Q : List V → Hp → Prop} : Stp (tNil σ H Q) (Q [] H) := ⟨fun k => x_nil k⟩
instance i_int {a : Int} : Stp (rInt1 [.int a] H Q) (Q (.int a) H) := ⟨fun k => x_int k⟩
instance i_intB {b : Bool} : Stp (rInt1 [.bl b] H Q) (Q (.int (if b then 1 else 0)) H) := ⟨fun k => x_intB k⟩
instance i_test {Q : Bool → Hp → Prop} : Stp (tTest te σ H Q) (te σ H fun x H1 => isB x H1 Q) := ⟨fun k => x_test k⟩
instance i_tB {Q : Bool → Hp → Prop} : Stp (tB te σ H Q) (te σ H fun x H1 => isB x H1 Q) := ⟨fun k => x_tB k⟩
instance i_isB {b : Bool} {Q : Bool → Hp → Prop} : Stp (isB (.bl b) H Q) (Q b H) := ⟨fun k => x_isB k⟩
instance i_eqI {a b : Int} : Stp (rEq (.int a) (.int b) H Q) (Q (.bl (decide (a = b))) H) := ⟨fun k => x_eqI k⟩
instance i_neI {a b : Int} : Stp (rNe (.int a) (.int b) H Q) (Q (.bl (decide (a ≠ b))) H) := ⟨fun k => x_neI k⟩
instance i_eqS {a b : Str} : Stp (rEq (.str a) (.str b) H Q) (Q (.bl (decide (a = b))) H) := ⟨fun k => x_eqS k⟩
instance i_neS {a b : Str} : Stp (rNe (.str a) (.str b) H Q) (Q (.bl (decide (a ≠ b))) H) := ⟨fun k => x_neS k⟩
instance i_eqB {a b : Bool} : Stp (rEq (.bl a) (.bl b) H Q) (Q (.bl (decide (a = b))) H) := ⟨fun k => x_eqB k⟩
instance i_neB {a b : Bool} : Stp (rNe (.bl a) (.bl b) H Q) (Q (.bl (decide (a ≠ b))) H) := ⟨fun k => x_neB k⟩
instance i_ifT {A B : Prop} : Stp (ifB true A B) (A) := ⟨fun k => x_ifT k⟩
instance i_ifF {A B : Prop} : Stp (ifB false A B) (B) := ⟨fun k => x_ifF k⟩
instance i_and {Q : Bool → Hp → Prop} : Stp (tAnd t u σ H Q) (t σ H fun c H1 => ifB c (u σ H1 Q) (Q false H1)) := ⟨fun k => x_and k⟩
instance i_or {Q : Bool → Hp → Prop} : Stp (tOr t u σ H Q) (t σ H fun c H1 => ifB c (Q true H1) (u σ H1 Q)) := ⟨fun k => x_or k⟩
instance i_not {Q : Bool → Hp → Prop} : Stp (tNot t σ H Q) (t σ H fun c H1 => Q (!c) H1) := ⟨fun k => x_not k⟩
instance i_ifNB {b : Bool} {A B : Prop} : Stp (ifB (!b) A B) (ifB b B A) := ⟨fun k => x_ifNB k⟩
instance i_andV  : Stp (tAndV ta tb σ H Q) (ta σ H fun x H1 => isB x H1 fun c H1 => ifB c (tb σ H1 Q) (Q (.bl false) H1)) := ⟨fun k => x_andV k⟩
instance i_orV  : Stp (tOrV ta tb σ H Q) (ta σ H fun x H1 => isB x H1 fun c H1 => ifB c (Q (.bl true) H1) (tb σ H1 Q)) := ⟨fun k => x_orV k⟩
instance i_notV  : Stp (tNotV ta σ H Q) (ta σ H fun x H1 => isB x H1 fun c H1 => Q (.bl (!c)) H1) := ⟨fun k => x_notV k⟩
instance i_ifE  : Stp (tIf t ta tb σ H Q) (t σ H fun c H1 => ifB c (ta σ H1 Q) (tb σ H1 Q)) := ⟨fun k => x_ifE k⟩
instance i_chain  : Stp (tChain r r' ta tb tc σ H Q) (ta σ H fun x H1 => tb σ H1 fun y H2 => r x y H2 fun z H3 => isB z H3 fun c H3 => ifB c (tc σ H3 fun w H4 => r' y w H4 Q) (Q (.bl false) H3)) := ⟨fun k => x_chain k⟩
instance i_un {r : V → Hp → VK → Prop} : Stp (tUn r ta σ H Q) (ta σ H fun x H1 => r x H1 Q) := ⟨fun k => x_un k⟩
instance i_rU {g : Int → V} {a : Int} : Stp (rU g (.int a) H Q) (Q (g a) H) := ⟨fun k => x_rU k⟩
instance i_max2 {a b : Int} : Stp (rMax2 [.int a, .int b] H Q) (Q (.int (if b > a then b else a)) H) := ⟨fun k => x_max2 k⟩
instance i_min2 {a b : Int} : Stp (rMin2 [.int a, .int b] H Q) (Q (.int (if b < a then b else a)) H) := ⟨fun k => x_min2 k⟩
end
section
variable {σ : St} {H : Hp} {Q : VK} {i : Nat} {v x y : V} {ta tb tc te : TE} {t u : TT} {tr tl : TA} {K : PySem.W.Frag} {nx bk ct : St → Hp → Prop} {rt : VK} {ts tu : TS} {g : TG}
instance i_seq  : Stp (tSeq ts tu ⟨nx, rt, bk, ct⟩ σ H) (ts ⟨tu ⟨nx, rt, bk, ct⟩, rt, bk, ct⟩ σ H) := ⟨fun k => x_seq k⟩
instance i_asg  : Stp (tAsg te g ⟨nx, rt, bk, ct⟩ σ H) (te σ H fun x H1 => g x σ H1 nx) := ⟨fun k => x_asg k⟩
instance i_gname {Q : St → Hp → Prop} : Stp (gName i x σ H Q) (Q (σ.set i (some x)) H) := ⟨fun k => x_gname k⟩
instance i_ifS  : Stp (tIfS t ts tu ⟨nx, rt, bk, ct⟩ σ H) (t σ H fun c H1 => ifB c (ts ⟨nx, rt, bk, ct⟩ σ H1) (tu ⟨nx, rt, bk, ct⟩ σ H1)) := ⟨fun k => x_ifS k⟩
instance i_ret  : Stp (tRet te ⟨nx, rt, bk, ct⟩ σ H) (te σ H rt) := ⟨fun k => x_ret k⟩
instance i_retN  : Stp (tRetN ⟨nx, rt, bk, ct⟩ σ H) (rt .non H) := ⟨fun k => x_retN k⟩
instance i_next  : Stp (tNext ⟨nx, rt, bk, ct⟩ σ H) (nx σ H) := ⟨fun k => x_next k⟩
instance i_brk  : Stp (tBreak ⟨nx, rt, bk, ct⟩ σ H) (bk σ H) := ⟨fun k => x_brk k⟩
instance i_cont  : Stp (tCont ⟨nx, rt, bk, ct⟩ σ H) (ct σ H) := ⟨fun k => x_cont k⟩
instance i_drop  : Stp (tDrop te ⟨nx, rt, bk, ct⟩ σ H) (te σ H fun _ H1 => nx σ H1) := ⟨fun k => x_drop k⟩
instance i_lstp  : Stp (tLst tr σ H Q) (tr σ H fun xs H1 => NewL xs H1 Q) := ⟨fun k => x_lst' k⟩
instance i_tupp  : Stp (tTup tr σ H Q) (tr σ H fun xs H1 => NewT xs H1 Q) := ⟨fun k => x_tup' k⟩
end
section
variable {K : PySem.W.Frag} {H : Hp} {Q : VK} {x : V} {b : Bool}
instance i_isiII {i : Int} : Stp (rIsi K [.int i, .ty "int"] H Q) (Q (.bl true) H) := ⟨fun k => x_isiII k⟩
instance i_isiIB {i : Int} : Stp (rIsi K [.int i, .ty "bool"] H Q) (Q (.bl false) H) := ⟨fun k => x_isiIB k⟩
instance i_isiBB {i : Bool} : Stp (rIsi K [.bl i, .ty "bool"] H Q) (Q (.bl true) H) := ⟨fun k => x_isiBB k⟩
instance i_isiSS {z : Str} : Stp (rIsi K [.str z, .ty "str"] H Q) (Q (.bl true) H) := ⟨fun k => x_isiSS k⟩
end
section
variable {σ : St} {H : Hp} {Q : VK} {K : PySem.W.Frag} {ta : TE} {nx bk ct : St → Hp → Prop} {rt : VK} {ts tu : TS}
instance i_truV {Q : Bool → Hp → Prop} : Stp (tTruV K ta σ H Q) (ta σ H fun x H1 => isTru K x H1 Q) := ⟨fun k => x_truV k⟩
instance i_truI {Q : Bool → Hp → Prop} {i : Int} : Stp (isTru K (.int i) H Q) (Q (decide (i ≠ 0)) H) := ⟨fun k => x_truI k⟩
instance i_isBl {a b : Bool} : Stp (rIsB (.bl a) (.bl b) H Q) (Q (.bl (decide (a = b))) H) := ⟨fun k => x_isBl k⟩
instance i_notBl {a b : Bool} : Stp (rNotB (.bl a) (.bl b) H Q) (Q (.bl (!decide (a = b))) H) := ⟨fun k => x_notBl k⟩
end
section
variable {σ : St} {H : Hp} {Q : VK} {x : V} {to te : TE} {t : TA} {K : PySem.W.Frag} {p : Addr} {xs : List V} {l : List Str} {z : Str}
instance i_bm {T : String} {r : V → List V → Hp → VK → Prop} : Stp (tBM K T r to t σ H Q) (to σ H fun x H1 => isTy K T x H1 (t σ H1 fun xs H2 => r x xs H2 Q)) := ⟨fun k => x_bm k⟩
instance i_m1 {r : V → List V → Hp → VK → Prop} : Stp (tM1 r to te σ H Q) (to σ H fun x H1 => isTxt x (te σ H1 fun y H2 => r x [y] H2 Q)) := ⟨fun k => x_m1 k⟩
instance i_txt {A : Prop} : Stp (isTxt (.str z) A) (A) := ⟨fun k => x_txt k⟩
end
section
instance i_rz {W : WX} {t : L2.St → Hp → XK → Prop} {D : Ends} {σ : L2.St} {H : Hp} : Stp (tRz W t D σ H) (t σ H fun cls d H' => W cls d σ H') := ⟨fun k => x_rz k⟩
instance i_mkE {C : Addr} {fs : List Str} {ta : TA} {σ : L2.St} {H : Hp} {Q : XK} : Stp (XM.tMkE C fs ta σ H Q) (ta σ H fun vs H1 => vs.length = fs.length ∧ (∀ v ∈ vs, XM.TxtV v) ∧ ∀ d, H1 d = none → Q (.ref C) (some d) (upd H1 d (.xd (fs.zip vs).reverse))) := ⟨fun k => x_mkE k⟩
instance i_tryAs {K : PySem.W.Frag} {c : Value} {i : Nat} {tb : WX → TS} {ts : Addr → Value → Option Addr → TS} {D : Ends} {σ : L2.St} {H : Hp} : Stp (tTryAs K c i tb ts D σ H) (tb (wAs K c i ts (fun _ _ _ _ => False) D) D σ H) := ⟨fun k => x_tryAs k⟩
instance i_mkE2 {C : Addr} {f0 f1 : Str} {σ : L2.St} {H : Hp} {E : XK} {ta : TA} : Stp (XM.tMkE C [f0, f1] ta σ H E) (ta σ H fun vs H1 => isE2 C f0 f1 vs H1 E) := ⟨fun k => x_mkE2 k⟩
instance i_tryO {K : PySem.W.Frag} {c : Value} {tb : WX → TS} {ts : Addr → Value → Option Addr → TS} {D : Ends} {σ : L2.St} {H : Hp} : Stp (tTryO K c tb ts D σ H) (tb (wMany K (fun _ _ _ _ => False) D [(c, ts)]) D σ H) := ⟨fun k => x_tryO k⟩
instance i_gn0 {x : V} {a0 : Option V} {r : L2.St} {H : Hp} {Q : L2.St → Hp → Prop} : Stp (gName 0 x (a0 :: r) H Q) (Q (some x :: r) H) := ⟨fun k => x_gn0 k⟩
instance i_gn1 {x : V} {a0 a1 : Option V} {r : L2.St} {H : Hp} {Q : L2.St → Hp → Prop} : Stp (gName 1 x (a0 :: a1 :: r) H Q) (Q (a0 :: some x :: r) H) := ⟨fun k => x_gn1 k⟩
instance i_gn2 {x : V} {a0 a1 a2 : Option V} {r : L2.St} {H : Hp} {Q : L2.St → Hp → Prop} : Stp (gName 2 x (a0 :: a1 :: a2 :: r) H Q) (Q (a0 :: a1 :: some x :: r) H) := ⟨fun k => x_gn2 k⟩
instance i_gn3 {x : V} {a0 a1 a2 a3 : Option V} {r : L2.St} {H : Hp} {Q : L2.St → Hp → Prop} : Stp (gName 3 x (a0 :: a1 :: a2 :: a3 :: r) H Q) (Q (a0 :: a1 :: a2 :: some x :: r) H) := ⟨fun k => x_gn3 k⟩
instance i_gn4 {x : V} {a0 a1 a2 a3 a4 : Option V} {r : L2.St} {H : Hp} {Q : L2.St → Hp → Prop} : Stp (gName 4 x (a0 :: a1 :: a2 :: a3 :: a4 :: r) H Q) (Q (a0 :: a1 :: a2 :: a3 :: some x :: r) H) := ⟨fun k => x_gn4 k⟩
instance i_gn5 {x : V} {a0 a1 a2 a3 a4 a5 : Option V} {r : L2.St} {H : Hp} {Q : L2.St → Hp → Prop} : Stp (gName 5 x (a0 :: a1 :: a2 :: a3 :: a4 :: a5 :: r) H Q) (Q (a0 :: a1 :: a2 :: a3 :: a4 :: some x :: r) H) := ⟨fun k => x_gn5 k⟩
instance i_gn6 {x : V} {a0 a1 a2 a3 a4 a5 a6 : Option V} {r : L2.St} {H : Hp} {Q : L2.St → Hp → Prop} : Stp (gName 6 x (a0 :: a1 :: a2 :: a3 :: a4 :: a5 :: a6 :: r) H Q) (Q (a0 :: a1 :: a2 :: a3 :: a4 :: a5 :: some x :: r) H) := ⟨fun k => x_gn6 k⟩
instance i_gn7 {x : V} {a0 a1 a2 a3 a4 a5 a6 a7 : Option V} {r : L2.St} {H : Hp} {Q : L2.St → Hp → Prop} : Stp (gName 7 x (a0 :: a1 :: a2 :: a3 :: a4 :: a5 :: a6 :: a7 :: r) H Q) (Q (a0 :: a1 :: a2 :: a3 :: a4 :: a5 :: a6 :: some x :: r) H) := ⟨fun k => x_gn7 k⟩
instance i_gn8 {x : V} {a0 a1 a2 a3 a4 a5 a6 a7 a8 : Option V} {r : L2.St} {H : Hp} {Q : L2.St → Hp → Prop} : Stp (gName 8 x (a0 :: a1 :: a2 :: a3 :: a4 :: a5 :: a6 :: a7 :: a8 :: r) H Q) (Q (a0 :: a1 :: a2 :: a3 :: a4 :: a5 :: a6 :: a7 :: some x :: r) H) := ⟨fun k => x_gn8 k⟩
instance i_gn9 {x : V} {a0 a1 a2 a3 a4 a5 a6 a7 a8 a9 : Option V} {r : L2.St} {H : Hp} {Q : L2.St → Hp → Prop} : Stp (gName 9 x (a0 :: a1 :: a2 :: a3 :: a4 :: a5 :: a6 :: a7 :: a8 :: a9 :: r) H Q) (Q (a0 :: a1 :: a2 :: a3 :: a4 :: a5 :: a6 :: a7 :: a8 :: some x :: r) H) := ⟨fun k => x_gn9 k⟩
instance i_gn10 {x : V} {a0 a1 a2 a3 a4 a5 a6 a7 a8 a9 a10 : Option V} {r : L2.St} {H : Hp} {Q : L2.St → Hp → Prop} : Stp (gName 10 x (a0 :: a1 :: a2 :: a3 :: a4 :: a5 :: a6 :: a7 :: a8 :: a9 :: a10 :: r) H Q) (Q (a0 :: a1 :: a2 :: a3 :: a4 :: a5 :: a6 :: a7 :: a8 :: a9 :: some x :: r) H) := ⟨fun k => x_gn10 k⟩
instance i_gn11 {x : V} {a0 a1 a2 a3 a4 a5 a6 a7 a8 a9 a10 a11 : Option V} {r : L2.St} {H : Hp} {Q : L2.St → Hp → Prop} : Stp (gName 11 x (a0 :: a1 :: a2 :: a3 :: a4 :: a5 :: a6 :: a7 :: a8 :: a9 :: a10 :: a11 :: r) H Q) (Q (a0 :: a1 :: a2 :: a3 :: a4 :: a5 :: a6 :: a7 :: a8 :: a9 :: a10 :: some x :: r) H) := ⟨fun k => x_gn11 k⟩
instance i_gn12 {x : V} {a0 a1 a2 a3 a4 a5 a6 a7 a8 a9 a10 a11 a12 : Option V} {r : L2.St} {H : Hp} {Q : L2.St → Hp → Prop} : Stp (gName 12 x (a0 :: a1 :: a2 :: a3 :: a4 :: a5 :: a6 :: a7 :: a8 :: a9 :: a10 :: a11 :: a12 :: r) H Q) (Q (a0 :: a1 :: a2 :: a3 :: a4 :: a5 :: a6 :: a7 :: a8 :: a9 :: a10 :: a11 :: some x :: r) H) := ⟨fun k => x_gn12 k⟩
instance i_gn13 {x : V} {a0 a1 a2 a3 a4 a5 a6 a7 a8 a9 a10 a11 a12 a13 : Option V} {r : L2.St} {H : Hp} {Q : L2.St → Hp → Prop} : Stp (gName 13 x (a0 :: a1 :: a2 :: a3 :: a4 :: a5 :: a6 :: a7 :: a8 :: a9 :: a10 :: a11 :: a12 :: a13 :: r) H Q) (Q (a0 :: a1 :: a2 :: a3 :: a4 :: a5 :: a6 :: a7 :: a8 :: a9 :: a10 :: a11 :: a12 :: some x :: r) H) := ⟨fun k => x_gn13 k⟩
instance i_gn14 {x : V} {a0 a1 a2 a3 a4 a5 a6 a7 a8 a9 a10 a11 a12 a13 a14 : Option V} {r : L2.St} {H : Hp} {Q : L2.St → Hp → Prop} : Stp (gName 14 x (a0 :: a1 :: a2 :: a3 :: a4 :: a5 :: a6 :: a7 :: a8 :: a9 :: a10 :: a11 :: a12 :: a13 :: a14 :: r) H Q) (Q (a0 :: a1 :: a2 :: a3 :: a4 :: a5 :: a6 :: a7 :: a8 :: a9 :: a10 :: a11 :: a12 :: a13 :: some x :: r) H) := ⟨fun k => x_gn14 k⟩
instance i_gn15 {x : V} {a0 a1 a2 a3 a4 a5 a6 a7 a8 a9 a10 a11 a12 a13 a14 a15 : Option V} {r : L2.St} {H : Hp} {Q : L2.St → Hp → Prop} : Stp (gName 15 x (a0 :: a1 :: a2 :: a3 :: a4 :: a5 :: a6 :: a7 :: a8 :: a9 :: a10 :: a11 :: a12 :: a13 :: a14 :: a15 :: r) H Q) (Q (a0 :: a1 :: a2 :: a3 :: a4 :: a5 :: a6 :: a7 :: a8 :: a9 :: a10 :: a11 :: a12 :: a13 :: a14 :: some x :: r) H) := ⟨fun k => x_gn15 k⟩
instance i_gn16 {x : V} {a0 a1 a2 a3 a4 a5 a6 a7 a8 a9 a10 a11 a12 a13 a14 a15 a16 : Option V} {r : L2.St} {H : Hp} {Q : L2.St → Hp → Prop} : Stp (gName 16 x (a0 :: a1 :: a2 :: a3 :: a4 :: a5 :: a6 :: a7 :: a8 :: a9 :: a10 :: a11 :: a12 :: a13 :: a14 :: a15 :: a16 :: r) H Q) (Q (a0 :: a1 :: a2 :: a3 :: a4 :: a5 :: a6 :: a7 :: a8 :: a9 :: a10 :: a11 :: a12 :: a13 :: a14 :: a15 :: some x :: r) H) := ⟨fun k => x_gn16 k⟩
instance i_gn17 {x : V} {a0 a1 a2 a3 a4 a5 a6 a7 a8 a9 a10 a11 a12 a13 a14 a15 a16 a17 : Option V} {r : L2.St} {H : Hp} {Q : L2.St → Hp → Prop} : Stp (gName 17 x (a0 :: a1 :: a2 :: a3 :: a4 :: a5 :: a6 :: a7 :: a8 :: a9 :: a10 :: a11 :: a12 :: a13 :: a14 :: a15 :: a16 :: a17 :: r) H Q) (Q (a0 :: a1 :: a2 :: a3 :: a4 :: a5 :: a6 :: a7 :: a8 :: a9 :: a10 :: a11 :: a12 :: a13 :: a14 :: a15 :: a16 :: some x :: r) H) := ⟨fun k => x_gn17 k⟩
instance i_gn18 {x : V} {a0 a1 a2 a3 a4 a5 a6 a7 a8 a9 a10 a11 a12 a13 a14 a15 a16 a17 a18 : Option V} {r : L2.St} {H : Hp} {Q : L2.St → Hp → Prop} : Stp (gName 18 x (a0 :: a1 :: a2 :: a3 :: a4 :: a5 :: a6 :: a7 :: a8 :: a9 :: a10 :: a11 :: a12 :: a13 :: a14 :: a15 :: a16 :: a17 :: a18 :: r) H Q) (Q (a0 :: a1 :: a2 :: a3 :: a4 :: a5 :: a6 :: a7 :: a8 :: a9 :: a10 :: a11 :: a12 :: a13 :: a14 :: a15 :: a16 :: a17 :: some x :: r) H) := ⟨fun k => x_gn18 k⟩
instance i_gn19 {x : V} {a0 a1 a2 a3 a4 a5 a6 a7 a8 a9 a10 a11 a12 a13 a14 a15 a16 a17 a18 a19 : Option V} {r : L2.St} {H : Hp} {Q : L2.St → Hp → Prop} : Stp (gName 19 x (a0 :: a1 :: a2 :: a3 :: a4 :: a5 :: a6 :: a7 :: a8 :: a9 :: a10 :: a11 :: a12 :: a13 :: a14 :: a15 :: a16 :: a17 :: a18 :: a19 :: r) H Q) (Q (a0 :: a1 :: a2 :: a3 :: a4 :: a5 :: a6 :: a7 :: a8 :: a9 :: a10 :: a11 :: a12 :: a13 :: a14 :: a15 :: a16 :: a17 :: a18 :: some x :: r) H) := ⟨fun k => x_gn19 k⟩
instance i_gn20 {x : V} {a0 a1 a2 a3 a4 a5 a6 a7 a8 a9 a10 a11 a12 a13 a14 a15 a16 a17 a18 a19 a20 : Option V} {r : L2.St} {H : Hp} {Q : L2.St → Hp → Prop} : Stp (gName 20 x (a0 :: a1 :: a2 :: a3 :: a4 :: a5 :: a6 :: a7 :: a8 :: a9 :: a10 :: a11 :: a12 :: a13 :: a14 :: a15 :: a16 :: a17 :: a18 :: a19 :: a20 :: r) H Q) (Q (a0 :: a1 :: a2 :: a3 :: a4 :: a5 :: a6 :: a7 :: a8 :: a9 :: a10 :: a11 :: a12 :: a13 :: a14 :: a15 :: a16 :: a17 :: a18 :: a19 :: some x :: r) H) := ⟨fun k => x_gn20 k⟩
instance i_gn21 {x : V} {a0 a1 a2 a3 a4 a5 a6 a7 a8 a9 a10 a11 a12 a13 a14 a15 a16 a17 a18 a19 a20 a21 : Option V} {r : L2.St} {H : Hp} {Q : L2.St → Hp → Prop} : Stp (gName 21 x (a0 :: a1 :: a2 :: a3 :: a4 :: a5 :: a6 :: a7 :: a8 :: a9 :: a10 :: a11 :: a12 :: a13 :: a14 :: a15 :: a16 :: a17 :: a18 :: a19 :: a20 :: a21 :: r) H Q) (Q (a0 :: a1 :: a2 :: a3 :: a4 :: a5 :: a6 :: a7 :: a8 :: a9 :: a10 :: a11 :: a12 :: a13 :: a14 :: a15 :: a16 :: a17 :: a18 :: a19 :: a20 :: some x :: r) H) := ⟨fun k => x_gn21 k⟩
instance i_gn22 {x : V} {a0 a1 a2 a3 a4 a5 a6 a7 a8 a9 a10 a11 a12 a13 a14 a15 a16 a17 a18 a19 a20 a21 a22 : Option V} {r : L2.St} {H : Hp} {Q : L2.St → Hp → Prop} : Stp (gName 22 x (a0 :: a1 :: a2 :: a3 :: a4 :: a5 :: a6 :: a7 :: a8 :: a9 :: a10 :: a11 :: a12 :: a13 :: a14 :: a15 :: a16 :: a17 :: a18 :: a19 :: a20 :: a21 :: a22 :: r) H Q) (Q (a0 :: a1 :: a2 :: a3 :: a4 :: a5 :: a6 :: a7 :: a8 :: a9 :: a10 :: a11 :: a12 :: a13 :: a14 :: a15 :: a16 :: a17 :: a18 :: a19 :: a20 :: a21 :: some x :: r) H) := ⟨fun k => x_gn22 k⟩
instance i_gn23 {x : V} {a0 a1 a2 a3 a4 a5 a6 a7 a8 a9 a10 a11 a12 a13 a14 a15 a16 a17 a18 a19 a20 a21 a22 a23 : Option V} {r : L2.St} {H : Hp} {Q : L2.St → Hp → Prop} : Stp (gName 23 x (a0 :: a1 :: a2 :: a3 :: a4 :: a5 :: a6 :: a7 :: a8 :: a9 :: a10 :: a11 :: a12 :: a13 :: a14 :: a15 :: a16 :: a17 :: a18 :: a19 :: a20 :: a21 :: a22 :: a23 :: r) H Q) (Q (a0 :: a1 :: a2 :: a3 :: a4 :: a5 :: a6 :: a7 :: a8 :: a9 :: a10 :: a11 :: a12 :: a13 :: a14 :: a15 :: a16 :: a17 :: a18 :: a19 :: a20 :: a21 :: a22 :: some x :: r) H) := ⟨fun k => x_gn23 k⟩
instance i_gn24 {x : V} {a0 a1 a2 a3 a4 a5 a6 a7 a8 a9 a10 a11 a12 a13 a14 a15 a16 a17 a18 a19 a20 a21 a22 a23 a24 : Option V} {r : L2.St} {H : Hp} {Q : L2.St → Hp → Prop} : Stp (gName 24 x (a0 :: a1 :: a2 :: a3 :: a4 :: a5 :: a6 :: a7 :: a8 :: a9 :: a10 :: a11 :: a12 :: a13 :: a14 :: a15 :: a16 :: a17 :: a18 :: a19 :: a20 :: a21 :: a22 :: a23 :: a24 :: r) H Q) (Q (a0 :: a1 :: a2 :: a3 :: a4 :: a5 :: a6 :: a7 :: a8 :: a9 :: a10 :: a11 :: a12 :: a13 :: a14 :: a15 :: a16 :: a17 :: a18 :: a19 :: a20 :: a21 :: a22 :: a23 :: some x :: r) H) := ⟨fun k => x_gn24 k⟩
instance i_gn25 {x : V} {a0 a1 a2 a3 a4 a5 a6 a7 a8 a9 a10 a11 a12 a13 a14 a15 a16 a17 a18 a19 a20 a21 a22 a23 a24 a25 : Option V} {r : L2.St} {H : Hp} {Q : L2.St → Hp → Prop} : Stp (gName 25 x (a0 :: a1 :: a2 :: a3 :: a4 :: a5 :: a6 :: a7 :: a8 :: a9 :: a10 :: a11 :: a12 :: a13 :: a14 :: a15 :: a16 :: a17 :: a18 :: a19 :: a20 :: a21 :: a22 :: a23 :: a24 :: a25 :: r) H Q) (Q (a0 :: a1 :: a2 :: a3 :: a4 :: a5 :: a6 :: a7 :: a8 :: a9 :: a10 :: a11 :: a12 :: a13 :: a14 :: a15 :: a16 :: a17 :: a18 :: a19 :: a20 :: a21 :: a22 :: a23 :: a24 :: some x :: r) H) := ⟨fun k => x_gn25 k⟩
instance i_tYes {σ : L2.St} {H : Hp} {Q : Bool → Hp → Prop} : Stp (tYes σ H Q) (Q true H) := ⟨fun k => x_tYes k⟩
end
section
variable {σ : St} {H : Hp} {Q : VK} {K : PySem.W.Frag} {a D d : Addr} {fs : List (Str × V)} {te : TE}
instance i_callS {sp : Sp} {W : WX} {tr : TA} : Stp (tCallS sp (WE W) tr σ H Q) (tr σ H fun vs H1 => sp vs H1 Q (WE W σ)) := ⟨fun k => x_callS k⟩
instance i_xf {cls : Value} {dd : Option Addr} {C : Addr} {f : Str} : Stp (tXf a cls dd C f te σ H Q) (te σ H fun x H1 => isXf a cls dd C f x H1 Q) := ⟨fun k => x_xf k⟩
end
section
variable {H : Hp} {Q : VK} {p : Addr} {i : Int} {z : Str}
instance i_isN0  : Stp (rIsN .non .non H Q) (Q (.bl true) H) := ⟨fun k => x_isN0 k⟩
instance i_isNr  : Stp (rIsN (.ref p) .non H Q) (Q (.bl false) H) := ⟨fun k => x_isNr k⟩
instance i_isNi  : Stp (rIsN (.int i) .non H Q) (Q (.bl false) H) := ⟨fun k => x_isNi k⟩
instance i_isNs  : Stp (rIsN (.str z) .non H Q) (Q (.bl false) H) := ⟨fun k => x_isNs k⟩
instance i_notN0  : Stp (rNotN .non .non H Q) (Q (.bl false) H) := ⟨fun k => x_notN0 k⟩
instance i_notNr  : Stp (rNotN (.ref p) .non H Q) (Q (.bl true) H) := ⟨fun k => x_notNr k⟩
instance i_notNi  : Stp (rNotN (.int i) .non H Q) (Q (.bl true) H) := ⟨fun k => x_notNi k⟩
instance i_notNs  : Stp (rNotN (.str z) .non H Q) (Q (.bl true) H) := ⟨fun k => x_notNs k⟩
end
section
variable {σ : St} {H : Hp} {Q : VK} {to ti ta tv : TE} {tr : TA} {K : PySem.W.Frag} {p a C dx : Addr} {f m : Str} {v x y : V} {nx bk ct : St → Hp → Prop} {rt : VK} {fs : List (Str × V)}
instance i_gsub {t : TSet} {P : St → Hp → Prop} : Stp (gSub to ti t v σ H P) (to σ H fun o H1 => ti σ H1 fun i H2 => t o i v H2 fun H3 => P σ H3) := ⟨fun k => x_gsub k⟩
instance i_fld  : Stp (tFld K ta f σ H Q) (ta σ H fun x H1 => isFld K f x H1 Q) := ⟨fun k => x_fld k⟩
instance i_sfld  : Stp (sFld K ta tv f ⟨nx, rt, bk, ct⟩ σ H) (tv σ H fun y H1 => ta σ H1 fun x H2 => isSF K f y x H2 (nx σ)) := ⟨fun k => x_sfld k⟩
instance i_meth {sp : Sp} {E : XK} : Stp (tMeth C m sp [] E ta tr σ H Q) (ta σ H fun x H1 => isMeth C m x H1 (tr σ H1 fun vs H2 => sp (x :: vs) H2 Q E)) := ⟨fun k => x_meth k⟩
instance i_methS {sp : Sp} {W : WX} : Stp (tMethS C m sp (WE W) ta tr σ H Q) (ta σ H fun x H1 => isMeth C m x H1 (tr σ H1 fun vs H2 => sp (x :: vs) H2 Q (WE W σ))) := ⟨fun k => x_methS k⟩
instance i_make {sp : Sp} {E : XK} : Stp (tMake C sp [] E tr σ H Q) (tr σ H fun vs H1 => isNew C sp E vs H1 Q) := ⟨fun k => x_make k⟩
instance i_dget {td ty : TE} : Stp (tDGet td ty σ H Q) (td σ H fun x H1 => ty σ H1 fun y H2 => isDG x y H2 Q) := ⟨fun k => x_dget k⟩
instance i_dput {td ty : TE} : Stp (sDPut td ty tv ⟨nx, rt, bk, ct⟩ σ H) (tv σ H fun v H1 => td σ H1 fun x H2 => ty σ H2 fun y H3 => isDP v x y H3 (nx σ)) := ⟨fun k => x_dput k⟩
instance i_fldaug {rd : V → V → Hp → VK → Prop} : Stp (sFldAug K ta tv rd f ⟨nx, rt, bk, ct⟩ σ H) (ta σ H fun x H1 => isFA K tv rd f x σ H1 (nx σ)) := ⟨fun k => x_fldaug k⟩
end
section
variable {σ : L2.St} {H : Hp} {v : V} {xs : List V} {g : TG} {u : TGs} {P : L2.St → Hp → Prop}
instance i_gnil  : Stp (gNil [] σ H P) (P σ H) := ⟨fun k => x_gnil k⟩
instance i_gcons  : Stp (gCons g u (v :: xs) σ H P) (g v σ H fun σ' H' => u xs σ' H' P) := ⟨fun k => x_gcons k⟩
end
section
variable {σ : L2.St} {H : Hp} {Q : VK} {K : PySem.W.Frag} {p : Addr} {ys : List V} {c : TT} {tb : TS} {nx bk ct : L2.St → Hp → Prop} {rt : VK}
instance i_turn {Pv : Nat → L2.St → Hp → Prop} {m : Nat} : Stp (TurnW Pv m tb rt nx σ H) (tb ⟨fun σ2 H2 => ∃ m', m' < m ∧ Pv m' σ2 H2, rt, nx, fun σ2 H2 => ∃ m', m' < m ∧ Pv m' σ2 H2⟩ σ H) := ⟨fun k => x_turn k⟩
end
section
variable {σ : L2.St} {H : Hp} {D : Ends} {nx bk ct : L2.St → Hp → Prop} {rt : VK} {tb : TS} {g : TG} {K : PySem.W.Frag} {tl te : TE} {ta : TA} {tt : TT} {vs : List Nat} {Q : VK}
instance i_forRI  : Stp (tFor (iRng1 ta) g tb D σ H) (ta σ H fun xs H1 => isForR g tb D σ xs H1) := ⟨fun k => x_forRI k⟩
instance i_forLI  : Stp (tFor (iList K tl) g tb D σ H) (tl σ H fun x H1 => isForL K g tb D σ x H1) := ⟨fun k => x_forLI k⟩
instance i_forTI  : Stp (tFor (iTup K tl) g tb D σ H) (tl σ H fun x H1 => isForT K g tb D σ x H1) := ⟨fun k => x_forTI k⟩
instance i_lcRI  : Stp (tLc (iRng1 ta) g tt te vs σ H Q) (ta σ H fun xs H1 => isLcR g tt te vs σ Q xs H1) := ⟨fun k => x_lcRI k⟩
instance i_lcLI  : Stp (tLc (iList K tl) g tt te vs σ H Q) (tl σ H fun x H1 => isLcL K g tt te vs σ Q x H1) := ⟨fun k => x_lcLI k⟩
instance i_lcTI  : Stp (tLc (iTup K tl) g tt te vs σ H Q) (tl σ H fun x H1 => isLcT K g tt te vs σ Q x H1) := ⟨fun k => x_lcTI k⟩
end
section
variable {σ : L2.St} {H : Hp} {Q : VK} {tl te tk tv : TE} {g : TG} {vs : List Nat} {K : PySem.W.Frag}
instance i_lcI  : Stp (tLc (iList K tl) g tYes te vs σ H Q) (tl σ H fun x H1 => isLc K g te vs σ x H1 Q) := ⟨fun k => x_lcI k⟩
instance i_isOI {i : Int} {Q : Option Int → Hp → Prop} : Stp (isOI (.int i) H Q) (Q (some i) H) := ⟨fun k => x_isOI k⟩
instance i_part {Q : Option Int → Hp → Prop} : Stp (tPart te σ H Q) (te σ H fun x H1 => isOI x H1 Q) := ⟨fun k => x_part k⟩
instance i_noPart {Q : Option Int → Hp → Prop} : Stp (tNoPart σ H Q) (Q none H) := ⟨fun k => x_noPart k⟩
instance i_sl {r : V → Option Int → Option Int → Hp → VK → Prop} {lo hi : TO} : Stp (tSl r te lo hi σ H Q) (te σ H fun x H1 => lo σ H1 fun l H2 => hi σ H2 fun u H3 => r x l u H3 Q) := ⟨fun k => x_sl k⟩
instance i_pnil {Q : List (V × V) → Hp → Prop} : Stp (tPairs [] σ H Q) (Q [] H) := ⟨fun k => x_pnil k⟩
instance i_pcons {r : List (TE × TE)} {Q : List (V × V) → Hp → Prop} : Stp (tPairs ((tk, tv) :: r) σ H Q) (tk σ H fun x H1 => tv σ H1 fun y H2 => tPairs r σ H2 fun ps H3 => Q ((x, y) :: ps) H3) := ⟨fun k => x_pcons k⟩
instance i_disp {trs : List (TE × TE)} : Stp (tDisp trs σ H Q) (∀ p H1, H p = none → Same H H1 → H1 p = some (.dK []) → tPairs trs σ H1 fun ps H2 => isDisp p ps H2 Q) := ⟨fun k => x_disp k⟩
end
section
variable {H : Hp} {Q : VK} {v : V}
instance i_var0 {r : L2.St} : Stp (tVar 0 (some v :: r) H Q) (Q v H) := ⟨fun k => x_var rfl k⟩
instance i_var1 {a0 : Option V} {r : L2.St} : Stp (tVar 1 (a0 :: some v :: r) H Q) (Q v H) := ⟨fun k => x_var rfl k⟩
instance i_var2 {a0 a1 : Option V} {r : L2.St} : Stp (tVar 2 (a0 :: a1 :: some v :: r) H Q) (Q v H) := ⟨fun k => x_var rfl k⟩
instance i_var3 {a0 a1 a2 : Option V} {r : L2.St} : Stp (tVar 3 (a0 :: a1 :: a2 :: some v :: r) H Q) (Q v H) := ⟨fun k => x_var rfl k⟩
instance i_var4 {a0 a1 a2 a3 : Option V} {r : L2.St} : Stp (tVar 4 (a0 :: a1 :: a2 :: a3 :: some v :: r) H Q) (Q v H) := ⟨fun k => x_var rfl k⟩
instance i_var5 {a0 a1 a2 a3 a4 : Option V} {r : L2.St} : Stp (tVar 5 (a0 :: a1 :: a2 :: a3 :: a4 :: some v :: r) H Q) (Q v H) := ⟨fun k => x_var rfl k⟩
instance i_var6 {a0 a1 a2 a3 a4 a5 : Option V} {r : L2.St} : Stp (tVar 6 (a0 :: a1 :: a2 :: a3 :: a4 :: a5 :: some v :: r) H Q) (Q v H) := ⟨fun k => x_var rfl k⟩
instance i_var7 {a0 a1 a2 a3 a4 a5 a6 : Option V} {r : L2.St} : Stp (tVar 7 (a0 :: a1 :: a2 :: a3 :: a4 :: a5 :: a6 :: some v :: r) H Q) (Q v H) := ⟨fun k => x_var rfl k⟩
instance i_var8 {a0 a1 a2 a3 a4 a5 a6 a7 : Option V} {r : L2.St} : Stp (tVar 8 (a0 :: a1 :: a2 :: a3 :: a4 :: a5 :: a6 :: a7 :: some v :: r) H Q) (Q v H) := ⟨fun k => x_var rfl k⟩
instance i_var9 {a0 a1 a2 a3 a4 a5 a6 a7 a8 : Option V} {r : L2.St} : Stp (tVar 9 (a0 :: a1 :: a2 :: a3 :: a4 :: a5 :: a6 :: a7 :: a8 :: some v :: r) H Q) (Q v H) := ⟨fun k => x_var rfl k⟩
instance i_var10 {a0 a1 a2 a3 a4 a5 a6 a7 a8 a9 : Option V} {r : L2.St} : Stp (tVar 10 (a0 :: a1 :: a2 :: a3 :: a4 :: a5 :: a6 :: a7 :: a8 :: a9 :: some v :: r) H Q) (Q v H) := ⟨fun k => x_var rfl k⟩
instance i_var11 {a0 a1 a2 a3 a4 a5 a6 a7 a8 a9 a10 : Option V} {r : L2.St} : Stp (tVar 11 (a0 :: a1 :: a2 :: a3 :: a4 :: a5 :: a6 :: a7 :: a8 :: a9 :: a10 :: some v :: r) H Q) (Q v H) := ⟨fun k => x_var rfl k⟩
instance i_var12 {a0 a1 a2 a3 a4 a5 a6 a7 a8 a9 a10 a11 : Option V} {r : L2.St} : Stp (tVar 12 (a0 :: a1 :: a2 :: a3 :: a4 :: a5 :: a6 :: a7 :: a8 :: a9 :: a10 :: a11 :: some v :: r) H Q) (Q v H) := ⟨fun k => x_var rfl k⟩
instance i_var13 {a0 a1 a2 a3 a4 a5 a6 a7 a8 a9 a10 a11 a12 : Option V} {r : L2.St} : Stp (tVar 13 (a0 :: a1 :: a2 :: a3 :: a4 :: a5 :: a6 :: a7 :: a8 :: a9 :: a10 :: a11 :: a12 :: some v :: r) H Q) (Q v H) := ⟨fun k => x_var rfl k⟩
instance i_var14 {a0 a1 a2 a3 a4 a5 a6 a7 a8 a9 a10 a11 a12 a13 : Option V} {r : L2.St} : Stp (tVar 14 (a0 :: a1 :: a2 :: a3 :: a4 :: a5 :: a6 :: a7 :: a8 :: a9 :: a10 :: a11 :: a12 :: a13 :: some v :: r) H Q) (Q v H) := ⟨fun k => x_var rfl k⟩
instance i_var15 {a0 a1 a2 a3 a4 a5 a6 a7 a8 a9 a10 a11 a12 a13 a14 : Option V} {r : L2.St} : Stp (tVar 15 (a0 :: a1 :: a2 :: a3 :: a4 :: a5 :: a6 :: a7 :: a8 :: a9 :: a10 :: a11 :: a12 :: a13 :: a14 :: some v :: r) H Q) (Q v H) := ⟨fun k => x_var rfl k⟩
instance i_var16 {a0 a1 a2 a3 a4 a5 a6 a7 a8 a9 a10 a11 a12 a13 a14 a15 : Option V} {r : L2.St} : Stp (tVar 16 (a0 :: a1 :: a2 :: a3 :: a4 :: a5 :: a6 :: a7 :: a8 :: a9 :: a10 :: a11 :: a12 :: a13 :: a14 :: a15 :: some v :: r) H Q) (Q v H) := ⟨fun k => x_var rfl k⟩
instance i_var17 {a0 a1 a2 a3 a4 a5 a6 a7 a8 a9 a10 a11 a12 a13 a14 a15 a16 : Option V} {r : L2.St} : Stp (tVar 17 (a0 :: a1 :: a2 :: a3 :: a4 :: a5 :: a6 :: a7 :: a8 :: a9 :: a10 :: a11 :: a12 :: a13 :: a14 :: a15 :: a16 :: some v :: r) H Q) (Q v H) := ⟨fun k => x_var rfl k⟩
instance i_var18 {a0 a1 a2 a3 a4 a5 a6 a7 a8 a9 a10 a11 a12 a13 a14 a15 a16 a17 : Option V} {r : L2.St} : Stp (tVar 18 (a0 :: a1 :: a2 :: a3 :: a4 :: a5 :: a6 :: a7 :: a8 :: a9 :: a10 :: a11 :: a12 :: a13 :: a14 :: a15 :: a16 :: a17 :: some v :: r) H Q) (Q v H) := ⟨fun k => x_var rfl k⟩
instance i_var19 {a0 a1 a2 a3 a4 a5 a6 a7 a8 a9 a10 a11 a12 a13 a14 a15 a16 a17 a18 : Option V} {r : L2.St} : Stp (tVar 19 (a0 :: a1 :: a2 :: a3 :: a4 :: a5 :: a6 :: a7 :: a8 :: a9 :: a10 :: a11 :: a12 :: a13 :: a14 :: a15 :: a16 :: a17 :: a18 :: some v :: r) H Q) (Q v H) := ⟨fun k => x_var rfl k⟩
instance i_var20 {a0 a1 a2 a3 a4 a5 a6 a7 a8 a9 a10 a11 a12 a13 a14 a15 a16 a17 a18 a19 : Option V} {r : L2.St} : Stp (tVar 20 (a0 :: a1 :: a2 :: a3 :: a4 :: a5 :: a6 :: a7 :: a8 :: a9 :: a10 :: a11 :: a12 :: a13 :: a14 :: a15 :: a16 :: a17 :: a18 :: a19 :: some v :: r) H Q) (Q v H) := ⟨fun k => x_var rfl k⟩
instance i_var21 {a0 a1 a2 a3 a4 a5 a6 a7 a8 a9 a10 a11 a12 a13 a14 a15 a16 a17 a18 a19 a20 : Option V} {r : L2.St} : Stp (tVar 21 (a0 :: a1 :: a2 :: a3 :: a4 :: a5 :: a6 :: a7 :: a8 :: a9 :: a10 :: a11 :: a12 :: a13 :: a14 :: a15 :: a16 :: a17 :: a18 :: a19 :: a20 :: some v :: r) H Q) (Q v H) := ⟨fun k => x_var rfl k⟩
instance i_var22 {a0 a1 a2 a3 a4 a5 a6 a7 a8 a9 a10 a11 a12 a13 a14 a15 a16 a17 a18 a19 a20 a21 : Option V} {r : L2.St} : Stp (tVar 22 (a0 :: a1 :: a2 :: a3 :: a4 :: a5 :: a6 :: a7 :: a8 :: a9 :: a10 :: a11 :: a12 :: a13 :: a14 :: a15 :: a16 :: a17 :: a18 :: a19 :: a20 :: a21 :: some v :: r) H Q) (Q v H) := ⟨fun k => x_var rfl k⟩
instance i_var23 {a0 a1 a2 a3 a4 a5 a6 a7 a8 a9 a10 a11 a12 a13 a14 a15 a16 a17 a18 a19 a20 a21 a22 : Option V} {r : L2.St} : Stp (tVar 23 (a0 :: a1 :: a2 :: a3 :: a4 :: a5 :: a6 :: a7 :: a8 :: a9 :: a10 :: a11 :: a12 :: a13 :: a14 :: a15 :: a16 :: a17 :: a18 :: a19 :: a20 :: a21 :: a22 :: some v :: r) H Q) (Q v H) := ⟨fun k => x_var rfl k⟩
instance i_var24 {a0 a1 a2 a3 a4 a5 a6 a7 a8 a9 a10 a11 a12 a13 a14 a15 a16 a17 a18 a19 a20 a21 a22 a23 : Option V} {r : L2.St} : Stp (tVar 24 (a0 :: a1 :: a2 :: a3 :: a4 :: a5 :: a6 :: a7 :: a8 :: a9 :: a10 :: a11 :: a12 :: a13 :: a14 :: a15 :: a16 :: a17 :: a18 :: a19 :: a20 :: a21 :: a22 :: a23 :: some v :: r) H Q) (Q v H) := ⟨fun k => x_var rfl k⟩
instance i_var25 {a0 a1 a2 a3 a4 a5 a6 a7 a8 a9 a10 a11 a12 a13 a14 a15 a16 a17 a18 a19 a20 a21 a22 a23 a24 : Option V} {r : L2.St} : Stp (tVar 25 (a0 :: a1 :: a2 :: a3 :: a4 :: a5 :: a6 :: a7 :: a8 :: a9 :: a10 :: a11 :: a12 :: a13 :: a14 :: a15 :: a16 :: a17 :: a18 :: a19 :: a20 :: a21 :: a22 :: a23 :: a24 :: some v :: r) H Q) (Q v H) := ⟨fun k => x_var rfl k⟩
instance i_var26 {a0 a1 a2 a3 a4 a5 a6 a7 a8 a9 a10 a11 a12 a13 a14 a15 a16 a17 a18 a19 a20 a21 a22 a23 a24 a25 : Option V} {r : L2.St} : Stp (tVar 26 (a0 :: a1 :: a2 :: a3 :: a4 :: a5 :: a6 :: a7 :: a8 :: a9 :: a10 :: a11 :: a12 :: a13 :: a14 :: a15 :: a16 :: a17 :: a18 :: a19 :: a20 :: a21 :: a22 :: a23 :: a24 :: a25 :: some v :: r) H Q) (Q v H) := ⟨fun k => x_var rfl k⟩
instance i_var27 {a0 a1 a2 a3 a4 a5 a6 a7 a8 a9 a10 a11 a12 a13 a14 a15 a16 a17 a18 a19 a20 a21 a22 a23 a24 a25 a26 : Option V} {r : L2.St} : Stp (tVar 27 (a0 :: a1 :: a2 :: a3 :: a4 :: a5 :: a6 :: a7 :: a8 :: a9 :: a10 :: a11 :: a12 :: a13 :: a14 :: a15 :: a16 :: a17 :: a18 :: a19 :: a20 :: a21 :: a22 :: a23 :: a24 :: a25 :: a26 :: some v :: r) H Q) (Q v H) := ⟨fun k => x_var rfl k⟩
instance i_var28 {a0 a1 a2 a3 a4 a5 a6 a7 a8 a9 a10 a11 a12 a13 a14 a15 a16 a17 a18 a19 a20 a21 a22 a23 a24 a25 a26 a27 : Option V} {r : L2.St} : Stp (tVar 28 (a0 :: a1 :: a2 :: a3 :: a4 :: a5 :: a6 :: a7 :: a8 :: a9 :: a10 :: a11 :: a12 :: a13 :: a14 :: a15 :: a16 :: a17 :: a18 :: a19 :: a20 :: a21 :: a22 :: a23 :: a24 :: a25 :: a26 :: a27 :: some v :: r) H Q) (Q v H) := ⟨fun k => x_var rfl k⟩
instance i_var29 {a0 a1 a2 a3 a4 a5 a6 a7 a8 a9 a10 a11 a12 a13 a14 a15 a16 a17 a18 a19 a20 a21 a22 a23 a24 a25 a26 a27 a28 : Option V} {r : L2.St} : Stp (tVar 29 (a0 :: a1 :: a2 :: a3 :: a4 :: a5 :: a6 :: a7 :: a8 :: a9 :: a10 :: a11 :: a12 :: a13 :: a14 :: a15 :: a16 :: a17 :: a18 :: a19 :: a20 :: a21 :: a22 :: a23 :: a24 :: a25 :: a26 :: a27 :: a28 :: some v :: r) H Q) (Q v H) := ⟨fun k => x_var rfl k⟩
instance i_var30 {a0 a1 a2 a3 a4 a5 a6 a7 a8 a9 a10 a11 a12 a13 a14 a15 a16 a17 a18 a19 a20 a21 a22 a23 a24 a25 a26 a27 a28 a29 : Option V} {r : L2.St} : Stp (tVar 30 (a0 :: a1 :: a2 :: a3 :: a4 :: a5 :: a6 :: a7 :: a8 :: a9 :: a10 :: a11 :: a12 :: a13 :: a14 :: a15 :: a16 :: a17 :: a18 :: a19 :: a20 :: a21 :: a22 :: a23 :: a24 :: a25 :: a26 :: a27 :: a28 :: a29 :: some v :: r) H Q) (Q v H) := ⟨fun k => x_var rfl k⟩
instance i_var31 {a0 a1 a2 a3 a4 a5 a6 a7 a8 a9 a10 a11 a12 a13 a14 a15 a16 a17 a18 a19 a20 a21 a22 a23 a24 a25 a26 a27 a28 a29 a30 : Option V} {r : L2.St} : Stp (tVar 31 (a0 :: a1 :: a2 :: a3 :: a4 :: a5 :: a6 :: a7 :: a8 :: a9 :: a10 :: a11 :: a12 :: a13 :: a14 :: a15 :: a16 :: a17 :: a18 :: a19 :: a20 :: a21 :: a22 :: a23 :: a24 :: a25 :: a26 :: a27 :: a28 :: a29 :: a30 :: some v :: r) H Q) (Q v H) := ⟨fun k => x_var rfl k⟩
instance i_var32 {a0 a1 a2 a3 a4 a5 a6 a7 a8 a9 a10 a11 a12 a13 a14 a15 a16 a17 a18 a19 a20 a21 a22 a23 a24 a25 a26 a27 a28 a29 a30 a31 : Option V} {r : L2.St} : Stp (tVar 32 (a0 :: a1 :: a2 :: a3 :: a4 :: a5 :: a6 :: a7 :: a8 :: a9 :: a10 :: a11 :: a12 :: a13 :: a14 :: a15 :: a16 :: a17 :: a18 :: a19 :: a20 :: a21 :: a22 :: a23 :: a24 :: a25 :: a26 :: a27 :: a28 :: a29 :: a30 :: a31 :: some v :: r) H Q) (Q v H) := ⟨fun k => x_var rfl k⟩
instance i_var33 {a0 a1 a2 a3 a4 a5 a6 a7 a8 a9 a10 a11 a12 a13 a14 a15 a16 a17 a18 a19 a20 a21 a22 a23 a24 a25 a26 a27 a28 a29 a30 a31 a32 : Option V} {r : L2.St} : Stp (tVar 33 (a0 :: a1 :: a2 :: a3 :: a4 :: a5 :: a6 :: a7 :: a8 :: a9 :: a10 :: a11 :: a12 :: a13 :: a14 :: a15 :: a16 :: a17 :: a18 :: a19 :: a20 :: a21 :: a22 :: a23 :: a24 :: a25 :: a26 :: a27 :: a28 :: a29 :: a30 :: a31 :: a32 :: some v :: r) H Q) (Q v H) := ⟨fun k => x_var rfl k⟩
instance i_var34 {a0 a1 a2 a3 a4 a5 a6 a7 a8 a9 a10 a11 a12 a13 a14 a15 a16 a17 a18 a19 a20 a21 a22 a23 a24 a25 a26 a27 a28 a29 a30 a31 a32 a33 : Option V} {r : L2.St} : Stp (tVar 34 (a0 :: a1 :: a2 :: a3 :: a4 :: a5 :: a6 :: a7 :: a8 :: a9 :: a10 :: a11 :: a12 :: a13 :: a14 :: a15 :: a16 :: a17 :: a18 :: a19 :: a20 :: a21 :: a22 :: a23 :: a24 :: a25 :: a26 :: a27 :: a28 :: a29 :: a30 :: a31 :: a32 :: a33 :: some v :: r) H Q) (Q v H) := ⟨fun k => x_var rfl k⟩
instance i_var35 {a0 a1 a2 a3 a4 a5 a6 a7 a8 a9 a10 a11 a12 a13 a14 a15 a16 a17 a18 a19 a20 a21 a22 a23 a24 a25 a26 a27 a28 a29 a30 a31 a32 a33 a34 : Option V} {r : L2.St} : Stp (tVar 35 (a0 :: a1 :: a2 :: a3 :: a4 :: a5 :: a6 :: a7 :: a8 :: a9 :: a10 :: a11 :: a12 :: a13 :: a14 :: a15 :: a16 :: a17 :: a18 :: a19 :: a20 :: a21 :: a22 :: a23 :: a24 :: a25 :: a26 :: a27 :: a28 :: a29 :: a30 :: a31 :: a32 :: a33 :: a34 :: some v :: r) H Q) (Q v H) := ⟨fun k => x_var rfl k⟩
instance i_var36 {a0 a1 a2 a3 a4 a5 a6 a7 a8 a9 a10 a11 a12 a13 a14 a15 a16 a17 a18 a19 a20 a21 a22 a23 a24 a25 a26 a27 a28 a29 a30 a31 a32 a33 a34 a35 : Option V} {r : L2.St} : Stp (tVar 36 (a0 :: a1 :: a2 :: a3 :: a4 :: a5 :: a6 :: a7 :: a8 :: a9 :: a10 :: a11 :: a12 :: a13 :: a14 :: a15 :: a16 :: a17 :: a18 :: a19 :: a20 :: a21 :: a22 :: a23 :: a24 :: a25 :: a26 :: a27 :: a28 :: a29 :: a30 :: a31 :: a32 :: a33 :: a34 :: a35 :: some v :: r) H Q) (Q v H) := ⟨fun k => x_var rfl k⟩
instance i_var37 {a0 a1 a2 a3 a4 a5 a6 a7 a8 a9 a10 a11 a12 a13 a14 a15 a16 a17 a18 a19 a20 a21 a22 a23 a24 a25 a26 a27 a28 a29 a30 a31 a32 a33 a34 a35 a36 : Option V} {r : L2.St} : Stp (tVar 37 (a0 :: a1 :: a2 :: a3 :: a4 :: a5 :: a6 :: a7 :: a8 :: a9 :: a10 :: a11 :: a12 :: a13 :: a14 :: a15 :: a16 :: a17 :: a18 :: a19 :: a20 :: a21 :: a22 :: a23 :: a24 :: a25 :: a26 :: a27 :: a28 :: a29 :: a30 :: a31 :: a32 :: a33 :: a34 :: a35 :: a36 :: some v :: r) H Q) (Q v H) := ⟨fun k => x_var rfl k⟩
instance i_var38 {a0 a1 a2 a3 a4 a5 a6 a7 a8 a9 a10 a11 a12 a13 a14 a15 a16 a17 a18 a19 a20 a21 a22 a23 a24 a25 a26 a27 a28 a29 a30 a31 a32 a33 a34 a35 a36 a37 : Option V} {r : L2.St} : Stp (tVar 38 (a0 :: a1 :: a2 :: a3 :: a4 :: a5 :: a6 :: a7 :: a8 :: a9 :: a10 :: a11 :: a12 :: a13 :: a14 :: a15 :: a16 :: a17 :: a18 :: a19 :: a20 :: a21 :: a22 :: a23 :: a24 :: a25 :: a26 :: a27 :: a28 :: a29 :: a30 :: a31 :: a32 :: a33 :: a34 :: a35 :: a36 :: a37 :: some v :: r) H Q) (Q v H) := ⟨fun k => x_var rfl k⟩
instance i_var39 {a0 a1 a2 a3 a4 a5 a6 a7 a8 a9 a10 a11 a12 a13 a14 a15 a16 a17 a18 a19 a20 a21 a22 a23 a24 a25 a26 a27 a28 a29 a30 a31 a32 a33 a34 a35 a36 a37 a38 : Option V} {r : L2.St} : Stp (tVar 39 (a0 :: a1 :: a2 :: a3 :: a4 :: a5 :: a6 :: a7 :: a8 :: a9 :: a10 :: a11 :: a12 :: a13 :: a14 :: a15 :: a16 :: a17 :: a18 :: a19 :: a20 :: a21 :: a22 :: a23 :: a24 :: a25 :: a26 :: a27 :: a28 :: a29 :: a30 :: a31 :: a32 :: a33 :: a34 :: a35 :: a36 :: a37 :: a38 :: some v :: r) H Q) (Q v H) := ⟨fun k => x_var rfl k⟩
instance i_var40 {a0 a1 a2 a3 a4 a5 a6 a7 a8 a9 a10 a11 a12 a13 a14 a15 a16 a17 a18 a19 a20 a21 a22 a23 a24 a25 a26 a27 a28 a29 a30 a31 a32 a33 a34 a35 a36 a37 a38 a39 : Option V} {r : L2.St} : Stp (tVar 40 (a0 :: a1 :: a2 :: a3 :: a4 :: a5 :: a6 :: a7 :: a8 :: a9 :: a10 :: a11 :: a12 :: a13 :: a14 :: a15 :: a16 :: a17 :: a18 :: a19 :: a20 :: a21 :: a22 :: a23 :: a24 :: a25 :: a26 :: a27 :: a28 :: a29 :: a30 :: a31 :: a32 :: a33 :: a34 :: a35 :: a36 :: a37 :: a38 :: a39 :: some v :: r) H Q) (Q v H) := ⟨fun k => x_var rfl k⟩
instance i_var41 {a0 a1 a2 a3 a4 a5 a6 a7 a8 a9 a10 a11 a12 a13 a14 a15 a16 a17 a18 a19 a20 a21 a22 a23 a24 a25 a26 a27 a28 a29 a30 a31 a32 a33 a34 a35 a36 a37 a38 a39 a40 : Option V} {r : L2.St} : Stp (tVar 41 (a0 :: a1 :: a2 :: a3 :: a4 :: a5 :: a6 :: a7 :: a8 :: a9 :: a10 :: a11 :: a12 :: a13 :: a14 :: a15 :: a16 :: a17 :: a18 :: a19 :: a20 :: a21 :: a22 :: a23 :: a24 :: a25 :: a26 :: a27 :: a28 :: a29 :: a30 :: a31 :: a32 :: a33 :: a34 :: a35 :: a36 :: a37 :: a38 :: a39 :: a40 :: some v :: r) H Q) (Q v H) := ⟨fun k => x_var rfl k⟩
instance i_var42 {a0 a1 a2 a3 a4 a5 a6 a7 a8 a9 a10 a11 a12 a13 a14 a15 a16 a17 a18 a19 a20 a21 a22 a23 a24 a25 a26 a27 a28 a29 a30 a31 a32 a33 a34 a35 a36 a37 a38 a39 a40 a41 : Option V} {r : L2.St} : Stp (tVar 42 (a0 :: a1 :: a2 :: a3 :: a4 :: a5 :: a6 :: a7 :: a8 :: a9 :: a10 :: a11 :: a12 :: a13 :: a14 :: a15 :: a16 :: a17 :: a18 :: a19 :: a20 :: a21 :: a22 :: a23 :: a24 :: a25 :: a26 :: a27 :: a28 :: a29 :: a30 :: a31 :: a32 :: a33 :: a34 :: a35 :: a36 :: a37 :: a38 :: a39 :: a40 :: a41 :: some v :: r) H Q) (Q v H) := ⟨fun k => x_var rfl k⟩
instance i_var43 {a0 a1 a2 a3 a4 a5 a6 a7 a8 a9 a10 a11 a12 a13 a14 a15 a16 a17 a18 a19 a20 a21 a22 a23 a24 a25 a26 a27 a28 a29 a30 a31 a32 a33 a34 a35 a36 a37 a38 a39 a40 a41 a42 : Option V} {r : L2.St} : Stp (tVar 43 (a0 :: a1 :: a2 :: a3 :: a4 :: a5 :: a6 :: a7 :: a8 :: a9 :: a10 :: a11 :: a12 :: a13 :: a14 :: a15 :: a16 :: a17 :: a18 :: a19 :: a20 :: a21 :: a22 :: a23 :: a24 :: a25 :: a26 :: a27 :: a28 :: a29 :: a30 :: a31 :: a32 :: a33 :: a34 :: a35 :: a36 :: a37 :: a38 :: a39 :: a40 :: a41 :: a42 :: some v :: r) H Q) (Q v H) := ⟨fun k => x_var rfl k⟩
instance i_gn26 {x : V} {a0 a1 a2 a3 a4 a5 a6 a7 a8 a9 a10 a11 a12 a13 a14 a15 a16 a17 a18 a19 a20 a21 a22 a23 a24 a25 a26 : Option V} {r : L2.St} {H : Hp} {Q : L2.St → Hp → Prop} : Stp (gName 26 x (a0 :: a1 :: a2 :: a3 :: a4 :: a5 :: a6 :: a7 :: a8 :: a9 :: a10 :: a11 :: a12 :: a13 :: a14 :: a15 :: a16 :: a17 :: a18 :: a19 :: a20 :: a21 :: a22 :: a23 :: a24 :: a25 :: a26 :: r) H Q) (Q (a0 :: a1 :: a2 :: a3 :: a4 :: a5 :: a6 :: a7 :: a8 :: a9 :: a10 :: a11 :: a12 :: a13 :: a14 :: a15 :: a16 :: a17 :: a18 :: a19 :: a20 :: a21 :: a22 :: a23 :: a24 :: a25 :: some x :: r) H) := ⟨fun k => k⟩
instance i_gn27 {x : V} {a0 a1 a2 a3 a4 a5 a6 a7 a8 a9 a10 a11 a12 a13 a14 a15 a16 a17 a18 a19 a20 a21 a22 a23 a24 a25 a26 a27 : Option V} {r : L2.St} {H : Hp} {Q : L2.St → Hp → Prop} : Stp (gName 27 x (a0 :: a1 :: a2 :: a3 :: a4 :: a5 :: a6 :: a7 :: a8 :: a9 :: a10 :: a11 :: a12 :: a13 :: a14 :: a15 :: a16 :: a17 :: a18 :: a19 :: a20 :: a21 :: a22 :: a23 :: a24 :: a25 :: a26 :: a27 :: r) H Q) (Q (a0 :: a1 :: a2 :: a3 :: a4 :: a5 :: a6 :: a7 :: a8 :: a9 :: a10 :: a11 :: a12 :: a13 :: a14 :: a15 :: a16 :: a17 :: a18 :: a19 :: a20 :: a21 :: a22 :: a23 :: a24 :: a25 :: a26 :: some x :: r) H) := ⟨fun k => k⟩
instance i_gn28 {x : V} {a0 a1 a2 a3 a4 a5 a6 a7 a8 a9 a10 a11 a12 a13 a14 a15 a16 a17 a18 a19 a20 a21 a22 a23 a24 a25 a26 a27 a28 : Option V} {r : L2.St} {H : Hp} {Q : L2.St → Hp → Prop} : Stp (gName 28 x (a0 :: a1 :: a2 :: a3 :: a4 :: a5 :: a6 :: a7 :: a8 :: a9 :: a10 :: a11 :: a12 :: a13 :: a14 :: a15 :: a16 :: a17 :: a18 :: a19 :: a20 :: a21 :: a22 :: a23 :: a24 :: a25 :: a26 :: a27 :: a28 :: r) H Q) (Q (a0 :: a1 :: a2 :: a3 :: a4 :: a5 :: a6 :: a7 :: a8 :: a9 :: a10 :: a11 :: a12 :: a13 :: a14 :: a15 :: a16 :: a17 :: a18 :: a19 :: a20 :: a21 :: a22 :: a23 :: a24 :: a25 :: a26 :: a27 :: some x :: r) H) := ⟨fun k => k⟩
instance i_gn29 {x : V} {a0 a1 a2 a3 a4 a5 a6 a7 a8 a9 a10 a11 a12 a13 a14 a15 a16 a17 a18 a19 a20 a21 a22 a23 a24 a25 a26 a27 a28 a29 : Option V} {r : L2.St} {H : Hp} {Q : L2.St → Hp → Prop} : Stp (gName 29 x (a0 :: a1 :: a2 :: a3 :: a4 :: a5 :: a6 :: a7 :: a8 :: a9 :: a10 :: a11 :: a12 :: a13 :: a14 :: a15 :: a16 :: a17 :: a18 :: a19 :: a20 :: a21 :: a22 :: a23 :: a24 :: a25 :: a26 :: a27 :: a28 :: a29 :: r) H Q) (Q (a0 :: a1 :: a2 :: a3 :: a4 :: a5 :: a6 :: a7 :: a8 :: a9 :: a10 :: a11 :: a12 :: a13 :: a14 :: a15 :: a16 :: a17 :: a18 :: a19 :: a20 :: a21 :: a22 :: a23 :: a24 :: a25 :: a26 :: a27 :: a28 :: some x :: r) H) := ⟨fun k => k⟩
instance i_gn30 {x : V} {a0 a1 a2 a3 a4 a5 a6 a7 a8 a9 a10 a11 a12 a13 a14 a15 a16 a17 a18 a19 a20 a21 a22 a23 a24 a25 a26 a27 a28 a29 a30 : Option V} {r : L2.St} {H : Hp} {Q : L2.St → Hp → Prop} : Stp (gName 30 x (a0 :: a1 :: a2 :: a3 :: a4 :: a5 :: a6 :: a7 :: a8 :: a9 :: a10 :: a11 :: a12 :: a13 :: a14 :: a15 :: a16 :: a17 :: a18 :: a19 :: a20 :: a21 :: a22 :: a23 :: a24 :: a25 :: a26 :: a27 :: a28 :: a29 :: a30 :: r) H Q) (Q (a0 :: a1 :: a2 :: a3 :: a4 :: a5 :: a6 :: a7 :: a8 :: a9 :: a10 :: a11 :: a12 :: a13 :: a14 :: a15 :: a16 :: a17 :: a18 :: a19 :: a20 :: a21 :: a22 :: a23 :: a24 :: a25 :: a26 :: a27 :: a28 :: a29 :: some x :: r) H) := ⟨fun k => k⟩
instance i_gn31 {x : V} {a0 a1 a2 a3 a4 a5 a6 a7 a8 a9 a10 a11 a12 a13 a14 a15 a16 a17 a18 a19 a20 a21 a22 a23 a24 a25 a26 a27 a28 a29 a30 a31 : Option V} {r : L2.St} {H : Hp} {Q : L2.St → Hp → Prop} : Stp (gName 31 x (a0 :: a1 :: a2 :: a3 :: a4 :: a5 :: a6 :: a7 :: a8 :: a9 :: a10 :: a11 :: a12 :: a13 :: a14 :: a15 :: a16 :: a17 :: a18 :: a19 :: a20 :: a21 :: a22 :: a23 :: a24 :: a25 :: a26 :: a27 :: a28 :: a29 :: a30 :: a31 :: r) H Q) (Q (a0 :: a1 :: a2 :: a3 :: a4 :: a5 :: a6 :: a7 :: a8 :: a9 :: a10 :: a11 :: a12 :: a13 :: a14 :: a15 :: a16 :: a17 :: a18 :: a19 :: a20 :: a21 :: a22 :: a23 :: a24 :: a25 :: a26 :: a27 :: a28 :: a29 :: a30 :: some x :: r) H) := ⟨fun k => k⟩
instance i_gn32 {x : V} {a0 a1 a2 a3 a4 a5 a6 a7 a8 a9 a10 a11 a12 a13 a14 a15 a16 a17 a18 a19 a20 a21 a22 a23 a24 a25 a26 a27 a28 a29 a30 a31 a32 : Option V} {r : L2.St} {H : Hp} {Q : L2.St → Hp → Prop} : Stp (gName 32 x (a0 :: a1 :: a2 :: a3 :: a4 :: a5 :: a6 :: a7 :: a8 :: a9 :: a10 :: a11 :: a12 :: a13 :: a14 :: a15 :: a16 :: a17 :: a18 :: a19 :: a20 :: a21 :: a22 :: a23 :: a24 :: a25 :: a26 :: a27 :: a28 :: a29 :: a30 :: a31 :: a32 :: r) H Q) (Q (a0 :: a1 :: a2 :: a3 :: a4 :: a5 :: a6 :: a7 :: a8 :: a9 :: a10 :: a11 :: a12 :: a13 :: a14 :: a15 :: a16 :: a17 :: a18 :: a19 :: a20 :: a21 :: a22 :: a23 :: a24 :: a25 :: a26 :: a27 :: a28 :: a29 :: a30 :: a31 :: some x :: r) H) := ⟨fun k => k⟩
instance i_gn33 {x : V} {a0 a1 a2 a3 a4 a5 a6 a7 a8 a9 a10 a11 a12 a13 a14 a15 a16 a17 a18 a19 a20 a21 a22 a23 a24 a25 a26 a27 a28 a29 a30 a31 a32 a33 : Option V} {r : L2.St} {H : Hp} {Q : L2.St → Hp → Prop} : Stp (gName 33 x (a0 :: a1 :: a2 :: a3 :: a4 :: a5 :: a6 :: a7 :: a8 :: a9 :: a10 :: a11 :: a12 :: a13 :: a14 :: a15 :: a16 :: a17 :: a18 :: a19 :: a20 :: a21 :: a22 :: a23 :: a24 :: a25 :: a26 :: a27 :: a28 :: a29 :: a30 :: a31 :: a32 :: a33 :: r) H Q) (Q (a0 :: a1 :: a2 :: a3 :: a4 :: a5 :: a6 :: a7 :: a8 :: a9 :: a10 :: a11 :: a12 :: a13 :: a14 :: a15 :: a16 :: a17 :: a18 :: a19 :: a20 :: a21 :: a22 :: a23 :: a24 :: a25 :: a26 :: a27 :: a28 :: a29 :: a30 :: a31 :: a32 :: some x :: r) H) := ⟨fun k => k⟩
instance i_gn34 {x : V} {a0 a1 a2 a3 a4 a5 a6 a7 a8 a9 a10 a11 a12 a13 a14 a15 a16 a17 a18 a19 a20 a21 a22 a23 a24 a25 a26 a27 a28 a29 a30 a31 a32 a33 a34 : Option V} {r : L2.St} {H : Hp} {Q : L2.St → Hp → Prop} : Stp (gName 34 x (a0 :: a1 :: a2 :: a3 :: a4 :: a5 :: a6 :: a7 :: a8 :: a9 :: a10 :: a11 :: a12 :: a13 :: a14 :: a15 :: a16 :: a17 :: a18 :: a19 :: a20 :: a21 :: a22 :: a23 :: a24 :: a25 :: a26 :: a27 :: a28 :: a29 :: a30 :: a31 :: a32 :: a33 :: a34 :: r) H Q) (Q (a0 :: a1 :: a2 :: a3 :: a4 :: a5 :: a6 :: a7 :: a8 :: a9 :: a10 :: a11 :: a12 :: a13 :: a14 :: a15 :: a16 :: a17 :: a18 :: a19 :: a20 :: a21 :: a22 :: a23 :: a24 :: a25 :: a26 :: a27 :: a28 :: a29 :: a30 :: a31 :: a32 :: a33 :: some x :: r) H) := ⟨fun k => k⟩
instance i_gn35 {x : V} {a0 a1 a2 a3 a4 a5 a6 a7 a8 a9 a10 a11 a12 a13 a14 a15 a16 a17 a18 a19 a20 a21 a22 a23 a24 a25 a26 a27 a28 a29 a30 a31 a32 a33 a34 a35 : Option V} {r : L2.St} {H : Hp} {Q : L2.St → Hp → Prop} : Stp (gName 35 x (a0 :: a1 :: a2 :: a3 :: a4 :: a5 :: a6 :: a7 :: a8 :: a9 :: a10 :: a11 :: a12 :: a13 :: a14 :: a15 :: a16 :: a17 :: a18 :: a19 :: a20 :: a21 :: a22 :: a23 :: a24 :: a25 :: a26 :: a27 :: a28 :: a29 :: a30 :: a31 :: a32 :: a33 :: a34 :: a35 :: r) H Q) (Q (a0 :: a1 :: a2 :: a3 :: a4 :: a5 :: a6 :: a7 :: a8 :: a9 :: a10 :: a11 :: a12 :: a13 :: a14 :: a15 :: a16 :: a17 :: a18 :: a19 :: a20 :: a21 :: a22 :: a23 :: a24 :: a25 :: a26 :: a27 :: a28 :: a29 :: a30 :: a31 :: a32 :: a33 :: a34 :: some x :: r) H) := ⟨fun k => k⟩
instance i_gn36 {x : V} {a0 a1 a2 a3 a4 a5 a6 a7 a8 a9 a10 a11 a12 a13 a14 a15 a16 a17 a18 a19 a20 a21 a22 a23 a24 a25 a26 a27 a28 a29 a30 a31 a32 a33 a34 a35 a36 : Option V} {r : L2.St} {H : Hp} {Q : L2.St → Hp → Prop} : Stp (gName 36 x (a0 :: a1 :: a2 :: a3 :: a4 :: a5 :: a6 :: a7 :: a8 :: a9 :: a10 :: a11 :: a12 :: a13 :: a14 :: a15 :: a16 :: a17 :: a18 :: a19 :: a20 :: a21 :: a22 :: a23 :: a24 :: a25 :: a26 :: a27 :: a28 :: a29 :: a30 :: a31 :: a32 :: a33 :: a34 :: a35 :: a36 :: r) H Q) (Q (a0 :: a1 :: a2 :: a3 :: a4 :: a5 :: a6 :: a7 :: a8 :: a9 :: a10 :: a11 :: a12 :: a13 :: a14 :: a15 :: a16 :: a17 :: a18 :: a19 :: a20 :: a21 :: a22 :: a23 :: a24 :: a25 :: a26 :: a27 :: a28 :: a29 :: a30 :: a31 :: a32 :: a33 :: a34 :: a35 :: some x :: r) H) := ⟨fun k => k⟩
instance i_gn37 {x : V} {a0 a1 a2 a3 a4 a5 a6 a7 a8 a9 a10 a11 a12 a13 a14 a15 a16 a17 a18 a19 a20 a21 a22 a23 a24 a25 a26 a27 a28 a29 a30 a31 a32 a33 a34 a35 a36 a37 : Option V} {r : L2.St} {H : Hp} {Q : L2.St → Hp → Prop} : Stp (gName 37 x (a0 :: a1 :: a2 :: a3 :: a4 :: a5 :: a6 :: a7 :: a8 :: a9 :: a10 :: a11 :: a12 :: a13 :: a14 :: a15 :: a16 :: a17 :: a18 :: a19 :: a20 :: a21 :: a22 :: a23 :: a24 :: a25 :: a26 :: a27 :: a28 :: a29 :: a30 :: a31 :: a32 :: a33 :: a34 :: a35 :: a36 :: a37 :: r) H Q) (Q (a0 :: a1 :: a2 :: a3 :: a4 :: a5 :: a6 :: a7 :: a8 :: a9 :: a10 :: a11 :: a12 :: a13 :: a14 :: a15 :: a16 :: a17 :: a18 :: a19 :: a20 :: a21 :: a22 :: a23 :: a24 :: a25 :: a26 :: a27 :: a28 :: a29 :: a30 :: a31 :: a32 :: a33 :: a34 :: a35 :: a36 :: some x :: r) H) := ⟨fun k => k⟩
instance i_gn38 {x : V} {a0 a1 a2 a3 a4 a5 a6 a7 a8 a9 a10 a11 a12 a13 a14 a15 a16 a17 a18 a19 a20 a21 a22 a23 a24 a25 a26 a27 a28 a29 a30 a31 a32 a33 a34 a35 a36 a37 a38 : Option V} {r : L2.St} {H : Hp} {Q : L2.St → Hp → Prop} : Stp (gName 38 x (a0 :: a1 :: a2 :: a3 :: a4 :: a5 :: a6 :: a7 :: a8 :: a9 :: a10 :: a11 :: a12 :: a13 :: a14 :: a15 :: a16 :: a17 :: a18 :: a19 :: a20 :: a21 :: a22 :: a23 :: a24 :: a25 :: a26 :: a27 :: a28 :: a29 :: a30 :: a31 :: a32 :: a33 :: a34 :: a35 :: a36 :: a37 :: a38 :: r) H Q) (Q (a0 :: a1 :: a2 :: a3 :: a4 :: a5 :: a6 :: a7 :: a8 :: a9 :: a10 :: a11 :: a12 :: a13 :: a14 :: a15 :: a16 :: a17 :: a18 :: a19 :: a20 :: a21 :: a22 :: a23 :: a24 :: a25 :: a26 :: a27 :: a28 :: a29 :: a30 :: a31 :: a32 :: a33 :: a34 :: a35 :: a36 :: a37 :: some x :: r) H) := ⟨fun k => k⟩
instance i_gn39 {x : V} {a0 a1 a2 a3 a4 a5 a6 a7 a8 a9 a10 a11 a12 a13 a14 a15 a16 a17 a18 a19 a20 a21 a22 a23 a24 a25 a26 a27 a28 a29 a30 a31 a32 a33 a34 a35 a36 a37 a38 a39 : Option V} {r : L2.St} {H : Hp} {Q : L2.St → Hp → Prop} : Stp (gName 39 x (a0 :: a1 :: a2 :: a3 :: a4 :: a5 :: a6 :: a7 :: a8 :: a9 :: a10 :: a11 :: a12 :: a13 :: a14 :: a15 :: a16 :: a17 :: a18 :: a19 :: a20 :: a21 :: a22 :: a23 :: a24 :: a25 :: a26 :: a27 :: a28 :: a29 :: a30 :: a31 :: a32 :: a33 :: a34 :: a35 :: a36 :: a37 :: a38 :: a39 :: r) H Q) (Q (a0 :: a1 :: a2 :: a3 :: a4 :: a5 :: a6 :: a7 :: a8 :: a9 :: a10 :: a11 :: a12 :: a13 :: a14 :: a15 :: a16 :: a17 :: a18 :: a19 :: a20 :: a21 :: a22 :: a23 :: a24 :: a25 :: a26 :: a27 :: a28 :: a29 :: a30 :: a31 :: a32 :: a33 :: a34 :: a35 :: a36 :: a37 :: a38 :: some x :: r) H) := ⟨fun k => k⟩
instance i_gn40 {x : V} {a0 a1 a2 a3 a4 a5 a6 a7 a8 a9 a10 a11 a12 a13 a14 a15 a16 a17 a18 a19 a20 a21 a22 a23 a24 a25 a26 a27 a28 a29 a30 a31 a32 a33 a34 a35 a36 a37 a38 a39 a40 : Option V} {r : L2.St} {H : Hp} {Q : L2.St → Hp → Prop} : Stp (gName 40 x (a0 :: a1 :: a2 :: a3 :: a4 :: a5 :: a6 :: a7 :: a8 :: a9 :: a10 :: a11 :: a12 :: a13 :: a14 :: a15 :: a16 :: a17 :: a18 :: a19 :: a20 :: a21 :: a22 :: a23 :: a24 :: a25 :: a26 :: a27 :: a28 :: a29 :: a30 :: a31 :: a32 :: a33 :: a34 :: a35 :: a36 :: a37 :: a38 :: a39 :: a40 :: r) H Q) (Q (a0 :: a1 :: a2 :: a3 :: a4 :: a5 :: a6 :: a7 :: a8 :: a9 :: a10 :: a11 :: a12 :: a13 :: a14 :: a15 :: a16 :: a17 :: a18 :: a19 :: a20 :: a21 :: a22 :: a23 :: a24 :: a25 :: a26 :: a27 :: a28 :: a29 :: a30 :: a31 :: a32 :: a33 :: a34 :: a35 :: a36 :: a37 :: a38 :: a39 :: some x :: r) H) := ⟨fun k => k⟩
instance i_gn41 {x : V} {a0 a1 a2 a3 a4 a5 a6 a7 a8 a9 a10 a11 a12 a13 a14 a15 a16 a17 a18 a19 a20 a21 a22 a23 a24 a25 a26 a27 a28 a29 a30 a31 a32 a33 a34 a35 a36 a37 a38 a39 a40 a41 : Option V} {r : L2.St} {H : Hp} {Q : L2.St → Hp → Prop} : Stp (gName 41 x (a0 :: a1 :: a2 :: a3 :: a4 :: a5 :: a6 :: a7 :: a8 :: a9 :: a10 :: a11 :: a12 :: a13 :: a14 :: a15 :: a16 :: a17 :: a18 :: a19 :: a20 :: a21 :: a22 :: a23 :: a24 :: a25 :: a26 :: a27 :: a28 :: a29 :: a30 :: a31 :: a32 :: a33 :: a34 :: a35 :: a36 :: a37 :: a38 :: a39 :: a40 :: a41 :: r) H Q) (Q (a0 :: a1 :: a2 :: a3 :: a4 :: a5 :: a6 :: a7 :: a8 :: a9 :: a10 :: a11 :: a12 :: a13 :: a14 :: a15 :: a16 :: a17 :: a18 :: a19 :: a20 :: a21 :: a22 :: a23 :: a24 :: a25 :: a26 :: a27 :: a28 :: a29 :: a30 :: a31 :: a32 :: a33 :: a34 :: a35 :: a36 :: a37 :: a38 :: a39 :: a40 :: some x :: r) H) := ⟨fun k => k⟩
instance i_gn42 {x : V} {a0 a1 a2 a3 a4 a5 a6 a7 a8 a9 a10 a11 a12 a13 a14 a15 a16 a17 a18 a19 a20 a21 a22 a23 a24 a25 a26 a27 a28 a29 a30 a31 a32 a33 a34 a35 a36 a37 a38 a39 a40 a41 a42 : Option V} {r : L2.St} {H : Hp} {Q : L2.St → Hp → Prop} : Stp (gName 42 x (a0 :: a1 :: a2 :: a3 :: a4 :: a5 :: a6 :: a7 :: a8 :: a9 :: a10 :: a11 :: a12 :: a13 :: a14 :: a15 :: a16 :: a17 :: a18 :: a19 :: a20 :: a21 :: a22 :: a23 :: a24 :: a25 :: a26 :: a27 :: a28 :: a29 :: a30 :: a31 :: a32 :: a33 :: a34 :: a35 :: a36 :: a37 :: a38 :: a39 :: a40 :: a41 :: a42 :: r) H Q) (Q (a0 :: a1 :: a2 :: a3 :: a4 :: a5 :: a6 :: a7 :: a8 :: a9 :: a10 :: a11 :: a12 :: a13 :: a14 :: a15 :: a16 :: a17 :: a18 :: a19 :: a20 :: a21 :: a22 :: a23 :: a24 :: a25 :: a26 :: a27 :: a28 :: a29 :: a30 :: a31 :: a32 :: a33 :: a34 :: a35 :: a36 :: a37 :: a38 :: a39 :: a40 :: a41 :: some x :: r) H) := ⟨fun k => k⟩
instance i_gn43 {x : V} {a0 a1 a2 a3 a4 a5 a6 a7 a8 a9 a10 a11 a12 a13 a14 a15 a16 a17 a18 a19 a20 a21 a22 a23 a24 a25 a26 a27 a28 a29 a30 a31 a32 a33 a34 a35 a36 a37 a38 a39 a40 a41 a42 a43 : Option V} {r : L2.St} {H : Hp} {Q : L2.St → Hp → Prop} : Stp (gName 43 x (a0 :: a1 :: a2 :: a3 :: a4 :: a5 :: a6 :: a7 :: a8 :: a9 :: a10 :: a11 :: a12 :: a13 :: a14 :: a15 :: a16 :: a17 :: a18 :: a19 :: a20 :: a21 :: a22 :: a23 :: a24 :: a25 :: a26 :: a27 :: a28 :: a29 :: a30 :: a31 :: a32 :: a33 :: a34 :: a35 :: a36 :: a37 :: a38 :: a39 :: a40 :: a41 :: a42 :: a43 :: r) H Q) (Q (a0 :: a1 :: a2 :: a3 :: a4 :: a5 :: a6 :: a7 :: a8 :: a9 :: a10 :: a11 :: a12 :: a13 :: a14 :: a15 :: a16 :: a17 :: a18 :: a19 :: a20 :: a21 :: a22 :: a23 :: a24 :: a25 :: a26 :: a27 :: a28 :: a29 :: a30 :: a31 :: a32 :: a33 :: a34 :: a35 :: a36 :: a37 :: a38 :: a39 :: a40 :: a41 :: a42 :: some x :: r) H) := ⟨fun k => k⟩
end
theorem cxK {CX : CXT} {P : Program} {w : World} {K : PySem.W.Frag} {mg : Str → Option Value} {base : Heap} {N : List Str} {qual : Str} {scope : Scope} {f : Addr} {cd : Value} {A : Around} {outer : List Env} {s : Shared} {H : Hp} {E : XK} : (cxOf CX P w K mg base N qual scope f cd A outer s H E).nox.K = K := rfl
theorem cxKr {CX : CXT} {P : Program} {w : World} {K : PySem.W.Frag} {mg : Str → Option Value} {base : Heap} {N : List Str} {qual : Str} {scope : Scope} {f : Addr} {cd : Value} {A : Around} {outer : List Env} {s : Shared} {H : Hp} {E : XK} : (cxOf CX P w K mg base N qual scope f cd A outer s H E).K = K := rfl
theorem cxKh {CX : CXT} {P : Program} {w : World} {K : PySem.W.Frag} {mg : Str → Option Value} {base : Heap} {N : List Str} {qual : Str} {scope : Scope} {f : Addr} {cd : Value} {A : Around} {outer : List Env} {s : Shared} {H : Hp} {E : XK} {p : Addr × Obj} : (L2H.cxH CX P w K mg base N qual scope f cd A outer s H E p).nox.K = K := rfl
theorem cxKi {CX : CXT} {P : Program} {w : World} {K : PySem.W.Frag} {mg : Str → Option Value} {base : Heap} {N : List Str} {qual : Str} {scope : Scope} {f : Addr} {cd : Value} {A : Around} {outer : List Env} {s : Shared} {H : Hp} {E : XK} {p : Addr × Obj} : (L2H.cxH CX P w K mg base N qual scope f cd A outer s H E p).K = K := rfl
theorem flat_intsM (l : List Int) : (l.map V.int).all flatV = true := List.all_eq_true.mpr fun x hx => by
  obtain ⟨z, _, rfl⟩ := List.mem_map.mp hx
  rfl
end M
namespace M
open PySem PySem.Spec PyProof.Rows L2 SX
/-! ## texts, as lists of code points -/
theorem sl_str {X : Cx} : SlR X rSlS := L2.sl_str
def rMulZ : R2 := fun x y H Q => ∃ (a : Str) (k : Int), x = .str a ∧ y = .int k ∧ 0 ≤ k ∧ k ≤ 1 ∧ Q (.str (if k < 1 then Str.empty else a)) H
theorem op_mulZ {X : Cx} : OpR X (binaryOp .Mult) rMulZ := by
  intro pins s σ H x y v u Q I rx ry h
  obtain ⟨a, k, rfl, rfl, h0, h1, q⟩ := h
  obtain ⟨t, rfl⟩ := rx
  obtain ⟨t', rfl⟩ := ry
  have c0 : (decide (k < -(2 ^ 63 : Int)) || decide (k ≥ 2 ^ 63)) = false := by
    rw [decide_eq_false (by omega), decide_eq_false (by omega)]; rfl
  have k1 : ¬ k < 1 → k = 1 := by omega
  refine P.mul_str c0 (fun z1 z2 => ?_) (fun z1 z2 => ?_) ?_
  · rw [k1 z1] at z2; cases z2
  · rw [k1 z1] at z2; cases z2
  · by_cases c : k < 1
    · rw [if_pos c] at q ⊢
      exact ⟨by decide, ⟨.str Str.empty, H, I.tok _, ⟨_, rfl⟩, q⟩⟩
    · rw [if_neg c] at q ⊢
      rw [if_pos (by rw [k1 c]; rfl)]
      exact ⟨.str a, H, I, ⟨_, rfl⟩, q⟩
def rDictC : List V → Hp → VK → Prop := fun xs H Q => ∃ (a : Addr) (kvs : List (Key × V)), xs = [.ref a] ∧ Rd H a (.dK kvs) ∧ ∀ p, H p = none → Q (.ref p) (upd H p (.dK kvs))
theorem call_dictC {X : Cx} : CallR X (.type "dict") rDictC := by
  intro pins s σ H xs us Q I r q
  obtain ⟨a, kvs, ex, hd, q⟩ := q
  subst ex
  obtain ⟨u, eu, rx⟩ := vals1 r
  subst eu
  cases rx
  exact d_copyOf I hd fun p s' hp I' => ⟨.ref p, _, I', rfl, q p hp⟩
def rIntS : List V → Hp → VK → Prop := fun xs H Q => ∃ a n, xs = [.str a] ∧ PySem.intText? a = some n ∧ a.length ≤ 640 ∧ Q (.int n) H
theorem call_intS {X : Cx} : CallR X (.type "int") rIntS := call_int_str
def rInKD (K : PySem.W.Frag) (d : Addr) : R2 := fun x y H Q => ∃ (z : Str) (r : Option Value), x = .str z ∧ y = .ref d ∧ PySem.W.nsIn K d z = some r ∧ Q (.bl r.isSome) H
def rNotInKD (K : PySem.W.Frag) (d : Addr) : R2 := fun x y H Q => ∃ (z : Str) (r : Option Value), x = .str z ∧ y = .ref d ∧ PySem.W.nsIn K d z = some r ∧ Q (.bl (!r.isSome)) H
theorem op_inKD {X : Cx} {d : Addr} (D : ∃ es n, KDict X.K X.w d es n) : OpR X (compareOp .In) (rInKD X.K d) := by obtain ⟨es, n, D⟩ := D; exact op_in_kd D
theorem op_notInKD {X : Cx} {d : Addr} (D : ∃ es n, KDict X.K X.w d es n) : OpR X (compareOp .NotIn) (rNotInKD X.K d) := by obtain ⟨es, n, D⟩ := D; exact op_notIn_kd D
def rJoinZ (K : PySem.W.Frag) : V → List V → Hp → VK → Prop := fun x xs H Q => ∃ a p, ∃ ys : List Str, x = .str a ∧ xs = [.ref p] ∧ (SqL K H p (ys.map V.str) ∨ SqT K H p (ys.map V.str)) ∧ (ys.map (·.length)).sum + ys.length * a.length ≤ 16777216 ∧ Q (.str (Txt.join a ys)) H
section
variable {σ : L2.St} {H : Hp} {nx bk ct : L2.St → Hp → Prop} {rt : VK} {te : TE} {ti : TIp} {i : Nat} {x : V} {a b : Int} {f : Int → Int → Int} {Q : VK}
theorem x_aug (h : σ[i]? = some (some x)) (k : te σ H fun y H1 => ti x y H1 fun z H2 => gName i z σ H2 nx) : tAug i te ti ⟨nx, rt, bk, ct⟩ σ H := ⟨x, h, k⟩
instance i_ipI : Stp (ipI f (.int a) (.int b) H Q) (Q (.int (f a b)) H) := ⟨fun k => ⟨a, b, rfl, rfl, k⟩⟩
end
section
variable {K : PySem.W.Frag} {H : Hp} {Q : VK} {l a b : List Nat} {c : Nat} {z : Str} {k : Int}
theorem szS {n : Nat} (h : n ≤ 1000000) : n ≤ sizeLine := by rw [sizeLine_eq]; omega
theorem cutS_S {i j : Nat} : cutS (S l) (some (i : Int)) (some (j : Int)) = S ((l.drop i).take (j - i)) := by
  unfold cutS
  rw [HT.sIx_nat, HT.sIx_nat, S_len]
  show S ((l.drop (min i l.length)).take (min j l.length - min i l.length)) = _
  congr 1
  by_cases h : i ≤ l.length
  · rw [Nat.min_eq_left h]
    by_cases h2 : j ≤ l.length
    · rw [Nat.min_eq_left h2]
    · rw [Nat.min_eq_right (by omega), List.take_of_length_le (by rw [List.length_drop]; omega), List.take_of_length_le (by rw [List.length_drop]; omega)]
  · rw [Nat.min_eq_right (show l.length ≤ i by omega), List.drop_of_length_le (Nat.le_refl _), List.drop_of_length_le (show l.length ≤ i by omega), List.take_nil, List.take_nil]
theorem cutS_to {j : Nat} : cutS (S l) none (some (j : Int)) = S (l.take j) := by
  have := cutS_S (l := l) (i := 0) (j := j)
  rw [List.drop_zero, Nat.sub_zero] at this
  rw [← this]
  unfold cutS
  rw [HT.sIx_none, HT.sIx_nat, HT.sIx_nat, Nat.zero_min]
theorem x_slS {i j : Nat} (h : l.length ≤ 1000000) (q : Q (.str (S ((l.drop i).take (j - i)))) H) : rSlS (.str (S l)) (some (i : Int)) (some (j : Int)) H Q := ⟨S l, rfl, szS (by rw [S_len]; exact h), by rw [cutS_S]; exact q⟩
theorem x_slTo {j : Nat} (h : l.length ≤ 1000000) (q : Q (.str (S (l.take j))) H) : rSlS (.str (S l)) none (some (j : Int)) H Q := ⟨S l, rfl, szS (by rw [S_len]; exact h), by rw [cutS_to]; exact q⟩
theorem x_ixS {i : Nat} (h : l.length ≤ 1000000) (e : l[i]? = some c) (q : Q (.str (S [c])) H) : rIxS (.str (S l)) (.int (i : Int)) H Q := ⟨S l, i, c, rfl, rfl, szS (by rw [S_len]; exact h), M.atI_of (v := c) (by omega) (by rw [Int.toNat_natCast]; exact e), q⟩
theorem x_inSg (q : Q (.bl (decide (c ∈ z.cps.toList))) H) : rInS (.str (S [c])) (.str z) H Q := ⟨c, z, rfl, rfl, q⟩
theorem x_lenS (h : l.length ≤ 1000000) (q : Q (.int l.length) H) : rLenZ [.str (S l)] H Q := ⟨S l, rfl, szS (by rw [S_len]; exact h), by rw [S_len]; exact q⟩
theorem x_addS (h : a.length + b.length ≤ 1000000) (q : Q (.str (S (a ++ b))) H) : rAddZ (.str (S a)) (.str (S b)) H Q := ⟨S a, S b, rfl, rfl, szS (by rw [S_len, S_len]; exact h), by rw [S_cat]; exact q⟩
theorem x_strN {n : Nat} (h : n < 2 ^ 60) (q : Q (.str (S (TL.numL n))) H) : rStrI [.int (n : Int)] H Q := ⟨n, rfl, by
  rw [Int.natAbs_natCast]
  by_cases e : n = 0
  · subst e; decide
  · have := (Nat.log2_lt e).mpr h
    omega, by rw [num_S]; exact q⟩
theorem x_intS (h : a.all (fun c => decide (48 ≤ c) && decide (c ≤ 57)) = true) (ne : a ≠ []) (hl : a.length ≤ 600) (q : Q (.int ((NumText.digitsVal a : Nat) : Int)) H) : rIntS [.str (S a)] H Q := ⟨S a, _, rfl, int_S h ne (by omega), by rw [S_len]; omega, q⟩
theorem strNeg (n : Nat) : Str.ofString (toString (-((n + 1 : Nat) : Int))) = S (45 :: TL.numL (n + 1)) := by
  refine TL.ext_tl ?_
  rw [TL.tl_ofString]
  show (("-" ++ toString (n + 1) : String).toList.map Char.toNat) = _
  rw [String.toList_append, List.map_append]
  have := TL.tl_num (n + 1)
  rw [TL.tl_ofString] at this
  show [45] ++ _ = 45 :: _
  exact congrArg (45 :: ·) this
theorem x_eqS2 (q : Q (.bl (decide (a = b))) H) : rEq (.str (S a)) (.str (S b)) H Q := x_eqS (by
  have : decide (S a = S b) = decide (a = b) := by rw [decide_eq_decide]; exact ⟨S_inj, fun h => by rw [h]⟩
  rw [this]; exact q)
theorem x_neS2 (q : Q (.bl (decide (a ≠ b))) H) : rNe (.str (S a)) (.str (S b)) H Q := x_neS (by
  have : decide (S a ≠ S b) = decide (a ≠ b) := by rw [decide_eq_decide]; exact not_congr ⟨S_inj, fun h => by rw [h]⟩
  rw [this]; exact q)
theorem x_joinS {p : Addr} {ys : List (List Nat)} (h : SqL K H p (ys.map fun y => V.str (S y))) (hl : (ys.map List.length).sum + ys.length * a.length ≤ 1000000) (q : Q (.str (S (TL.joinL a ys))) H) : rJoinZ K (.str (S a)) [.ref p] H Q :=
  ⟨S a, p, ys.map S, rfl, rfl, .inl (by rw [List.map_map]; exact h), by rw [lens, List.length_map, S_len]; exact Nat.le_trans hl (by decide), by rw [join_S]; exact q⟩
theorem x_dictC {d : Addr} {kvs : List (Key × V)} (h : H d = some (.dK kvs)) (q : ∀ p H2, H p = none → Same H H2 → H2 p = some (.dK kvs) → Q (.ref p) H2) : rDictC [.ref d] H Q := ⟨d, kvs, rfl, .inl h, fun p hp => q p _ hp (same_new hp) upd_same⟩
theorem x_inKD {d : Addr} {r : Option Value} (h : PySem.W.nsIn K d z = some r) (q : Q (.bl r.isSome) H) : rInKD K d (.str z) (.ref d) H Q := ⟨z, r, rfl, rfl, h, q⟩
theorem x_notInKD {d : Addr} {r : Option Value} (h : PySem.W.nsIn K d z = some r) (q : Q (.bl (!r.isSome)) H) : rNotInKD K d (.str z) (.ref d) H Q := ⟨z, r, rfl, rfl, h, q⟩
theorem x_mulZ {s : Str} (h : 0 ≤ k ∧ k ≤ 1) (q : Q (.str (if k < 1 then Str.empty else s)) H) : rMulZ (.str s) (.int k) H Q := ⟨s, k, rfl, rfl, h.1, h.2, q⟩
end
/-! a table of pairs of numbers -/
def tupAtB (K : PySem.W.Frag) (b : Addr) (vs : List He.Dv) : Bool := match K.lookup b with
  | some ⟨.type c, _, .seq its _, _⟩ => decide (c = "tuple") && (decide (its.size ≤ sizeLine) && He.relAll (vs.map (He.Dv.v K)) its.toList)
  | _ => false
theorem tupAtB_ok {K : PySem.W.Frag} {b : Addr} {vs : List He.Dv} (h : tupAtB K b vs = true) (H : Hp) : SqT K H b (vs.map (He.Dv.v K)) := by
  unfold tupAtB at h
  cases q : K.lookup b with
  | none =>
    rw [q] at h
    cases h
  | some o =>
    obtain ⟨oc, od, dt, osl⟩ := o
    rw [q] at h
    cases oc with
    | type c =>
      cases dt with
      | seq its n =>
        obtain ⟨h1, h2⟩ := He.ba (show (decide (c = "tuple") && (decide (its.size ≤ sizeLine) && He.relAll (vs.map (He.Dv.v K)) its.toList)) = true from h)
        obtain ⟨h3, h4⟩ := He.ba h2
        exact .inr ⟨_, its, n, q, congrArg Value.type (of_decide_eq_true h1), rfl, of_decide_eq_true h3, He.relAll_ok h4⟩
      | _ => cases h
    | _ => cases dt <;> cases h
def LimT (K : PySem.W.Frag) (a : Addr) (l : List (Str × Int × Int)) : Prop := ∀ q ∈ l, ∃ b, PySem.W.nsIn K a q.1 = some (some (.ref b)) ∧ ∀ H, SqT K H b [.int q.2.1, .int q.2.2]
def limB (K : PySem.W.Frag) (a : Addr) (l : List (Str × Int × Int)) : Bool := l.all fun q => match PySem.W.nsIn K a q.1 with
  | some (some (.ref b)) => tupAtB K b [.int q.2.1, .int q.2.2]
  | _ => false
theorem limB_ok {K : PySem.W.Frag} {a : Addr} {l : List (Str × Int × Int)} (h : limB K a l = true) : LimT K a l := fun q hq => by
  have h2 := List.all_eq_true.mp h q hq
  cases e : PySem.W.nsIn K a q.1 with
  | none => rw [e] at h2; cases h2
  | some r =>
    rw [e] at h2
    cases r with
    | none => cases h2
    | some u =>
      cases u with
      | ref b => exact ⟨b, rfl, fun H => tupAtB_ok h2 H⟩
      | _ => cases h2
theorem lim_kd {K : PySem.W.Frag} {w : World} {a : Addr} {l : List (Str × Int × Int)} {q : Str × Int × Int} (D : ∃ es n, KDict K w a es n) (t : LimT K a l) (hq : q ∈ l) : ∃ b, KDct K w a q.1 (.ref b) ∧ ∀ H, SqT K H b [.int q.2.1, .int q.2.2] := by
  obtain ⟨es, n, d⟩ := D
  obtain ⟨b, h1, h2⟩ := t q hq
  exact ⟨b, ⟨es, n, _, d.at_, d.lit, h1, rfl⟩, h2⟩
/-! for c in text -/
theorem for_str {z : Str} {g : TG} {tb : TS} {D : Ends} {σ : L2.St} {H : Hp} (Pv : Nat → L2.St → Hp → Prop) (h0 : Pv 0 σ H)
    (hs : ∀ i c σ H, z.cps[i]? = some c → Pv i σ H → g (.str ⟨#[c]⟩) σ H fun σ2 H2 => tb { D with nx := Pv (i + 1), ct := Pv (i + 1), bk := D.nx } σ2 H2) (hd : ∀ σ H, Pv z.cps.size σ H → D.nx σ H) :
    ∃ W : Nat → Nat → L2.St → Hp → Prop, (∃ m, W 0 m σ H) ∧ ∀ i m σ H, W i m σ H →
      ((Its z).stop i H ∧ D.nx σ H) ∨ ((Its z).go i H ∧ ∃ N : L2.St → Hp → Prop, (∀ σ' H', N σ' H' → ∃ m', m' < m ∧ W (i + 1) m' σ' H') ∧ ∀ x H', (Its z).yld i H x H' → g x σ H' fun σ2 H2 => tb { D with nx := N, ct := N, bk := D.nx } σ2 H2) := by
  refine ⟨fun i m σ H => m = z.cps.size - i ∧ i ≤ z.cps.size ∧ Pv i σ H, ⟨z.cps.size, by simp, Nat.zero_le _, h0⟩, ?_⟩
  rintro i m σ H ⟨rfl, hi, p⟩
  by_cases hlt : i < z.cps.size
  · refine .inr ⟨hlt, Pv (i + 1), fun σ' H' p' => ⟨z.cps.size - (i + 1), by omega, rfl, hlt, p'⟩, fun x H' y => ?_⟩
    obtain ⟨e, c, hc, y⟩ := y
    subst e y
    exact hs i c σ _ hc p
  · have e : i = z.cps.size := by omega
    subst e
    exact .inl ⟨Nat.le_refl _, hd σ H p⟩
section
variable {σ : L2.St} {H : Hp} {nx bk ct : L2.St → Hp → Prop} {rt : VK} {tb : TS} {g : TG} {te : TE}
def isForS (g : TG) (tb : TS) (D : Ends) (σ : L2.St) (x : V) (H : Hp) : Prop := tFor (iStr (tC x)) g tb D σ H
instance i_forS {D : Ends} : Stp (tFor (iStr te) g tb D σ H) (te σ H fun x H1 => isForS g tb D σ x H1) := ⟨fun k => k⟩
theorem x_isForS {l : List Nat} (Pv : Nat → L2.St → Hp → Prop) (h0 : Pv 0 σ H)
    (hs : ∀ (i c : Nat) σ' H', l[i]? = some c → Pv i σ' H' → g (.str (S [c])) σ' H' fun σ2 H2 => tb ⟨Pv (i + 1), rt, nx, Pv (i + 1)⟩ σ2 H2) (hd : ∀ σ' H', Pv l.length σ' H' → nx σ' H') : isForS g tb ⟨nx, rt, bk, ct⟩ σ (.str (S l)) H :=
  ⟨S l, rfl, for_str (z := S l) (D := ⟨nx, rt, bk, ct⟩) Pv h0 (fun i c σ' H' hc p => hs i c σ' H' ((show (S l).cps[i]? = l[i]? by simp [S]).symm.trans hc) p) (fun σ' H' p => hd σ' H' ((show (S l).cps.size = l.length by simp [S]) ▸ p))⟩
end
end M
namespace K15
open PySem PySem.Spec PyProof.Rows L2
section
def top (i : Nat) : Stmt := PySem.Challenge.pw_merestone_k15_listings_read_back.main.body.getD i (.Pass ⟨0, 0, 0, 0⟩)
abbrev inClass (s : Stmt) (j : Nat) : Stmt := match s with | .ClassDef (body := b) .. => b.getD j (.Pass ⟨0, 0, 0, 0⟩) | _ => .Pass ⟨0, 0, 0, 0⟩
abbrev s_Malformed___init__ : Stmt := (inClass (top 2) 0)
abbrev s_Unknown___init__ : Stmt := (inClass (top 3) 0)
abbrev s_Twice___init__ : Stmt := (inClass (top 4) 0)
abbrev s_OutOfRange___init__ : Stmt := (inClass (top 5) 0)
abbrev s_TooLarge___init__ : Stmt := (inClass (top 6) 0)
abbrev s_BadCode___init__ : Stmt := (inClass (top 7) 0)
abbrev s_fits : Stmt := (top 16)
abbrev s_encode : Stmt := (top 17)
abbrev s_decode : Stmt := (top 18)
abbrev s_size_of : Stmt := (top 19)
abbrev s_Line___init__ : Stmt := (inClass (top 30) 0)
abbrev s_Tokens___init__ : Stmt := (inClass (top 31) 0)
abbrev s_Tokens_kind : Stmt := (inClass (top 31) 1)
abbrev s_Tokens_text : Stmt := (inClass (top 31) 2)
abbrev s_Tokens_column : Stmt := (inClass (top 31) 3)
abbrev s_Tokens_take : Stmt := (inClass (top 31) 4)
abbrev s_end_of : Stmt := (top 32)
abbrev s_number_end : Stmt := (top 33)
abbrev s_tokens_of : Stmt := (top 34)
abbrev s_read_register : Stmt := (top 35)
abbrev s_read_name : Stmt := (top 36)
abbrev s_read_term : Stmt := (top 37)
abbrev s_read_expression : Stmt := (top 38)
abbrev s_read_operand : Stmt := (top 39)
abbrev s_read_operands : Stmt := (top 40)
abbrev s_read_line : Stmt := (top 41)
abbrev s_read_lines : Stmt := (top 42)
abbrev s_is_instruction : Stmt := (top 43)
abbrev s_wrap : Stmt := (top 46)
abbrev s_field_text : Stmt := (top 49)
abbrev s_instruction_text : Stmt := (top 50)
abbrev s_listing : Stmt := (top 51)
abbrev s_Assembly___init__ : Stmt := (inClass (top 59) 0)
abbrev s_Assembler___init__ : Stmt := (inClass (top 60) 0)
abbrev s_Assembler_value : Stmt := (inClass (top 60) 1)
abbrev s_Assembler_within : Stmt := (inClass (top 60) 2)
abbrev s_Assembler_define : Stmt := (inClass (top 60) 3)
abbrev s_Assembler_length : Stmt := (inClass (top 60) 4)
abbrev s_Assembler_lay_out : Stmt := (inClass (top 60) 5)
abbrev s_Assembler_number : Stmt := (inClass (top 60) 6)
abbrev s_Assembler_instruction : Stmt := (inClass (top 60) 7)
abbrev s_Assembler_line_words : Stmt := (inClass (top 60) 8)
abbrev s_assemble : Stmt := (top 61)
abbrev s__law_number : Stmt := (top 63)
abbrev s__law_forms : Stmt := (top 64)
abbrev s__law_any : Stmt := (top 65)
abbrev s__law_legal : Stmt := (top 66)
abbrev s__law_line : Stmt := (top 67)
abbrev s_law : Stmt := (top 68)
structure Tx (P : Program) (w : World) (K : PySem.W.Frag) (mg : Str → Option Value) : Prop where
  f_fits : ∃ fd, FunD K "fits" "fits" (defArgs s_fits) (defBody s_fits) (defScope s_fits) [] [] (He.ga K "fits") fd
  g_fits : mg "fits" = some (.ref (He.ga K "fits"))
  f_encode : ∃ fd, FunD K "encode" "encode" (defArgs s_encode) (defBody s_encode) (defScope s_encode) [] [] (He.ga K "encode") fd
  g_encode : mg "encode" = some (.ref (He.ga K "encode"))
  f_decode : ∃ fd, FunD K "decode" "decode" (defArgs s_decode) (defBody s_decode) (defScope s_decode) [] [] (He.ga K "decode") fd
  g_decode : mg "decode" = some (.ref (He.ga K "decode"))
  f_size_of : ∃ fd, FunD K "size_of" "size_of" (defArgs s_size_of) (defBody s_size_of) (defScope s_size_of) [] [] (He.ga K "size_of") fd
  g_size_of : mg "size_of" = some (.ref (He.ga K "size_of"))
  f_Line___init__ : ∃ fd, FunD K "__init__" "Line.__init__" (defArgs s_Line___init__) (defBody s_Line___init__) (defScope s_Line___init__) [] [] (He.ma K (He.ga K "Line") "__init__") fd
  k_Line : Mk K (He.ga K "Line") (He.ma K (He.ga K "Line") "__init__")
  m_Line___init__ : Meth K (He.ga K "Line") "__init__" (He.ma K (He.ga K "Line") "__init__")
  f_Tokens___init__ : ∃ fd, FunD K "__init__" "Tokens.__init__" (defArgs s_Tokens___init__) (defBody s_Tokens___init__) (defScope s_Tokens___init__) [] [] (He.ma K (He.ga K "Tokens") "__init__") fd
  k_Tokens : Mk K (He.ga K "Tokens") (He.ma K (He.ga K "Tokens") "__init__")
  m_Tokens___init__ : Meth K (He.ga K "Tokens") "__init__" (He.ma K (He.ga K "Tokens") "__init__")
  f_Tokens_kind : ∃ fd, FunD K "kind" "Tokens.kind" (defArgs s_Tokens_kind) (defBody s_Tokens_kind) (defScope s_Tokens_kind) [] [] (He.ma K (He.ga K "Tokens") "kind") fd
  m_Tokens_kind : Meth K (He.ga K "Tokens") "kind" (He.ma K (He.ga K "Tokens") "kind")
  f_Tokens_text : ∃ fd, FunD K "text" "Tokens.text" (defArgs s_Tokens_text) (defBody s_Tokens_text) (defScope s_Tokens_text) [] [] (He.ma K (He.ga K "Tokens") "text") fd
  m_Tokens_text : Meth K (He.ga K "Tokens") "text" (He.ma K (He.ga K "Tokens") "text")
  f_Tokens_column : ∃ fd, FunD K "column" "Tokens.column" (defArgs s_Tokens_column) (defBody s_Tokens_column) (defScope s_Tokens_column) [] [] (He.ma K (He.ga K "Tokens") "column") fd
  m_Tokens_column : Meth K (He.ga K "Tokens") "column" (He.ma K (He.ga K "Tokens") "column")
  f_Tokens_take : ∃ fd, FunD K "take" "Tokens.take" (defArgs s_Tokens_take) (defBody s_Tokens_take) (defScope s_Tokens_take) [] [] (He.ma K (He.ga K "Tokens") "take") fd
  m_Tokens_take : Meth K (He.ga K "Tokens") "take" (He.ma K (He.ga K "Tokens") "take")
  f_end_of : ∃ fd, FunD K "end_of" "end_of" (defArgs s_end_of) (defBody s_end_of) (defScope s_end_of) [] [] (He.ga K "end_of") fd
  g_end_of : mg "end_of" = some (.ref (He.ga K "end_of"))
  f_number_end : ∃ fd, FunD K "number_end" "number_end" (defArgs s_number_end) (defBody s_number_end) (defScope s_number_end) [] [] (He.ga K "number_end") fd
  g_number_end : mg "number_end" = some (.ref (He.ga K "number_end"))
  f_tokens_of : ∃ fd, FunD K "tokens_of" "tokens_of" (defArgs s_tokens_of) (defBody s_tokens_of) (defScope s_tokens_of) [] [] (He.ga K "tokens_of") fd
  g_tokens_of : mg "tokens_of" = some (.ref (He.ga K "tokens_of"))
  f_read_register : ∃ fd, FunD K "read_register" "read_register" (defArgs s_read_register) (defBody s_read_register) (defScope s_read_register) [] [] (He.ga K "read_register") fd
  g_read_register : mg "read_register" = some (.ref (He.ga K "read_register"))
  f_read_name : ∃ fd, FunD K "read_name" "read_name" (defArgs s_read_name) (defBody s_read_name) (defScope s_read_name) [] [] (He.ga K "read_name") fd
  g_read_name : mg "read_name" = some (.ref (He.ga K "read_name"))
  f_read_term : ∃ fd, FunD K "read_term" "read_term" (defArgs s_read_term) (defBody s_read_term) (defScope s_read_term) [] [] (He.ga K "read_term") fd
  g_read_term : mg "read_term" = some (.ref (He.ga K "read_term"))
  f_read_expression : ∃ fd, FunD K "read_expression" "read_expression" (defArgs s_read_expression) (defBody s_read_expression) (defScope s_read_expression) [] [] (He.ga K "read_expression") fd
  g_read_expression : mg "read_expression" = some (.ref (He.ga K "read_expression"))
  f_read_operand : ∃ fd, FunD K "read_operand" "read_operand" (defArgs s_read_operand) (defBody s_read_operand) (defScope s_read_operand) [] [] (He.ga K "read_operand") fd
  g_read_operand : mg "read_operand" = some (.ref (He.ga K "read_operand"))
  f_read_operands : ∃ fd, FunD K "read_operands" "read_operands" (defArgs s_read_operands) (defBody s_read_operands) (defScope s_read_operands) [] [] (He.ga K "read_operands") fd
  g_read_operands : mg "read_operands" = some (.ref (He.ga K "read_operands"))
  f_read_line : ∃ fd, FunD K "read_line" "read_line" (defArgs s_read_line) (defBody s_read_line) (defScope s_read_line) [] [] (He.ga K "read_line") fd
  g_read_line : mg "read_line" = some (.ref (He.ga K "read_line"))
  f_read_lines : ∃ fd, FunD K "read_lines" "read_lines" (defArgs s_read_lines) (defBody s_read_lines) (defScope s_read_lines) [] [] (He.ga K "read_lines") fd
  g_read_lines : mg "read_lines" = some (.ref (He.ga K "read_lines"))
  f_is_instruction : ∃ fd, FunD K "is_instruction" "is_instruction" (defArgs s_is_instruction) (defBody s_is_instruction) (defScope s_is_instruction) [] [] (He.ga K "is_instruction") fd
  g_is_instruction : mg "is_instruction" = some (.ref (He.ga K "is_instruction"))
  f_wrap : ∃ fd, FunD K "wrap" "wrap" (defArgs s_wrap) (defBody s_wrap) (defScope s_wrap) [] [] (He.ga K "wrap") fd
  g_wrap : mg "wrap" = some (.ref (He.ga K "wrap"))
  f_field_text : ∃ fd, FunD K "field_text" "field_text" (defArgs s_field_text) (defBody s_field_text) (defScope s_field_text) [] [] (He.ga K "field_text") fd
  g_field_text : mg "field_text" = some (.ref (He.ga K "field_text"))
  f_instruction_text : ∃ fd, FunD K "instruction_text" "instruction_text" (defArgs s_instruction_text) (defBody s_instruction_text) (defScope s_instruction_text) [] [] (He.ga K "instruction_text") fd
  g_instruction_text : mg "instruction_text" = some (.ref (He.ga K "instruction_text"))
  f_listing : ∃ fd, FunD K "listing" "listing" (defArgs s_listing) (defBody s_listing) (defScope s_listing) ([.int 0] : List V) [] (He.ga K "listing") fd
  g_listing : mg "listing" = some (.ref (He.ga K "listing"))
  f_Assembly___init__ : ∃ fd, FunD K "__init__" "Assembly.__init__" (defArgs s_Assembly___init__) (defBody s_Assembly___init__) (defScope s_Assembly___init__) [] [] (He.ma K (He.ga K "Assembly") "__init__") fd
  k_Assembly : Mk K (He.ga K "Assembly") (He.ma K (He.ga K "Assembly") "__init__")
  m_Assembly___init__ : Meth K (He.ga K "Assembly") "__init__" (He.ma K (He.ga K "Assembly") "__init__")
  f_Assembler___init__ : ∃ fd, FunD K "__init__" "Assembler.__init__" (defArgs s_Assembler___init__) (defBody s_Assembler___init__) (defScope s_Assembler___init__) [] [] (He.ma K (He.ga K "Assembler") "__init__") fd
  k_Assembler : Mk K (He.ga K "Assembler") (He.ma K (He.ga K "Assembler") "__init__")
  m_Assembler___init__ : Meth K (He.ga K "Assembler") "__init__" (He.ma K (He.ga K "Assembler") "__init__")
  f_Assembler_value : ∃ fd, FunD K "value" "Assembler.value" (defArgs s_Assembler_value) (defBody s_Assembler_value) (defScope s_Assembler_value) [] [] (He.ma K (He.ga K "Assembler") "value") fd
  m_Assembler_value : Meth K (He.ga K "Assembler") "value" (He.ma K (He.ga K "Assembler") "value")
  f_Assembler_within : ∃ fd, FunD K "within" "Assembler.within" (defArgs s_Assembler_within) (defBody s_Assembler_within) (defScope s_Assembler_within) [] [] (He.ma K (He.ga K "Assembler") "within") fd
  m_Assembler_within : Meth K (He.ga K "Assembler") "within" (He.ma K (He.ga K "Assembler") "within")
  f_Assembler_define : ∃ fd, FunD K "define" "Assembler.define" (defArgs s_Assembler_define) (defBody s_Assembler_define) (defScope s_Assembler_define) [] [] (He.ma K (He.ga K "Assembler") "define") fd
  m_Assembler_define : Meth K (He.ga K "Assembler") "define" (He.ma K (He.ga K "Assembler") "define")
  f_Assembler_length : ∃ fd, FunD K "length" "Assembler.length" (defArgs s_Assembler_length) (defBody s_Assembler_length) (defScope s_Assembler_length) [] [] (He.ma K (He.ga K "Assembler") "length") fd
  m_Assembler_length : Meth K (He.ga K "Assembler") "length" (He.ma K (He.ga K "Assembler") "length")
  f_Assembler_lay_out : ∃ fd, FunD K "lay_out" "Assembler.lay_out" (defArgs s_Assembler_lay_out) (defBody s_Assembler_lay_out) (defScope s_Assembler_lay_out) [] [] (He.ma K (He.ga K "Assembler") "lay_out") fd
  m_Assembler_lay_out : Meth K (He.ga K "Assembler") "lay_out" (He.ma K (He.ga K "Assembler") "lay_out")
  f_Assembler_number : ∃ fd, FunD K "number" "Assembler.number" (defArgs s_Assembler_number) (defBody s_Assembler_number) (defScope s_Assembler_number) [] [] (He.ma K (He.ga K "Assembler") "number") fd
  m_Assembler_number : Meth K (He.ga K "Assembler") "number" (He.ma K (He.ga K "Assembler") "number")
  f_Assembler_instruction : ∃ fd, FunD K "instruction" "Assembler.instruction" (defArgs s_Assembler_instruction) (defBody s_Assembler_instruction) (defScope s_Assembler_instruction) [] [] (He.ma K (He.ga K "Assembler") "instruction") fd
  m_Assembler_instruction : Meth K (He.ga K "Assembler") "instruction" (He.ma K (He.ga K "Assembler") "instruction")
  f_Assembler_line_words : ∃ fd, FunD K "line_words" "Assembler.line_words" (defArgs s_Assembler_line_words) (defBody s_Assembler_line_words) (defScope s_Assembler_line_words) [] [] (He.ma K (He.ga K "Assembler") "line_words") fd
  m_Assembler_line_words : Meth K (He.ga K "Assembler") "line_words" (He.ma K (He.ga K "Assembler") "line_words")
  f_assemble : ∃ fd, FunD K "assemble" "assemble" (defArgs s_assemble) (defBody s_assemble) (defScope s_assemble) ([.int 0] : List V) [] (He.ga K "assemble") fd
  g_assemble : mg "assemble" = some (.ref (He.ga K "assemble"))
  f__law_number : ∃ fd, FunD K "_law_number" "_law_number" (defArgs s__law_number) (defBody s__law_number) (defScope s__law_number) [] [] (He.ga K "_law_number") fd
  g__law_number : mg "_law_number" = some (.ref (He.ga K "_law_number"))
  f__law_forms : ∃ fd, FunD K "_law_forms" "_law_forms" (defArgs s__law_forms) (defBody s__law_forms) (defScope s__law_forms) [] [] (He.ga K "_law_forms") fd
  g__law_forms : mg "_law_forms" = some (.ref (He.ga K "_law_forms"))
  f__law_any : ∃ fd, FunD K "_law_any" "_law_any" (defArgs s__law_any) (defBody s__law_any) (defScope s__law_any) [] [] (He.ga K "_law_any") fd
  g__law_any : mg "_law_any" = some (.ref (He.ga K "_law_any"))
  f__law_legal : ∃ fd, FunD K "_law_legal" "_law_legal" (defArgs s__law_legal) (defBody s__law_legal) (defScope s__law_legal) [] [] (He.ga K "_law_legal") fd
  g__law_legal : mg "_law_legal" = some (.ref (He.ga K "_law_legal"))
  f__law_line : ∃ fd, FunD K "_law_line" "_law_line" (defArgs s__law_line) (defBody s__law_line) (defScope s__law_line) [] [] (He.ga K "_law_line") fd
  g__law_line : mg "_law_line" = some (.ref (He.ga K "_law_line"))
  f_law : ∃ fd, FunD K "law" "law" (defArgs s_law) (defBody s_law) (defScope s_law) [] [] (He.ga K "law") fd
  g_law : mg "law" = some (.ref (He.ga K "law"))
  g_MerestoneError : mg "MerestoneError" = some (.ref (He.ga K "MerestoneError"))
  g_Malformed : mg "Malformed" = some (.ref (He.ga K "Malformed"))
  e_Malformed : XM.ExcOk P K (He.ga K "Malformed") (He.ma K (He.ga K "Malformed") "__init__") "Malformed.__init__" (defArgs s_Malformed___init__) (defBody s_Malformed___init__) (defScope s_Malformed___init__) ["line", "column"]
  x_Malformed : XfC K (He.ga K "Malformed")
  i_Malformed : ExcC K (He.ga K "Malformed")
  nf_Malformed_line : PySem.W.findIn K (.ref (He.ga K "Malformed")) "line" = some none
  nf_Malformed_column : PySem.W.findIn K (.ref (He.ga K "Malformed")) "column" = some none
  exm_Malformed_Malformed : PySem.W.exmOne K (.ref (He.ga K "Malformed")) (.ref (He.ga K "Malformed")) = some true
  g_Unknown : mg "Unknown" = some (.ref (He.ga K "Unknown"))
  e_Unknown : XM.ExcOk P K (He.ga K "Unknown") (He.ma K (He.ga K "Unknown") "__init__") "Unknown.__init__" (defArgs s_Unknown___init__) (defBody s_Unknown___init__) (defScope s_Unknown___init__) ["name", "line", "column"]
  x_Unknown : XfC K (He.ga K "Unknown")
  i_Unknown : ExcC K (He.ga K "Unknown")
  nf_Unknown_name : PySem.W.findIn K (.ref (He.ga K "Unknown")) "name" = some none
  nf_Unknown_line : PySem.W.findIn K (.ref (He.ga K "Unknown")) "line" = some none
  nf_Unknown_column : PySem.W.findIn K (.ref (He.ga K "Unknown")) "column" = some none
  exm_Unknown_Unknown : PySem.W.exmOne K (.ref (He.ga K "Unknown")) (.ref (He.ga K "Unknown")) = some true
  g_Twice : mg "Twice" = some (.ref (He.ga K "Twice"))
  e_Twice : XM.ExcOk P K (He.ga K "Twice") (He.ma K (He.ga K "Twice") "__init__") "Twice.__init__" (defArgs s_Twice___init__) (defBody s_Twice___init__) (defScope s_Twice___init__) ["name", "line", "column"]
  x_Twice : XfC K (He.ga K "Twice")
  i_Twice : ExcC K (He.ga K "Twice")
  nf_Twice_name : PySem.W.findIn K (.ref (He.ga K "Twice")) "name" = some none
  nf_Twice_line : PySem.W.findIn K (.ref (He.ga K "Twice")) "line" = some none
  nf_Twice_column : PySem.W.findIn K (.ref (He.ga K "Twice")) "column" = some none
  exm_Twice_Twice : PySem.W.exmOne K (.ref (He.ga K "Twice")) (.ref (He.ga K "Twice")) = some true
  g_OutOfRange : mg "OutOfRange" = some (.ref (He.ga K "OutOfRange"))
  e_OutOfRange : XM.ExcOk P K (He.ga K "OutOfRange") (He.ma K (He.ga K "OutOfRange") "__init__") "OutOfRange.__init__" (defArgs s_OutOfRange___init__) (defBody s_OutOfRange___init__) (defScope s_OutOfRange___init__) ["line", "column"]
  x_OutOfRange : XfC K (He.ga K "OutOfRange")
  i_OutOfRange : ExcC K (He.ga K "OutOfRange")
  nf_OutOfRange_line : PySem.W.findIn K (.ref (He.ga K "OutOfRange")) "line" = some none
  nf_OutOfRange_column : PySem.W.findIn K (.ref (He.ga K "OutOfRange")) "column" = some none
  exm_OutOfRange_OutOfRange : PySem.W.exmOne K (.ref (He.ga K "OutOfRange")) (.ref (He.ga K "OutOfRange")) = some true
  g_TooLarge : mg "TooLarge" = some (.ref (He.ga K "TooLarge"))
  e_TooLarge : XM.ExcOk P K (He.ga K "TooLarge") (He.ma K (He.ga K "TooLarge") "__init__") "TooLarge.__init__" (defArgs s_TooLarge___init__) (defBody s_TooLarge___init__) (defScope s_TooLarge___init__) ["limit"]
  x_TooLarge : XfC K (He.ga K "TooLarge")
  i_TooLarge : ExcC K (He.ga K "TooLarge")
  nf_TooLarge_limit : PySem.W.findIn K (.ref (He.ga K "TooLarge")) "limit" = some none
  exm_TooLarge_TooLarge : PySem.W.exmOne K (.ref (He.ga K "TooLarge")) (.ref (He.ga K "TooLarge")) = some true
  g_BadCode : mg "BadCode" = some (.ref (He.ga K "BadCode"))
  e_BadCode : XM.ExcOk P K (He.ga K "BadCode") (He.ma K (He.ga K "BadCode") "__init__") "BadCode.__init__" (defArgs s_BadCode___init__) (defBody s_BadCode___init__) (defScope s_BadCode___init__) ["op", "a", "b", "c"]
  x_BadCode : XfC K (He.ga K "BadCode")
  i_BadCode : ExcC K (He.ga K "BadCode")
  nf_BadCode_op : PySem.W.findIn K (.ref (He.ga K "BadCode")) "op" = some none
  nf_BadCode_a : PySem.W.findIn K (.ref (He.ga K "BadCode")) "a" = some none
  nf_BadCode_b : PySem.W.findIn K (.ref (He.ga K "BadCode")) "b" = some none
  nf_BadCode_c : PySem.W.findIn K (.ref (He.ga K "BadCode")) "c" = some none
  exm_BadCode_BadCode : PySem.W.exmOne K (.ref (He.ga K "BadCode")) (.ref (He.ga K "BadCode")) = some true
  c_Line : Cls K (He.ga K "Line")
  g_Line : mg "Line" = some (.ref (He.ga K "Line"))
  n_Line_number : NoAttr K (He.ga K "Line") "number"
  n_Line_label : NoAttr K (He.ga K "Line") "label"
  n_Line_op : NoAttr K (He.ga K "Line") "op"
  n_Line_operands : NoAttr K (He.ga K "Line") "operands"
  c_Tokens : Cls K (He.ga K "Tokens")
  g_Tokens : mg "Tokens" = some (.ref (He.ga K "Tokens"))
  n_Tokens_number : NoAttr K (He.ga K "Tokens") "number"
  n_Tokens_tokens : NoAttr K (He.ga K "Tokens") "tokens"
  n_Tokens_at : NoAttr K (He.ga K "Tokens") "at"
  c_Assembly : Cls K (He.ga K "Assembly")
  g_Assembly : mg "Assembly" = some (.ref (He.ga K "Assembly"))
  n_Assembly_words : NoAttr K (He.ga K "Assembly") "words"
  n_Assembly_names : NoAttr K (He.ga K "Assembly") "names"
  c_Assembler : Cls K (He.ga K "Assembler")
  g_Assembler : mg "Assembler" = some (.ref (He.ga K "Assembler"))
  n_Assembler_base : NoAttr K (He.ga K "Assembler") "base"
  n_Assembler_names : NoAttr K (He.ga K "Assembler") "names"
  n_Assembler_words : NoAttr K (He.ga K "Assembler") "words"
  g_OPS : ∃ u, mg "OPS" = some u ∧ RelV (.ref (He.ga K "OPS")) u
  q_OPS : ∀ H, SqT K H (He.ga K "OPS") [.str "halt", .str "set", .str "copy", .str "add", .str "sub", .str "mul", .str "and", .str "or", .str "xor", .str "shl", .str "shr", .str "addi", .str "load", .str "store", .str "jump", .str "jal", .str "beq", .str "bne", .str "blt", .str "call", .str "getu", .str "putu", .str "gets", .str "puts", .str "until", .str "rest"]
  o_OPS : ∃ o, K.lookup (He.ga K "OPS") = some o ∧ o.cls = .type "tuple" ∧ o.dict = none
  g_NONE : ∃ u, mg "NONE" = some u ∧ RelV (.ref (He.ga K "NONE")) u
  q_NONE : ∀ H, SqT K H (He.ga K "NONE") [.str "halt", .str "until", .str "rest"]
  g_ONE : ∃ u, mg "ONE" = some u ∧ RelV (.ref (He.ga K "ONE")) u
  q_ONE : ∀ H, SqT K H (He.ga K "ONE") [.str "set", .str "jump"]
  g_TWO : ∃ u, mg "TWO" = some u ∧ RelV (.ref (He.ga K "TWO")) u
  q_TWO : ∀ H, SqT K H (He.ga K "TWO") [.str "copy", .str "jal", .str "getu", .str "putu"]
  g_THREE : ∃ u, mg "THREE" = some u ∧ RelV (.ref (He.ga K "THREE")) u
  q_THREE : ∀ H, SqT K H (He.ga K "THREE") [.str "add", .str "sub", .str "mul", .str "and", .str "or", .str "xor"]
  g_READABLE : ∃ u, mg "READABLE" = some u ∧ RelV (.int 7) u
  g_WRITABLE : ∃ u, mg "WRITABLE" = some u ∧ RelV (.int 5) u
  g_LETTERS : ∃ u, mg "LETTERS" = some u ∧ RelV (.str "ABCDEFGHIJKLMNOPQRSTUVWXYZabcdefghijklmnopqrstuvwxyz") u
  g_DIGITS : ∃ u, mg "DIGITS" = some u ∧ RelV (.str "0123456789") u
  g_MARKS : ∃ u, mg "MARKS" = some u ∧ RelV (.str ",:+-") u
  g_REGISTERS : ∃ u, mg "REGISTERS" = some u ∧ RelV (.ref (He.ga K "REGISTERS")) u
  q_REGISTERS : ∀ H, SqT K H (He.ga K "REGISTERS") [.str "r0", .str "r1", .str "r2", .str "r3", .str "r4", .str "r5", .str "r6", .str "r7"]
  o_REGISTERS : ∃ o, K.lookup (He.ga K "REGISTERS") = some o ∧ o.cls = .type "tuple" ∧ o.dict = none
  g_MOST_NAME : ∃ u, mg "MOST_NAME" = some u ∧ RelV (.int 24) u
  g_MOST_DIGITS : ∃ u, mg "MOST_DIGITS" = some u ∧ RelV (.int 5) u
  g_GREATEST : ∃ u, mg "GREATEST" = some u ∧ RelV (.int 65535) u
  g_FORMS : ∃ u, mg "FORMS" = some u ∧ RelV (.ref (He.ga K "FORMS")) u
  t_FORMS : ∃ es n, KDict K w (He.ga K "FORMS") es n
  v_FORMS : He.valsB K (He.ga K "FORMS") [("halt", .str ""), ("until", .str ""), ("rest", .str ""), ("page", .str ""), ("set", .str "re"), ("copy", .str "rr"), ("add", .str "rrr"), ("sub", .str "rrr"), ("mul", .str "rrr"), ("and", .str "rrr"), ("or", .str "rrr"), ("xor", .str "rrr"), ("shl", .str "rre"), ("shr", .str "rre"), ("addi", .str "rre"), ("load", .str "rre"), ("store", .str "rre"), ("jump", .str "r"), ("jal", .str "rr"), ("beq", .str "rre"), ("bne", .str "rre"), ("blt", .str "rre"), ("call", .str "e"), ("getu", .str "rr"), ("putu", .str "rr"), ("gets", .str "re"), ("puts", .str "re"), ("space", .str "e"), ("equ", .str "ne")] = true
  g_LIST : ∃ u, mg "LIST" = some u ∧ RelV (.str "word") u
  g_MODULUS : ∃ u, mg "MODULUS" = some u ∧ RelV (.int 65536) u
  g_BRANCHES_listing : ∃ u, mg "BRANCHES_listing" = some u ∧ RelV (.ref (He.ga K "BRANCHES_listing")) u
  q_BRANCHES_listing : ∀ H, SqT K H (He.ga K "BRANCHES_listing") [.str "beq", .str "bne", .str "blt"]
  g_MOST : ∃ u, mg "MOST" = some u ∧ RelV (.int 65536) u
  g_LEAST : ∃ u, mg "LEAST" = some u ∧ RelV (.int (-32768)) u
  g_PAGE : ∃ u, mg "PAGE" = some u ∧ RelV (.int 16) u
  g_FIELD : ∃ u, mg "FIELD" = some u ∧ RelV (.int 16) u
  g_BRANCHES_assembling : ∃ u, mg "BRANCHES_assembling" = some u ∧ RelV (.ref (He.ga K "BRANCHES_assembling")) u
  q_BRANCHES_assembling : ∀ H, SqT K H (He.ga K "BRANCHES_assembling") [.str "beq", .str "bne", .str "blt"]
  g_LIMITS : ∃ u, mg "LIMITS" = some u ∧ RelV (.ref (He.ga K "LIMITS")) u
  t_LIMITS : ∃ es n, KDict K w (He.ga K "LIMITS") es n
  b_int : mg "int" = none
  b_str : mg "str" = none
  b_len : mg "len" = none
  b_range : mg "range" = none
  b_min : mg "min" = none
  b_list : mg "list" = none
  b_dict : mg "dict" = none
  b_ValueError : mg "ValueError" = none
  b_super : mg "super" = none
  l_LIMITS : M.LimT K (He.ga K "LIMITS") [("shl", 0, 15), ("shr", 0, 15), ("addi", -8, 7), ("load", 0, 15), ("store", 0, 15), ("call", 0, 15), ("gets", 0, 6), ("puts", 0, 4)]
end
section
def fnD0 : He.DefD := ⟨("fits", none), "fits", "fits", defArgs s_fits, defBody s_fits, defScope s_fits, [], []⟩
def fnD1 : He.DefD := ⟨("encode", none), "encode", "encode", defArgs s_encode, defBody s_encode, defScope s_encode, [], []⟩
def fnD2 : He.DefD := ⟨("decode", none), "decode", "decode", defArgs s_decode, defBody s_decode, defScope s_decode, [], []⟩
def fnD3 : He.DefD := ⟨("size_of", none), "size_of", "size_of", defArgs s_size_of, defBody s_size_of, defScope s_size_of, [], []⟩
def fnD4 : He.DefD := ⟨("Line", some "__init__"), "__init__", "Line.__init__", defArgs s_Line___init__, defBody s_Line___init__, defScope s_Line___init__, [], []⟩
def fnD5 : He.DefD := ⟨("Tokens", some "__init__"), "__init__", "Tokens.__init__", defArgs s_Tokens___init__, defBody s_Tokens___init__, defScope s_Tokens___init__, [], []⟩
def fnD6 : He.DefD := ⟨("Tokens", some "kind"), "kind", "Tokens.kind", defArgs s_Tokens_kind, defBody s_Tokens_kind, defScope s_Tokens_kind, [], []⟩
def fnD7 : He.DefD := ⟨("Tokens", some "text"), "text", "Tokens.text", defArgs s_Tokens_text, defBody s_Tokens_text, defScope s_Tokens_text, [], []⟩
def fnD8 : He.DefD := ⟨("Tokens", some "column"), "column", "Tokens.column", defArgs s_Tokens_column, defBody s_Tokens_column, defScope s_Tokens_column, [], []⟩
def fnD9 : He.DefD := ⟨("Tokens", some "take"), "take", "Tokens.take", defArgs s_Tokens_take, defBody s_Tokens_take, defScope s_Tokens_take, [], []⟩
def fnD10 : He.DefD := ⟨("end_of", none), "end_of", "end_of", defArgs s_end_of, defBody s_end_of, defScope s_end_of, [], []⟩
def fnD11 : He.DefD := ⟨("number_end", none), "number_end", "number_end", defArgs s_number_end, defBody s_number_end, defScope s_number_end, [], []⟩
def fnD12 : He.DefD := ⟨("tokens_of", none), "tokens_of", "tokens_of", defArgs s_tokens_of, defBody s_tokens_of, defScope s_tokens_of, [], []⟩
def fnD13 : He.DefD := ⟨("read_register", none), "read_register", "read_register", defArgs s_read_register, defBody s_read_register, defScope s_read_register, [], []⟩
def fnD14 : He.DefD := ⟨("read_name", none), "read_name", "read_name", defArgs s_read_name, defBody s_read_name, defScope s_read_name, [], []⟩
def fnD15 : He.DefD := ⟨("read_term", none), "read_term", "read_term", defArgs s_read_term, defBody s_read_term, defScope s_read_term, [], []⟩
def fnD16 : He.DefD := ⟨("read_expression", none), "read_expression", "read_expression", defArgs s_read_expression, defBody s_read_expression, defScope s_read_expression, [], []⟩
def fnD17 : He.DefD := ⟨("read_operand", none), "read_operand", "read_operand", defArgs s_read_operand, defBody s_read_operand, defScope s_read_operand, [], []⟩
def fnD18 : He.DefD := ⟨("read_operands", none), "read_operands", "read_operands", defArgs s_read_operands, defBody s_read_operands, defScope s_read_operands, [], []⟩
def fnD19 : He.DefD := ⟨("read_line", none), "read_line", "read_line", defArgs s_read_line, defBody s_read_line, defScope s_read_line, [], []⟩
def fnD20 : He.DefD := ⟨("read_lines", none), "read_lines", "read_lines", defArgs s_read_lines, defBody s_read_lines, defScope s_read_lines, [], []⟩
def fnD21 : He.DefD := ⟨("is_instruction", none), "is_instruction", "is_instruction", defArgs s_is_instruction, defBody s_is_instruction, defScope s_is_instruction, [], []⟩
def fnD22 : He.DefD := ⟨("wrap", none), "wrap", "wrap", defArgs s_wrap, defBody s_wrap, defScope s_wrap, [], []⟩
def fnD23 : He.DefD := ⟨("field_text", none), "field_text", "field_text", defArgs s_field_text, defBody s_field_text, defScope s_field_text, [], []⟩
def fnD24 : He.DefD := ⟨("instruction_text", none), "instruction_text", "instruction_text", defArgs s_instruction_text, defBody s_instruction_text, defScope s_instruction_text, [], []⟩
def fnD25 : He.DefD := ⟨("listing", none), "listing", "listing", defArgs s_listing, defBody s_listing, defScope s_listing, [.int 0], []⟩
def fnD26 : He.DefD := ⟨("Assembly", some "__init__"), "__init__", "Assembly.__init__", defArgs s_Assembly___init__, defBody s_Assembly___init__, defScope s_Assembly___init__, [], []⟩
def fnD27 : He.DefD := ⟨("Assembler", some "__init__"), "__init__", "Assembler.__init__", defArgs s_Assembler___init__, defBody s_Assembler___init__, defScope s_Assembler___init__, [], []⟩
def fnD28 : He.DefD := ⟨("Assembler", some "value"), "value", "Assembler.value", defArgs s_Assembler_value, defBody s_Assembler_value, defScope s_Assembler_value, [], []⟩
def fnD29 : He.DefD := ⟨("Assembler", some "within"), "within", "Assembler.within", defArgs s_Assembler_within, defBody s_Assembler_within, defScope s_Assembler_within, [], []⟩
def fnD30 : He.DefD := ⟨("Assembler", some "define"), "define", "Assembler.define", defArgs s_Assembler_define, defBody s_Assembler_define, defScope s_Assembler_define, [], []⟩
def fnD31 : He.DefD := ⟨("Assembler", some "length"), "length", "Assembler.length", defArgs s_Assembler_length, defBody s_Assembler_length, defScope s_Assembler_length, [], []⟩
def fnD32 : He.DefD := ⟨("Assembler", some "lay_out"), "lay_out", "Assembler.lay_out", defArgs s_Assembler_lay_out, defBody s_Assembler_lay_out, defScope s_Assembler_lay_out, [], []⟩
def fnD33 : He.DefD := ⟨("Assembler", some "number"), "number", "Assembler.number", defArgs s_Assembler_number, defBody s_Assembler_number, defScope s_Assembler_number, [], []⟩
def fnD34 : He.DefD := ⟨("Assembler", some "instruction"), "instruction", "Assembler.instruction", defArgs s_Assembler_instruction, defBody s_Assembler_instruction, defScope s_Assembler_instruction, [], []⟩
def fnD35 : He.DefD := ⟨("Assembler", some "line_words"), "line_words", "Assembler.line_words", defArgs s_Assembler_line_words, defBody s_Assembler_line_words, defScope s_Assembler_line_words, [], []⟩
def fnD36 : He.DefD := ⟨("assemble", none), "assemble", "assemble", defArgs s_assemble, defBody s_assemble, defScope s_assemble, [.int 0], []⟩
def fnD37 : He.DefD := ⟨("_law_number", none), "_law_number", "_law_number", defArgs s__law_number, defBody s__law_number, defScope s__law_number, [], []⟩
def fnD38 : He.DefD := ⟨("_law_forms", none), "_law_forms", "_law_forms", defArgs s__law_forms, defBody s__law_forms, defScope s__law_forms, [], []⟩
def fnD39 : He.DefD := ⟨("_law_any", none), "_law_any", "_law_any", defArgs s__law_any, defBody s__law_any, defScope s__law_any, [], []⟩
def fnD40 : He.DefD := ⟨("_law_legal", none), "_law_legal", "_law_legal", defArgs s__law_legal, defBody s__law_legal, defScope s__law_legal, [], []⟩
def fnD41 : He.DefD := ⟨("_law_line", none), "_law_line", "_law_line", defArgs s__law_line, defBody s__law_line, defScope s__law_line, [], []⟩
def fnD42 : He.DefD := ⟨("law", none), "law", "law", defArgs s_law, defBody s_law, defScope s_law, [], []⟩
def fn : List He.DefD := [fnD0, fnD1, fnD2, fnD3, fnD4, fnD5, fnD6, fnD7, fnD8, fnD9, fnD10, fnD11, fnD12, fnD13, fnD14, fnD15, fnD16, fnD17, fnD18, fnD19, fnD20, fnD21, fnD22, fnD23, fnD24, fnD25, fnD26, fnD27, fnD28, fnD29, fnD30, fnD31, fnD32, fnD33, fnD34, fnD35, fnD36, fnD37, fnD38, fnD39, fnD40, fnD41, fnD42]
def fa : List He.Fa := [.glo "fits",
  .glo "encode",
  .glo "decode",
  .glo "size_of",
  .mkr "Line",
  .meth "Line" "__init__",
  .mkr "Tokens",
  .meth "Tokens" "__init__",
  .meth "Tokens" "kind",
  .meth "Tokens" "text",
  .meth "Tokens" "column",
  .meth "Tokens" "take",
  .glo "end_of",
  .glo "number_end",
  .glo "tokens_of",
  .glo "read_register",
  .glo "read_name",
  .glo "read_term",
  .glo "read_expression",
  .glo "read_operand",
  .glo "read_operands",
  .glo "read_line",
  .glo "read_lines",
  .glo "is_instruction",
  .glo "wrap",
  .glo "field_text",
  .glo "instruction_text",
  .glo "listing",
  .mkr "Assembly",
  .meth "Assembly" "__init__",
  .mkr "Assembler",
  .meth "Assembler" "__init__",
  .meth "Assembler" "value",
  .meth "Assembler" "within",
  .meth "Assembler" "define",
  .meth "Assembler" "length",
  .meth "Assembler" "lay_out",
  .meth "Assembler" "number",
  .meth "Assembler" "instruction",
  .meth "Assembler" "line_words",
  .glo "assemble",
  .glo "_law_number",
  .glo "_law_forms",
  .glo "_law_any",
  .glo "_law_legal",
  .glo "_law_line",
  .glo "law",
  .glo "MerestoneError",
  .glo "Malformed",
  .glo "Unknown",
  .glo "Twice",
  .glo "OutOfRange",
  .glo "TooLarge",
  .glo "BadCode",
  .cls "Line",
  .glo "Line",
  .noat "Line" "number",
  .noat "Line" "label",
  .noat "Line" "op",
  .noat "Line" "operands",
  .cls "Tokens",
  .glo "Tokens",
  .noat "Tokens" "number",
  .noat "Tokens" "tokens",
  .noat "Tokens" "at",
  .cls "Assembly",
  .glo "Assembly",
  .noat "Assembly" "words",
  .noat "Assembly" "names",
  .cls "Assembler",
  .glo "Assembler",
  .noat "Assembler" "base",
  .noat "Assembler" "names",
  .noat "Assembler" "words",
  .glo "OPS",
  .glo "NONE",
  .glo "ONE",
  .glo "TWO",
  .glo "THREE",
  .int "READABLE" 7,
  .int "WRITABLE" 5,
  .str "LETTERS" "ABCDEFGHIJKLMNOPQRSTUVWXYZabcdefghijklmnopqrstuvwxyz",
  .str "DIGITS" "0123456789",
  .str "MARKS" ",:+-",
  .glo "REGISTERS",
  .int "MOST_NAME" 24,
  .int "MOST_DIGITS" 5,
  .int "GREATEST" 65535,
  .glo "FORMS",
  .str "LIST" "word",
  .int "MODULUS" 65536,
  .glo "BRANCHES_listing",
  .int "MOST" 65536,
  .int "LEAST" (-32768),
  .int "PAGE" 16,
  .int "FIELD" 16,
  .glo "BRANCHES_assembling",
  .glo "LIMITS",
  .free "int",
  .free "str",
  .free "len",
  .free "range",
  .free "min",
  .free "list",
  .free "dict",
  .free "ValueError",
  .free "super"]
abbrev R : PySem.W.OpenRow := PySem.W.OpenLaw.row PySem.Challenge.rw_merestone_k15_listings_read_back
def exs : List (PySem.W.Frag → Bool) := [fun K => XH.excB R.prog.main.file "Malformed" "Malformed.__init__" ["line", "column"] K,
  fun K => L2.xfB K (He.ga K "Malformed"),
  fun K => XH.excCB K (He.ga K "Malformed"),
  fun K => decide (PySem.W.findIn K (.ref (He.ga K "Malformed")) "line" = some none),
  fun K => decide (PySem.W.findIn K (.ref (He.ga K "Malformed")) "column" = some none),
  fun K => decide (PySem.W.exmOne K (.ref (He.ga K "Malformed")) (.ref (He.ga K "Malformed")) = some true),
  fun K => XH.excB R.prog.main.file "Unknown" "Unknown.__init__" ["name", "line", "column"] K,
  fun K => L2.xfB K (He.ga K "Unknown"),
  fun K => XH.excCB K (He.ga K "Unknown"),
  fun K => decide (PySem.W.findIn K (.ref (He.ga K "Unknown")) "name" = some none),
  fun K => decide (PySem.W.findIn K (.ref (He.ga K "Unknown")) "line" = some none),
  fun K => decide (PySem.W.findIn K (.ref (He.ga K "Unknown")) "column" = some none),
  fun K => decide (PySem.W.exmOne K (.ref (He.ga K "Unknown")) (.ref (He.ga K "Unknown")) = some true),
  fun K => XH.excB R.prog.main.file "Twice" "Twice.__init__" ["name", "line", "column"] K,
  fun K => L2.xfB K (He.ga K "Twice"),
  fun K => XH.excCB K (He.ga K "Twice"),
  fun K => decide (PySem.W.findIn K (.ref (He.ga K "Twice")) "name" = some none),
  fun K => decide (PySem.W.findIn K (.ref (He.ga K "Twice")) "line" = some none),
  fun K => decide (PySem.W.findIn K (.ref (He.ga K "Twice")) "column" = some none),
  fun K => decide (PySem.W.exmOne K (.ref (He.ga K "Twice")) (.ref (He.ga K "Twice")) = some true),
  fun K => XH.excB R.prog.main.file "OutOfRange" "OutOfRange.__init__" ["line", "column"] K,
  fun K => L2.xfB K (He.ga K "OutOfRange"),
  fun K => XH.excCB K (He.ga K "OutOfRange"),
  fun K => decide (PySem.W.findIn K (.ref (He.ga K "OutOfRange")) "line" = some none),
  fun K => decide (PySem.W.findIn K (.ref (He.ga K "OutOfRange")) "column" = some none),
  fun K => decide (PySem.W.exmOne K (.ref (He.ga K "OutOfRange")) (.ref (He.ga K "OutOfRange")) = some true),
  fun K => XH.excB R.prog.main.file "TooLarge" "TooLarge.__init__" ["limit"] K,
  fun K => L2.xfB K (He.ga K "TooLarge"),
  fun K => XH.excCB K (He.ga K "TooLarge"),
  fun K => decide (PySem.W.findIn K (.ref (He.ga K "TooLarge")) "limit" = some none),
  fun K => decide (PySem.W.exmOne K (.ref (He.ga K "TooLarge")) (.ref (He.ga K "TooLarge")) = some true),
  fun K => XH.excB R.prog.main.file "BadCode" "BadCode.__init__" ["op", "a", "b", "c"] K,
  fun K => L2.xfB K (He.ga K "BadCode"),
  fun K => XH.excCB K (He.ga K "BadCode"),
  fun K => decide (PySem.W.findIn K (.ref (He.ga K "BadCode")) "op" = some none),
  fun K => decide (PySem.W.findIn K (.ref (He.ga K "BadCode")) "a" = some none),
  fun K => decide (PySem.W.findIn K (.ref (He.ga K "BadCode")) "b" = some none),
  fun K => decide (PySem.W.findIn K (.ref (He.ga K "BadCode")) "c" = some none),
  fun K => decide (PySem.W.exmOne K (.ref (He.ga K "BadCode")) (.ref (He.ga K "BadCode")) = some true),
  fun K => He.tupB K "OPS" [.str "halt", .str "set", .str "copy", .str "add", .str "sub", .str "mul", .str "and", .str "or", .str "xor", .str "shl", .str "shr", .str "addi", .str "load", .str "store", .str "jump", .str "jal", .str "beq", .str "bne", .str "blt", .str "call", .str "getu", .str "putu", .str "gets", .str "puts", .str "until", .str "rest"],
  fun K => XH.tupOB K (He.ga K "OPS"),
  fun K => He.tupB K "NONE" [.str "halt", .str "until", .str "rest"],
  fun K => He.tupB K "ONE" [.str "set", .str "jump"],
  fun K => He.tupB K "TWO" [.str "copy", .str "jal", .str "getu", .str "putu"],
  fun K => He.tupB K "THREE" [.str "add", .str "sub", .str "mul", .str "and", .str "or", .str "xor"],
  fun K => He.tupB K "REGISTERS" [.str "r0", .str "r1", .str "r2", .str "r3", .str "r4", .str "r5", .str "r6", .str "r7"],
  fun K => XH.tupOB K (He.ga K "REGISTERS"),
  fun K => He.valsB K (He.ga K "FORMS") [("halt", .str ""), ("until", .str ""), ("rest", .str ""), ("page", .str ""), ("set", .str "re"), ("copy", .str "rr"), ("add", .str "rrr"), ("sub", .str "rrr"), ("mul", .str "rrr"), ("and", .str "rrr"), ("or", .str "rrr"), ("xor", .str "rrr"), ("shl", .str "rre"), ("shr", .str "rre"), ("addi", .str "rre"), ("load", .str "rre"), ("store", .str "rre"), ("jump", .str "r"), ("jal", .str "rr"), ("beq", .str "rre"), ("bne", .str "rre"), ("blt", .str "rre"), ("call", .str "e"), ("getu", .str "rr"), ("putu", .str "rr"), ("gets", .str "re"), ("puts", .str "re"), ("space", .str "e"), ("equ", .str "ne")],
  fun K => He.tupB K "BRANCHES_listing" [.str "beq", .str "bne", .str "blt"],
  fun K => He.tupB K "BRANCHES_assembling" [.str "beq", .str "bne", .str "blt"],
  fun K => M.limB K (He.ga K "LIMITS") [("shl", 0, 15), ("shr", 0, 15), ("addi", -8, 7), ("load", 0, 15), ("store", 0, 15), ("call", 0, 15), ("gets", 0, 6), ("puts", 0, 4)]]
def ex (K : PySem.W.Frag) : Bool := exs.all fun f => f K
def tsT0 : He.Tab := (fun K => He.ga K "FORMS", ["halt", "until", "rest", "page", "set", "copy", "add", "sub", "mul", "and", "or", "xor", "shl", "shr", "addi", "load", "store", "jump", "jal", "beq", "bne", "blt", "call", "getu", "putu", "gets", "puts", "space", "equ"])
def tsT1 : He.Tab := (fun K => He.ga K "LIMITS", ["shl", "shr", "addi", "load", "store", "call", "gets", "puts"])
def ts : List He.Tab := [tsT0, tsT1]
def names : List Str := (["MerestoneError", "Malformed", "Unknown", "Twice", "OutOfRange", "TooLarge", "BadCode", "OPS", "NONE", "ONE", "TWO", "THREE", "READABLE", "WRITABLE", "fits", "encode", "decode", "size_of", "LETTERS", "DIGITS", "MARKS", "REGISTERS", "MOST_NAME", "MOST_DIGITS", "GREATEST", "FORMS", "LIST", "Line", "Tokens", "end_of"] : List Str) ++ (["number_end", "tokens_of", "read_register", "read_name", "read_term", "read_expression", "read_operand", "read_operands", "read_line", "read_lines", "is_instruction", "MODULUS", "wrap", "BRANCHES_listing", "field_text", "instruction_text", "listing", "MOST", "LEAST", "PAGE", "FIELD", "BRANCHES_assembling", "LIMITS", "Assembly", "Assembler", "assemble", "_law_number", "_law_forms", "_law_any", "_law_legal"] : List Str) ++ (["_law_line"] : List Str)
def fiD0 : XH.IniD := ⟨("Malformed", some "__init__"), "Malformed.__init__", defArgs s_Malformed___init__, defBody s_Malformed___init__, defScope s_Malformed___init__⟩
def fiD1 : XH.IniD := ⟨("Unknown", some "__init__"), "Unknown.__init__", defArgs s_Unknown___init__, defBody s_Unknown___init__, defScope s_Unknown___init__⟩
def fiD2 : XH.IniD := ⟨("Twice", some "__init__"), "Twice.__init__", defArgs s_Twice___init__, defBody s_Twice___init__, defScope s_Twice___init__⟩
def fiD3 : XH.IniD := ⟨("OutOfRange", some "__init__"), "OutOfRange.__init__", defArgs s_OutOfRange___init__, defBody s_OutOfRange___init__, defScope s_OutOfRange___init__⟩
def fiD4 : XH.IniD := ⟨("TooLarge", some "__init__"), "TooLarge.__init__", defArgs s_TooLarge___init__, defBody s_TooLarge___init__, defScope s_TooLarge___init__⟩
def fiD5 : XH.IniD := ⟨("BadCode", some "__init__"), "BadCode.__init__", defArgs s_BadCode___init__, defBody s_BadCode___init__, defScope s_BadCode___init__⟩
def fi : List XH.IniD := [fiD0, fiD1, fiD2, fiD3, fiD4, fiD5]
abbrev hk : PySem.W.Hook := XH.hookY 6 fa fn ts fi ex
def ob (s : PySem.W.SharedT) : XH.AlY := XH.obsY 6 fa fn ts fi ex (HandSHeadRun.getT s)
theorem ob_eq (s : PySem.W.SharedT) : ob s = hk.obs s.abs := XH.obsY_eq (HandSHeadRun.getT_eq s)
theorem run0 (w : World) : HandSHeadRun.RunEq R (PySem.W.view R.prog [68]) hk ob 40000 names (w.withFollow "special-get-raises" false) := by
  intro os
  kernel_rfl
theorem run1 (w : World) : HandSHeadRun.RunEq R (PySem.W.view R.prog [68]) hk ob 40000 names (w.withFollow "special-get-raises" true) := by
  intro os
  kernel_rfl
theorem run (w : World) : HandSHeadRun.RunEq R (PySem.W.view R.prog [68]) hk ob 40000 names w := PySem.W.byRow2 "special-get-raises" (P := fun w => HandSHeadRun.RunEq R (PySem.W.view R.prog [68]) hk ob 40000 names w) run0 run1 w
theorem es_Malformed : ∃ (e : PySem.Expr) (p0 p1 p2 p3 p4 : Pos) (sts : List Stmt) (n : Nat), defBody s_Malformed___init__ = (.Expr (.Call (.Attribute (.Call (.Name "super" p0) [] [] p1) "__init__" p2) [e] [] p3) p4 :: sts) ∧ XM.ExcS R.prog "Malformed.__init__" (defArgs s_Malformed___init__) (defScope s_Malformed___init__) ["line", "column"] e p0 p1 p2 p3 p4 sts n := by
  have S : XM.ScT (defScope s_Malformed___init__) ["line", "column"] := ⟨rfl, by decide +kernel, by decide +kernel, by decide⟩
  refine ⟨_, _, _, _, _, _, _, 2001, rfl, ?_⟩
  exact {
    sc := S
    st := by repeat (first | exact XM.IsSt.nil | refine XM.IsSt.cons ?_)
    nd := by decide
    ne := by decide
    len := by decide
    hp := ⟨_, rfl, rfl⟩
    hks := by decide +kernel
    hkc := by decide +kernel
    top := by decide +kernel
    cell := by decide +kernel
    co := rfl
    gen := rfl
    bind := fun _ _ _ _ _ _ _ us hl => match us, hl with | [_, _, _], _ => rfl
    hev := fun _ _ _ _ => ⟨_, rfl⟩
    hsw := fun _ _ _ _ => rfl
    hse := fun _ _ _ _ => rfl
    txt := fun w A h m L fI cda cc G hn hm => by
      obtain ⟨v0, a0, b0⟩ := hm "line" (by decide)
      obtain ⟨v1, a1, b1⟩ := hm "column" (by decide)
      exact (XM.evT_add (n := 1001) (k := 1000) (l := 2001) (XM.evT_add (n := 1000) (k := 1) (l := 1001) (XM.evT_str (n := 1000) G hn a0 b0 rfl rfl S.kind (by rfl) (by rfl) (by decide) (Nat.le_refl _)) (XM.evT_c (n := 1) (by decide)) (by decide) (by decide +kernel)) (XM.evT_str (n := 1000) G hn a1 b1 rfl rfl S.kind (by rfl) (by rfl) (by decide) (Nat.le_refl _)) (by decide) (by decide +kernel)) }
theorem es_Unknown : ∃ (e : PySem.Expr) (p0 p1 p2 p3 p4 : Pos) (sts : List Stmt) (n : Nat), defBody s_Unknown___init__ = (.Expr (.Call (.Attribute (.Call (.Name "super" p0) [] [] p1) "__init__" p2) [e] [] p3) p4 :: sts) ∧ XM.ExcS R.prog "Unknown.__init__" (defArgs s_Unknown___init__) (defScope s_Unknown___init__) ["name", "line", "column"] e p0 p1 p2 p3 p4 sts n := by
  have S : XM.ScT (defScope s_Unknown___init__) ["name", "line", "column"] := ⟨rfl, by decide +kernel, by decide +kernel, by decide⟩
  refine ⟨_, _, _, _, _, _, _, 3002, rfl, ?_⟩
  exact {
    sc := S
    st := by repeat (first | exact XM.IsSt.nil | refine XM.IsSt.cons ?_)
    nd := by decide
    ne := by decide
    len := by decide
    hp := ⟨_, rfl, rfl⟩
    hks := by decide +kernel
    hkc := by decide +kernel
    top := by decide +kernel
    cell := by decide +kernel
    co := rfl
    gen := rfl
    bind := fun _ _ _ _ _ _ _ us hl => match us, hl with | [_, _, _, _], _ => rfl
    hev := fun _ _ _ _ => ⟨_, rfl⟩
    hsw := fun _ _ _ _ => rfl
    hse := fun _ _ _ _ => rfl
    txt := fun w A h m L fI cda cc G hn hm => by
      obtain ⟨v0, a0, b0⟩ := hm "name" (by decide)
      obtain ⟨v1, a1, b1⟩ := hm "line" (by decide)
      obtain ⟨v2, a2, b2⟩ := hm "column" (by decide)
      exact (XM.evT_add (n := 2002) (k := 1000) (l := 3002) (XM.evT_add (n := 2001) (k := 1) (l := 2002) (XM.evT_add (n := 1001) (k := 1000) (l := 2001) (XM.evT_add (n := 1000) (k := 1) (l := 1001) (XM.evT_str (n := 1000) G hn a0 b0 rfl rfl S.kind (by rfl) (by rfl) (by decide) (Nat.le_refl _)) (XM.evT_c (n := 1) (by decide)) (by decide) (by decide +kernel)) (XM.evT_str (n := 1000) G hn a1 b1 rfl rfl S.kind (by rfl) (by rfl) (by decide) (Nat.le_refl _)) (by decide) (by decide +kernel)) (XM.evT_c (n := 1) (by decide)) (by decide) (by decide +kernel)) (XM.evT_str (n := 1000) G hn a2 b2 rfl rfl S.kind (by rfl) (by rfl) (by decide) (Nat.le_refl _)) (by decide) (by decide +kernel)) }
theorem es_Twice : ∃ (e : PySem.Expr) (p0 p1 p2 p3 p4 : Pos) (sts : List Stmt) (n : Nat), defBody s_Twice___init__ = (.Expr (.Call (.Attribute (.Call (.Name "super" p0) [] [] p1) "__init__" p2) [e] [] p3) p4 :: sts) ∧ XM.ExcS R.prog "Twice.__init__" (defArgs s_Twice___init__) (defScope s_Twice___init__) ["name", "line", "column"] e p0 p1 p2 p3 p4 sts n := by
  have S : XM.ScT (defScope s_Twice___init__) ["name", "line", "column"] := ⟨rfl, by decide +kernel, by decide +kernel, by decide⟩
  refine ⟨_, _, _, _, _, _, _, 3002, rfl, ?_⟩
  exact {
    sc := S
    st := by repeat (first | exact XM.IsSt.nil | refine XM.IsSt.cons ?_)
    nd := by decide
    ne := by decide
    len := by decide
    hp := ⟨_, rfl, rfl⟩
    hks := by decide +kernel
    hkc := by decide +kernel
    top := by decide +kernel
    cell := by decide +kernel
    co := rfl
    gen := rfl
    bind := fun _ _ _ _ _ _ _ us hl => match us, hl with | [_, _, _, _], _ => rfl
    hev := fun _ _ _ _ => ⟨_, rfl⟩
    hsw := fun _ _ _ _ => rfl
    hse := fun _ _ _ _ => rfl
    txt := fun w A h m L fI cda cc G hn hm => by
      obtain ⟨v0, a0, b0⟩ := hm "name" (by decide)
      obtain ⟨v1, a1, b1⟩ := hm "line" (by decide)
      obtain ⟨v2, a2, b2⟩ := hm "column" (by decide)
      exact (XM.evT_add (n := 2002) (k := 1000) (l := 3002) (XM.evT_add (n := 2001) (k := 1) (l := 2002) (XM.evT_add (n := 1001) (k := 1000) (l := 2001) (XM.evT_add (n := 1000) (k := 1) (l := 1001) (XM.evT_str (n := 1000) G hn a0 b0 rfl rfl S.kind (by rfl) (by rfl) (by decide) (Nat.le_refl _)) (XM.evT_c (n := 1) (by decide)) (by decide) (by decide +kernel)) (XM.evT_str (n := 1000) G hn a1 b1 rfl rfl S.kind (by rfl) (by rfl) (by decide) (Nat.le_refl _)) (by decide) (by decide +kernel)) (XM.evT_c (n := 1) (by decide)) (by decide) (by decide +kernel)) (XM.evT_str (n := 1000) G hn a2 b2 rfl rfl S.kind (by rfl) (by rfl) (by decide) (Nat.le_refl _)) (by decide) (by decide +kernel)) }
theorem es_OutOfRange : ∃ (e : PySem.Expr) (p0 p1 p2 p3 p4 : Pos) (sts : List Stmt) (n : Nat), defBody s_OutOfRange___init__ = (.Expr (.Call (.Attribute (.Call (.Name "super" p0) [] [] p1) "__init__" p2) [e] [] p3) p4 :: sts) ∧ XM.ExcS R.prog "OutOfRange.__init__" (defArgs s_OutOfRange___init__) (defScope s_OutOfRange___init__) ["line", "column"] e p0 p1 p2 p3 p4 sts n := by
  have S : XM.ScT (defScope s_OutOfRange___init__) ["line", "column"] := ⟨rfl, by decide +kernel, by decide +kernel, by decide⟩
  refine ⟨_, _, _, _, _, _, _, 2001, rfl, ?_⟩
  exact {
    sc := S
    st := by repeat (first | exact XM.IsSt.nil | refine XM.IsSt.cons ?_)
    nd := by decide
    ne := by decide
    len := by decide
    hp := ⟨_, rfl, rfl⟩
    hks := by decide +kernel
    hkc := by decide +kernel
    top := by decide +kernel
    cell := by decide +kernel
    co := rfl
    gen := rfl
    bind := fun _ _ _ _ _ _ _ us hl => match us, hl with | [_, _, _], _ => rfl
    hev := fun _ _ _ _ => ⟨_, rfl⟩
    hsw := fun _ _ _ _ => rfl
    hse := fun _ _ _ _ => rfl
    txt := fun w A h m L fI cda cc G hn hm => by
      obtain ⟨v0, a0, b0⟩ := hm "line" (by decide)
      obtain ⟨v1, a1, b1⟩ := hm "column" (by decide)
      exact (XM.evT_add (n := 1001) (k := 1000) (l := 2001) (XM.evT_add (n := 1000) (k := 1) (l := 1001) (XM.evT_str (n := 1000) G hn a0 b0 rfl rfl S.kind (by rfl) (by rfl) (by decide) (Nat.le_refl _)) (XM.evT_c (n := 1) (by decide)) (by decide) (by decide +kernel)) (XM.evT_str (n := 1000) G hn a1 b1 rfl rfl S.kind (by rfl) (by rfl) (by decide) (Nat.le_refl _)) (by decide) (by decide +kernel)) }
theorem es_TooLarge : ∃ (e : PySem.Expr) (p0 p1 p2 p3 p4 : Pos) (sts : List Stmt) (n : Nat), defBody s_TooLarge___init__ = (.Expr (.Call (.Attribute (.Call (.Name "super" p0) [] [] p1) "__init__" p2) [e] [] p3) p4 :: sts) ∧ XM.ExcS R.prog "TooLarge.__init__" (defArgs s_TooLarge___init__) (defScope s_TooLarge___init__) ["limit"] e p0 p1 p2 p3 p4 sts n := by
  have S : XM.ScT (defScope s_TooLarge___init__) ["limit"] := ⟨rfl, by decide +kernel, by decide +kernel, by decide⟩
  refine ⟨_, _, _, _, _, _, _, 1000, rfl, ?_⟩
  exact {
    sc := S
    st := by repeat (first | exact XM.IsSt.nil | refine XM.IsSt.cons ?_)
    nd := by decide
    ne := by decide
    len := by decide
    hp := ⟨_, rfl, rfl⟩
    hks := by decide +kernel
    hkc := by decide +kernel
    top := by decide +kernel
    cell := by decide +kernel
    co := rfl
    gen := rfl
    bind := fun _ _ _ _ _ _ _ us hl => match us, hl with | [_, _], _ => rfl
    hev := fun _ _ _ _ => ⟨_, rfl⟩
    hsw := fun _ _ _ _ => rfl
    hse := fun _ _ _ _ => rfl
    txt := fun w A h m L fI cda cc G hn hm => by
      obtain ⟨v0, a0, b0⟩ := hm "limit" (by decide)
      exact (XM.evT_str (n := 1000) G hn a0 b0 rfl rfl S.kind (by rfl) (by rfl) (by decide) (Nat.le_refl _)) }
theorem es_BadCode : ∃ (e : PySem.Expr) (p0 p1 p2 p3 p4 : Pos) (sts : List Stmt) (n : Nat), defBody s_BadCode___init__ = (.Expr (.Call (.Attribute (.Call (.Name "super" p0) [] [] p1) "__init__" p2) [e] [] p3) p4 :: sts) ∧ XM.ExcS R.prog "BadCode.__init__" (defArgs s_BadCode___init__) (defScope s_BadCode___init__) ["op", "a", "b", "c"] e p0 p1 p2 p3 p4 sts n := by
  have S : XM.ScT (defScope s_BadCode___init__) ["op", "a", "b", "c"] := ⟨rfl, by decide +kernel, by decide +kernel, by decide⟩
  refine ⟨_, _, _, _, _, _, _, 4003, rfl, ?_⟩
  exact {
    sc := S
    st := by repeat (first | exact XM.IsSt.nil | refine XM.IsSt.cons ?_)
    nd := by decide
    ne := by decide
    len := by decide
    hp := ⟨_, rfl, rfl⟩
    hks := by decide +kernel
    hkc := by decide +kernel
    top := by decide +kernel
    cell := by decide +kernel
    co := rfl
    gen := rfl
    bind := fun _ _ _ _ _ _ _ us hl => match us, hl with | [_, _, _, _, _], _ => rfl
    hev := fun _ _ _ _ => ⟨_, rfl⟩
    hsw := fun _ _ _ _ => rfl
    hse := fun _ _ _ _ => rfl
    txt := fun w A h m L fI cda cc G hn hm => by
      obtain ⟨v0, a0, b0⟩ := hm "op" (by decide)
      obtain ⟨v1, a1, b1⟩ := hm "a" (by decide)
      obtain ⟨v2, a2, b2⟩ := hm "b" (by decide)
      obtain ⟨v3, a3, b3⟩ := hm "c" (by decide)
      exact (XM.evT_add (n := 3003) (k := 1000) (l := 4003) (XM.evT_add (n := 3002) (k := 1) (l := 3003) (XM.evT_add (n := 2002) (k := 1000) (l := 3002) (XM.evT_add (n := 2001) (k := 1) (l := 2002) (XM.evT_add (n := 1001) (k := 1000) (l := 2001) (XM.evT_add (n := 1000) (k := 1) (l := 1001) (XM.evT_str (n := 1000) G hn a0 b0 rfl rfl S.kind (by rfl) (by rfl) (by decide) (Nat.le_refl _)) (XM.evT_c (n := 1) (by decide)) (by decide) (by decide +kernel)) (XM.evT_str (n := 1000) G hn a1 b1 rfl rfl S.kind (by rfl) (by rfl) (by decide) (Nat.le_refl _)) (by decide) (by decide +kernel)) (XM.evT_c (n := 1) (by decide)) (by decide) (by decide +kernel)) (XM.evT_str (n := 1000) G hn a2 b2 rfl rfl S.kind (by rfl) (by rfl) (by decide) (Nat.le_refl _)) (by decide) (by decide +kernel)) (XM.evT_c (n := 1) (by decide)) (by decide) (by decide +kernel)) (XM.evT_str (n := 1000) G hn a3 b3 rfl rfl S.kind (by rfl) (by rfl) (by decide) (Nat.le_refl _)) (by decide) (by decide +kernel)) }
theorem tx_mk {w : World} {K : PySem.W.Frag} {h : Heap} {mg : Str → Option Value} (X : K.In h) (G : h.Ns mainGlobals mg) (c : XH.SaysY fa fn ts fi ex w K) : Tx R.prog w K mg where
    f_fits := c.t.d.def_ 0 (d := fnD0) rfl
    g_fits := He.glo_ok X G (c.t.d.fact 0 (f := .glo "fits") rfl)
    f_encode := c.t.d.def_ 1 (d := fnD1) rfl
    g_encode := He.glo_ok X G (c.t.d.fact 1 (f := .glo "encode") rfl)
    f_decode := c.t.d.def_ 2 (d := fnD2) rfl
    g_decode := He.glo_ok X G (c.t.d.fact 2 (f := .glo "decode") rfl)
    f_size_of := c.t.d.def_ 3 (d := fnD3) rfl
    g_size_of := He.glo_ok X G (c.t.d.fact 3 (f := .glo "size_of") rfl)
    f_Line___init__ := c.t.d.def_ 4 (d := fnD4) rfl
    k_Line := He.mkr_ok (c.t.d.fact 4 (f := .mkr "Line") rfl)
    m_Line___init__ := He.meth_ok (c.t.d.fact 5 (f := .meth "Line" "__init__") rfl)
    f_Tokens___init__ := c.t.d.def_ 5 (d := fnD5) rfl
    k_Tokens := He.mkr_ok (c.t.d.fact 6 (f := .mkr "Tokens") rfl)
    m_Tokens___init__ := He.meth_ok (c.t.d.fact 7 (f := .meth "Tokens" "__init__") rfl)
    f_Tokens_kind := c.t.d.def_ 6 (d := fnD6) rfl
    m_Tokens_kind := He.meth_ok (c.t.d.fact 8 (f := .meth "Tokens" "kind") rfl)
    f_Tokens_text := c.t.d.def_ 7 (d := fnD7) rfl
    m_Tokens_text := He.meth_ok (c.t.d.fact 9 (f := .meth "Tokens" "text") rfl)
    f_Tokens_column := c.t.d.def_ 8 (d := fnD8) rfl
    m_Tokens_column := He.meth_ok (c.t.d.fact 10 (f := .meth "Tokens" "column") rfl)
    f_Tokens_take := c.t.d.def_ 9 (d := fnD9) rfl
    m_Tokens_take := He.meth_ok (c.t.d.fact 11 (f := .meth "Tokens" "take") rfl)
    f_end_of := c.t.d.def_ 10 (d := fnD10) rfl
    g_end_of := He.glo_ok X G (c.t.d.fact 12 (f := .glo "end_of") rfl)
    f_number_end := c.t.d.def_ 11 (d := fnD11) rfl
    g_number_end := He.glo_ok X G (c.t.d.fact 13 (f := .glo "number_end") rfl)
    f_tokens_of := c.t.d.def_ 12 (d := fnD12) rfl
    g_tokens_of := He.glo_ok X G (c.t.d.fact 14 (f := .glo "tokens_of") rfl)
    f_read_register := c.t.d.def_ 13 (d := fnD13) rfl
    g_read_register := He.glo_ok X G (c.t.d.fact 15 (f := .glo "read_register") rfl)
    f_read_name := c.t.d.def_ 14 (d := fnD14) rfl
    g_read_name := He.glo_ok X G (c.t.d.fact 16 (f := .glo "read_name") rfl)
    f_read_term := c.t.d.def_ 15 (d := fnD15) rfl
    g_read_term := He.glo_ok X G (c.t.d.fact 17 (f := .glo "read_term") rfl)
    f_read_expression := c.t.d.def_ 16 (d := fnD16) rfl
    g_read_expression := He.glo_ok X G (c.t.d.fact 18 (f := .glo "read_expression") rfl)
    f_read_operand := c.t.d.def_ 17 (d := fnD17) rfl
    g_read_operand := He.glo_ok X G (c.t.d.fact 19 (f := .glo "read_operand") rfl)
    f_read_operands := c.t.d.def_ 18 (d := fnD18) rfl
    g_read_operands := He.glo_ok X G (c.t.d.fact 20 (f := .glo "read_operands") rfl)
    f_read_line := c.t.d.def_ 19 (d := fnD19) rfl
    g_read_line := He.glo_ok X G (c.t.d.fact 21 (f := .glo "read_line") rfl)
    f_read_lines := c.t.d.def_ 20 (d := fnD20) rfl
    g_read_lines := He.glo_ok X G (c.t.d.fact 22 (f := .glo "read_lines") rfl)
    f_is_instruction := c.t.d.def_ 21 (d := fnD21) rfl
    g_is_instruction := He.glo_ok X G (c.t.d.fact 23 (f := .glo "is_instruction") rfl)
    f_wrap := c.t.d.def_ 22 (d := fnD22) rfl
    g_wrap := He.glo_ok X G (c.t.d.fact 24 (f := .glo "wrap") rfl)
    f_field_text := c.t.d.def_ 23 (d := fnD23) rfl
    g_field_text := He.glo_ok X G (c.t.d.fact 25 (f := .glo "field_text") rfl)
    f_instruction_text := c.t.d.def_ 24 (d := fnD24) rfl
    g_instruction_text := He.glo_ok X G (c.t.d.fact 26 (f := .glo "instruction_text") rfl)
    f_listing := c.t.d.def_ 25 (d := fnD25) rfl
    g_listing := He.glo_ok X G (c.t.d.fact 27 (f := .glo "listing") rfl)
    f_Assembly___init__ := c.t.d.def_ 26 (d := fnD26) rfl
    k_Assembly := He.mkr_ok (c.t.d.fact 28 (f := .mkr "Assembly") rfl)
    m_Assembly___init__ := He.meth_ok (c.t.d.fact 29 (f := .meth "Assembly" "__init__") rfl)
    f_Assembler___init__ := c.t.d.def_ 27 (d := fnD27) rfl
    k_Assembler := He.mkr_ok (c.t.d.fact 30 (f := .mkr "Assembler") rfl)
    m_Assembler___init__ := He.meth_ok (c.t.d.fact 31 (f := .meth "Assembler" "__init__") rfl)
    f_Assembler_value := c.t.d.def_ 28 (d := fnD28) rfl
    m_Assembler_value := He.meth_ok (c.t.d.fact 32 (f := .meth "Assembler" "value") rfl)
    f_Assembler_within := c.t.d.def_ 29 (d := fnD29) rfl
    m_Assembler_within := He.meth_ok (c.t.d.fact 33 (f := .meth "Assembler" "within") rfl)
    f_Assembler_define := c.t.d.def_ 30 (d := fnD30) rfl
    m_Assembler_define := He.meth_ok (c.t.d.fact 34 (f := .meth "Assembler" "define") rfl)
    f_Assembler_length := c.t.d.def_ 31 (d := fnD31) rfl
    m_Assembler_length := He.meth_ok (c.t.d.fact 35 (f := .meth "Assembler" "length") rfl)
    f_Assembler_lay_out := c.t.d.def_ 32 (d := fnD32) rfl
    m_Assembler_lay_out := He.meth_ok (c.t.d.fact 36 (f := .meth "Assembler" "lay_out") rfl)
    f_Assembler_number := c.t.d.def_ 33 (d := fnD33) rfl
    m_Assembler_number := He.meth_ok (c.t.d.fact 37 (f := .meth "Assembler" "number") rfl)
    f_Assembler_instruction := c.t.d.def_ 34 (d := fnD34) rfl
    m_Assembler_instruction := He.meth_ok (c.t.d.fact 38 (f := .meth "Assembler" "instruction") rfl)
    f_Assembler_line_words := c.t.d.def_ 35 (d := fnD35) rfl
    m_Assembler_line_words := He.meth_ok (c.t.d.fact 39 (f := .meth "Assembler" "line_words") rfl)
    f_assemble := c.t.d.def_ 36 (d := fnD36) rfl
    g_assemble := He.glo_ok X G (c.t.d.fact 40 (f := .glo "assemble") rfl)
    f__law_number := c.t.d.def_ 37 (d := fnD37) rfl
    g__law_number := He.glo_ok X G (c.t.d.fact 41 (f := .glo "_law_number") rfl)
    f__law_forms := c.t.d.def_ 38 (d := fnD38) rfl
    g__law_forms := He.glo_ok X G (c.t.d.fact 42 (f := .glo "_law_forms") rfl)
    f__law_any := c.t.d.def_ 39 (d := fnD39) rfl
    g__law_any := He.glo_ok X G (c.t.d.fact 43 (f := .glo "_law_any") rfl)
    f__law_legal := c.t.d.def_ 40 (d := fnD40) rfl
    g__law_legal := He.glo_ok X G (c.t.d.fact 44 (f := .glo "_law_legal") rfl)
    f__law_line := c.t.d.def_ 41 (d := fnD41) rfl
    g__law_line := He.glo_ok X G (c.t.d.fact 45 (f := .glo "_law_line") rfl)
    f_law := c.t.d.def_ 42 (d := fnD42) rfl
    g_law := He.glo_ok X G (c.t.d.fact 46 (f := .glo "law") rfl)
    g_MerestoneError := He.glo_ok X G (c.t.d.fact 47 (f := .glo "MerestoneError") rfl)
    g_Malformed := He.glo_ok X G (c.t.d.fact 48 (f := .glo "Malformed") rfl)
    e_Malformed := ⟨XH.excT_of (M.ex_at c.more 0 rfl) (c.ini_ 0 (d := fiD0) rfl), es_Malformed⟩
    x_Malformed := L2.xfB_ok (M.ex_at c.more 1 rfl)
    i_Malformed := XH.excCB_ok (M.ex_at c.more 2 rfl)
    nf_Malformed_line := of_decide_eq_true (M.ex_at c.more 3 rfl)
    nf_Malformed_column := of_decide_eq_true (M.ex_at c.more 4 rfl)
    exm_Malformed_Malformed := of_decide_eq_true (M.ex_at c.more 5 rfl)
    g_Unknown := He.glo_ok X G (c.t.d.fact 49 (f := .glo "Unknown") rfl)
    e_Unknown := ⟨XH.excT_of (M.ex_at c.more 6 rfl) (c.ini_ 1 (d := fiD1) rfl), es_Unknown⟩
    x_Unknown := L2.xfB_ok (M.ex_at c.more 7 rfl)
    i_Unknown := XH.excCB_ok (M.ex_at c.more 8 rfl)
    nf_Unknown_name := of_decide_eq_true (M.ex_at c.more 9 rfl)
    nf_Unknown_line := of_decide_eq_true (M.ex_at c.more 10 rfl)
    nf_Unknown_column := of_decide_eq_true (M.ex_at c.more 11 rfl)
    exm_Unknown_Unknown := of_decide_eq_true (M.ex_at c.more 12 rfl)
    g_Twice := He.glo_ok X G (c.t.d.fact 50 (f := .glo "Twice") rfl)
    e_Twice := ⟨XH.excT_of (M.ex_at c.more 13 rfl) (c.ini_ 2 (d := fiD2) rfl), es_Twice⟩
    x_Twice := L2.xfB_ok (M.ex_at c.more 14 rfl)
    i_Twice := XH.excCB_ok (M.ex_at c.more 15 rfl)
    nf_Twice_name := of_decide_eq_true (M.ex_at c.more 16 rfl)
    nf_Twice_line := of_decide_eq_true (M.ex_at c.more 17 rfl)
    nf_Twice_column := of_decide_eq_true (M.ex_at c.more 18 rfl)
    exm_Twice_Twice := of_decide_eq_true (M.ex_at c.more 19 rfl)
    g_OutOfRange := He.glo_ok X G (c.t.d.fact 51 (f := .glo "OutOfRange") rfl)
    e_OutOfRange := ⟨XH.excT_of (M.ex_at c.more 20 rfl) (c.ini_ 3 (d := fiD3) rfl), es_OutOfRange⟩
    x_OutOfRange := L2.xfB_ok (M.ex_at c.more 21 rfl)
    i_OutOfRange := XH.excCB_ok (M.ex_at c.more 22 rfl)
    nf_OutOfRange_line := of_decide_eq_true (M.ex_at c.more 23 rfl)
    nf_OutOfRange_column := of_decide_eq_true (M.ex_at c.more 24 rfl)
    exm_OutOfRange_OutOfRange := of_decide_eq_true (M.ex_at c.more 25 rfl)
    g_TooLarge := He.glo_ok X G (c.t.d.fact 52 (f := .glo "TooLarge") rfl)
    e_TooLarge := ⟨XH.excT_of (M.ex_at c.more 26 rfl) (c.ini_ 4 (d := fiD4) rfl), es_TooLarge⟩
    x_TooLarge := L2.xfB_ok (M.ex_at c.more 27 rfl)
    i_TooLarge := XH.excCB_ok (M.ex_at c.more 28 rfl)
    nf_TooLarge_limit := of_decide_eq_true (M.ex_at c.more 29 rfl)
    exm_TooLarge_TooLarge := of_decide_eq_true (M.ex_at c.more 30 rfl)
    g_BadCode := He.glo_ok X G (c.t.d.fact 53 (f := .glo "BadCode") rfl)
    e_BadCode := ⟨XH.excT_of (M.ex_at c.more 31 rfl) (c.ini_ 5 (d := fiD5) rfl), es_BadCode⟩
    x_BadCode := L2.xfB_ok (M.ex_at c.more 32 rfl)
    i_BadCode := XH.excCB_ok (M.ex_at c.more 33 rfl)
    nf_BadCode_op := of_decide_eq_true (M.ex_at c.more 34 rfl)
    nf_BadCode_a := of_decide_eq_true (M.ex_at c.more 35 rfl)
    nf_BadCode_b := of_decide_eq_true (M.ex_at c.more 36 rfl)
    nf_BadCode_c := of_decide_eq_true (M.ex_at c.more 37 rfl)
    exm_BadCode_BadCode := of_decide_eq_true (M.ex_at c.more 38 rfl)
    c_Line := He.cls_ok (c.t.d.fact 54 (f := .cls "Line") rfl)
    g_Line := He.glo_ok X G (c.t.d.fact 55 (f := .glo "Line") rfl)
    n_Line_number := He.noat_ok (c.t.d.fact 56 (f := .noat "Line" "number") rfl)
    n_Line_label := He.noat_ok (c.t.d.fact 57 (f := .noat "Line" "label") rfl)
    n_Line_op := He.noat_ok (c.t.d.fact 58 (f := .noat "Line" "op") rfl)
    n_Line_operands := He.noat_ok (c.t.d.fact 59 (f := .noat "Line" "operands") rfl)
    c_Tokens := He.cls_ok (c.t.d.fact 60 (f := .cls "Tokens") rfl)
    g_Tokens := He.glo_ok X G (c.t.d.fact 61 (f := .glo "Tokens") rfl)
    n_Tokens_number := He.noat_ok (c.t.d.fact 62 (f := .noat "Tokens" "number") rfl)
    n_Tokens_tokens := He.noat_ok (c.t.d.fact 63 (f := .noat "Tokens" "tokens") rfl)
    n_Tokens_at := He.noat_ok (c.t.d.fact 64 (f := .noat "Tokens" "at") rfl)
    c_Assembly := He.cls_ok (c.t.d.fact 65 (f := .cls "Assembly") rfl)
    g_Assembly := He.glo_ok X G (c.t.d.fact 66 (f := .glo "Assembly") rfl)
    n_Assembly_words := He.noat_ok (c.t.d.fact 67 (f := .noat "Assembly" "words") rfl)
    n_Assembly_names := He.noat_ok (c.t.d.fact 68 (f := .noat "Assembly" "names") rfl)
    c_Assembler := He.cls_ok (c.t.d.fact 69 (f := .cls "Assembler") rfl)
    g_Assembler := He.glo_ok X G (c.t.d.fact 70 (f := .glo "Assembler") rfl)
    n_Assembler_base := He.noat_ok (c.t.d.fact 71 (f := .noat "Assembler" "base") rfl)
    n_Assembler_names := He.noat_ok (c.t.d.fact 72 (f := .noat "Assembler" "names") rfl)
    n_Assembler_words := He.noat_ok (c.t.d.fact 73 (f := .noat "Assembler" "words") rfl)
    g_OPS := ⟨_, He.glo_ok X G (c.t.d.fact 74 (f := .glo "OPS") rfl), rfl⟩
    q_OPS := fun H => He.tupB_ok (M.ex_at c.more 39 rfl) H
    o_OPS := XH.tupOB_ok (M.ex_at c.more 40 rfl)
    g_NONE := ⟨_, He.glo_ok X G (c.t.d.fact 75 (f := .glo "NONE") rfl), rfl⟩
    q_NONE := fun H => He.tupB_ok (M.ex_at c.more 41 rfl) H
    g_ONE := ⟨_, He.glo_ok X G (c.t.d.fact 76 (f := .glo "ONE") rfl), rfl⟩
    q_ONE := fun H => He.tupB_ok (M.ex_at c.more 42 rfl) H
    g_TWO := ⟨_, He.glo_ok X G (c.t.d.fact 77 (f := .glo "TWO") rfl), rfl⟩
    q_TWO := fun H => He.tupB_ok (M.ex_at c.more 43 rfl) H
    g_THREE := ⟨_, He.glo_ok X G (c.t.d.fact 78 (f := .glo "THREE") rfl), rfl⟩
    q_THREE := fun H => He.tupB_ok (M.ex_at c.more 44 rfl) H
    g_READABLE := M.gc_int X G (c.t.d.fact 79 (f := .int "READABLE" 7) rfl)
    g_WRITABLE := M.gc_int X G (c.t.d.fact 80 (f := .int "WRITABLE" 5) rfl)
    g_LETTERS := M.gc_str X G (c.t.d.fact 81 (f := .str "LETTERS" "ABCDEFGHIJKLMNOPQRSTUVWXYZabcdefghijklmnopqrstuvwxyz") rfl)
    g_DIGITS := M.gc_str X G (c.t.d.fact 82 (f := .str "DIGITS" "0123456789") rfl)
    g_MARKS := M.gc_str X G (c.t.d.fact 83 (f := .str "MARKS" ",:+-") rfl)
    g_REGISTERS := ⟨_, He.glo_ok X G (c.t.d.fact 84 (f := .glo "REGISTERS") rfl), rfl⟩
    q_REGISTERS := fun H => He.tupB_ok (M.ex_at c.more 45 rfl) H
    o_REGISTERS := XH.tupOB_ok (M.ex_at c.more 46 rfl)
    g_MOST_NAME := M.gc_int X G (c.t.d.fact 85 (f := .int "MOST_NAME" 24) rfl)
    g_MOST_DIGITS := M.gc_int X G (c.t.d.fact 86 (f := .int "MOST_DIGITS" 5) rfl)
    g_GREATEST := M.gc_int X G (c.t.d.fact 87 (f := .int "GREATEST" 65535) rfl)
    g_FORMS := ⟨_, He.glo_ok X G (c.t.d.fact 88 (f := .glo "FORMS") rfl), rfl⟩
    t_FORMS := c.t.tab 0 (t := tsT0) rfl
    v_FORMS := M.ex_at c.more 47 rfl
    g_LIST := M.gc_str X G (c.t.d.fact 89 (f := .str "LIST" "word") rfl)
    g_MODULUS := M.gc_int X G (c.t.d.fact 90 (f := .int "MODULUS" 65536) rfl)
    g_BRANCHES_listing := ⟨_, He.glo_ok X G (c.t.d.fact 91 (f := .glo "BRANCHES_listing") rfl), rfl⟩
    q_BRANCHES_listing := fun H => He.tupB_ok (M.ex_at c.more 48 rfl) H
    g_MOST := M.gc_int X G (c.t.d.fact 92 (f := .int "MOST" 65536) rfl)
    g_LEAST := M.gc_int X G (c.t.d.fact 93 (f := .int "LEAST" (-32768)) rfl)
    g_PAGE := M.gc_int X G (c.t.d.fact 94 (f := .int "PAGE" 16) rfl)
    g_FIELD := M.gc_int X G (c.t.d.fact 95 (f := .int "FIELD" 16) rfl)
    g_BRANCHES_assembling := ⟨_, He.glo_ok X G (c.t.d.fact 96 (f := .glo "BRANCHES_assembling") rfl), rfl⟩
    q_BRANCHES_assembling := fun H => He.tupB_ok (M.ex_at c.more 49 rfl) H
    g_LIMITS := ⟨_, He.glo_ok X G (c.t.d.fact 97 (f := .glo "LIMITS") rfl), rfl⟩
    t_LIMITS := c.t.tab 1 (t := tsT1) rfl
    b_int := He.free_ok X G (c.t.d.fact 98 (f := .free "int") rfl)
    b_str := He.free_ok X G (c.t.d.fact 99 (f := .free "str") rfl)
    b_len := He.free_ok X G (c.t.d.fact 100 (f := .free "len") rfl)
    b_range := He.free_ok X G (c.t.d.fact 101 (f := .free "range") rfl)
    b_min := He.free_ok X G (c.t.d.fact 102 (f := .free "min") rfl)
    b_list := He.free_ok X G (c.t.d.fact 103 (f := .free "list") rfl)
    b_dict := He.free_ok X G (c.t.d.fact 104 (f := .free "dict") rfl)
    b_ValueError := He.free_ok X G (c.t.d.fact 105 (f := .free "ValueError") rfl)
    b_super := He.free_ok X G (c.t.d.fact 106 (f := .free "super") rfl)
    l_LIMITS := M.limB_ok (M.ex_at c.more 50 rfl)
end
section
local macro_rules | `(tactic| walk_at "s") => `(tactic| first
  | ((with_reducible refine' M.x_var ?xv ?_); (case xv => exact rfl))
  | ((with_reducible refine' M.x_rI ?xc ?_); (case xc => walk_at "side"))
  | with_reducible refine M.x_isN ?_
  | with_reducible refine M.x_notN ?_
  | ((with_reducible refine' M.x_ifTD ?xp ?_); (case xp => first | exact rfl | decide | omega))
  | ((with_reducible refine' M.x_ifFD ?xp ?_); (case xp => first | exact rfl | decide | omega))
  | refine M.Stp.run ?_)
local macro_rules | `(tactic| walk_at "side") => `(tactic| first
  | decide
  | (show (0 : Int) < _; decide)
  | (show (0 : Int) < _; omega)
  | (show (0 : Int) ≤ _; omega)
  | (exact ⟨by decide, by decide⟩)
  | (exact ⟨by omega, by omega⟩)
  | (exact Or.inr ⟨by decide, by decide⟩)
  | (exact Or.inl ⟨by decide, by decide⟩)
  | (exact Or.inr ⟨by omega, by omega⟩)
  | (exact Or.inl ⟨by omega, by omega⟩)
  | (exact ⟨by decide, by decide, by decide⟩)
  | (exact ⟨by omega, by omega, by omega⟩))
local macro_rules | `(tactic| walk_at "go") => `(tactic| (repeat (first | refine M.Stp.run ?_ | walk_at "s")))
local macro_rules | `(tactic| walk_at "hp") => `(tactic| first
  | assumption
  | exact upd_same
  | ((refine' M.same_hp ?xe ?xq); (case xe => assumption); (case xq => walk_at "hp")))
local macro_rules | `(tactic| walk_at "seq") => `(tactic| first
  | assumption
  | exact SqL.of (by assumption)
  | ((refine' Same.seq ?xe ?xq); (case xe => assumption); (case xq => walk_at "seq")))
local macro_rules | `(tactic| walk_at "sqt") => `(tactic| first
  | assumption
  | exact SqT.of (by assumption)
  | ((refine' M.Same.st ?xe ?xq); (case xe => assumption); (case xq => walk_at "sqt")))
local macro_rules | `(tactic| walk_at "at") => `(tactic| first
  | with_reducible exact M.atI_ints (by first | decide | omega) (by omega)
  | with_reducible exact M.atI_ints (by first | decide | omega) (by simp; omega)
  | exact rfl)
local macro_rules | `(tactic| walk_at "s") => `(tactic| first
  | ((with_reducible refine' M.x_truL ?xh ?_); (case xh => walk_at "seq"))
  | ((with_reducible refine' M.x_ixL ?xh ?xa ?_); (case xh => walk_at "seq"); (case xa => walk_at "at"))
  | ((with_reducible refine' M.x_ixT ?xh ?xa ?_); (case xh => walk_at "sqt"); (case xa => walk_at "at"))
  | ((with_reducible refine' M.x_lenL ?xh ?_); (case xh => walk_at "seq"))
  | ((with_reducible refine' M.x_lenT ?xh ?_); (case xh => walk_at "sqt"))
  | ((with_reducible refine' M.x_listL ?xh ?_); (case xh => walk_at "seq"))
  | ((with_reducible refine' M.x_newL ?xz ?_); (case xz => exact M.sl4 (by first | decide | (simp; done) | (simp; omega))))
  | ((with_reducible refine' M.x_newT ?xz ?_); (case xz => exact M.sl4 (by first | decide | (simp; done) | (simp; omega))))
  | ((with_reducible refine' M.x_cat ?xh ?xi ?xz ?_); (case xh => walk_at "hp"); (case xi => walk_at "hp"); (case xz => exact M.sl4 (by first | decide | (simp; done) | (simp; omega)))))
local macro_rules | `(tactic| walk_at "kk") => `(tactic| first | rw [M.cxK] | rw [M.cxKh] | rw [M.cxKr] | rw [M.cxKi] | skip)

local macro_rules | `(tactic| walk_at "s") => `(tactic| first
  | ((with_reducible refine' M.x_inL ?xh ?xf ?xg ?_); (case xh => walk_at "seq"); (case xf => exact rfl); (case xg => first | exact rfl | exact M.flat_strsV _))
  | ((with_reducible refine' M.x_inT ?xh ?xf ?xg ?_); (case xh => walk_at "sqt"); (case xf => exact rfl); (case xg => first | exact rfl | exact M.flat_strsV _))
  | ((with_reducible refine' M.x_notInL ?xh ?xf ?xg ?_); (case xh => walk_at "seq"); (case xf => exact rfl); (case xg => first | exact rfl | exact M.flat_strsV _))
  | ((with_reducible refine' M.x_notInT ?xh ?xf ?xg ?_); (case xh => walk_at "sqt"); (case xf => exact rfl); (case xg => first | exact rfl | exact M.flat_strsV _))
  | ((with_reducible refine' M.x_tyL ?xh ?_); (case xh => walk_at "seq"))
  | ((with_reducible refine' M.x_tyK ?xh ?_); (case xh => walk_at "tyk"))
  | ((with_reducible refine' M.x_split ?xh ?xi ?_); (case xh => decide +kernel); (case xi => decide +kernel))
  | ((with_reducible refine' M.x_addZ ?xh ?_); (case xh => decide +kernel))
  | ((with_reducible refine' M.x_tupL ?xh ?_); (case xh => walk_at "seq"))
  | ((with_reducible refine' M.x_isiTT ?xh ?_); (case xh => walk_at "hp")))
local macro_rules | `(tactic| walk_at "split") => `(tactic| (walk_at "go"; first | done | ((refine M.x_ifD (fun _ => ?_) (fun _ => ?_)) <;> walk_at "split") | ((refine M.x_if (fun _ => ?_) (fun _ => ?_)) <;> walk_at "split") | skip))
local macro_rules | `(tactic| walk_at "sqt") => `(tactic| first
  | fail
  | with_reducible exact Tx.q_OPS (by assumption) _
  | with_reducible exact Tx.q_NONE (by assumption) _
  | with_reducible exact Tx.q_ONE (by assumption) _
  | with_reducible exact Tx.q_TWO (by assumption) _
  | with_reducible exact Tx.q_THREE (by assumption) _
  | with_reducible exact Tx.q_REGISTERS (by assumption) _
  | with_reducible exact Tx.q_BRANCHES_listing (by assumption) _
  | with_reducible exact Tx.q_BRANCHES_assembling (by assumption) _
  | assumption
  | exact Tx.q_OPS (by assumption) _
  | exact Tx.q_NONE (by assumption) _
  | exact Tx.q_ONE (by assumption) _
  | exact Tx.q_TWO (by assumption) _
  | exact Tx.q_THREE (by assumption) _
  | exact Tx.q_REGISTERS (by assumption) _
  | exact Tx.q_BRANCHES_listing (by assumption) _
  | exact Tx.q_BRANCHES_assembling (by assumption) _)
local macro_rules | `(tactic| walk_at "tyk") => `(tactic| exact Tx.o_OPS (by assumption))
local macro_rules | `(tactic| walk_at "tyk") => `(tactic| exact Tx.o_REGISTERS (by assumption))

local macro_rules | `(tactic| walk_at "cls") => `(tactic| first
  | fail
  | with_reducible exact Tx.c_Line (by assumption)
  | with_reducible exact Tx.c_Tokens (by assumption)
  | with_reducible exact Tx.c_Assembly (by assumption)
  | with_reducible exact Tx.c_Assembler (by assumption)
  | assumption
  | exact Tx.c_Line (by assumption)
  | exact Tx.c_Tokens (by assumption)
  | exact Tx.c_Assembly (by assumption)
  | exact Tx.c_Assembler (by assumption))
local macro_rules | `(tactic| walk_at "noat") => `(tactic| first
  | fail
  | with_reducible exact Tx.n_Line_number (by assumption)
  | with_reducible exact Tx.n_Line_label (by assumption)
  | with_reducible exact Tx.n_Line_op (by assumption)
  | with_reducible exact Tx.n_Line_operands (by assumption)
  | with_reducible exact Tx.n_Tokens_number (by assumption)
  | with_reducible exact Tx.n_Tokens_tokens (by assumption)
  | with_reducible exact Tx.n_Tokens_at (by assumption)
  | with_reducible exact Tx.n_Assembly_words (by assumption)
  | with_reducible exact Tx.n_Assembly_names (by assumption)
  | with_reducible exact Tx.n_Assembler_base (by assumption)
  | with_reducible exact Tx.n_Assembler_names (by assumption)
  | with_reducible exact Tx.n_Assembler_words (by assumption)
  | assumption
  | exact Tx.n_Line_number (by assumption)
  | exact Tx.n_Line_label (by assumption)
  | exact Tx.n_Line_op (by assumption)
  | exact Tx.n_Line_operands (by assumption)
  | exact Tx.n_Tokens_number (by assumption)
  | exact Tx.n_Tokens_tokens (by assumption)
  | exact Tx.n_Tokens_at (by assumption)
  | exact Tx.n_Assembly_words (by assumption)
  | exact Tx.n_Assembly_names (by assumption)
  | exact Tx.n_Assembler_base (by assumption)
  | exact Tx.n_Assembler_names (by assumption)
  | exact Tx.n_Assembler_words (by assumption))
local macro_rules | `(tactic| walk_at "ne") => `(tactic| first
  | assumption
  | exact Ne.symm (by assumption)
  | exact M.ne_il (by assumption) (by assumption)
  | exact M.ne_li (by assumption) (by assumption))
local macro_rules | `(tactic| walk_at "hp0") => `(tactic| assumption)
local macro_rules | `(tactic| walk_at "s") => `(tactic| first
  | ((with_reducible refine' M.x_gtup ?xh ?xl ?_); (case xh => walk_at "sqt"); (case xl => exact rfl))
  | ((with_reducible refine' M.x_isFld ?xh ?xc ?xn ?xl ?_); (case xh => walk_at "hp"); (case xc => walk_at "cls"); (case xn => walk_at "noat"); (case xl => exact rfl))
  | ((with_reducible refine' M.x_isMeth ?xh ?xl ?_); (case xh => walk_at "hp"); (case xl => exact rfl))
  | ((with_reducible refine' M.x_isDG ?xh ?xl ?_); (case xh => walk_at "hp"); (case xl => exact rfl)))
local macro_rules | `(tactic| walk_at "hp") => `(tactic| first
  | assumption
  | exact upd_same
  | ((refine' M.Ext.at1 ?xe ?xn ?xq); (case xe => assumption); (case xn => walk_at "ne"); (case xq => walk_at "hp"))
  | ((refine' M.same_hp ?xe ?xq); (case xe => assumption); (case xq => walk_at "hp")))
local macro_rules | `(tactic| walk_at "seq") => `(tactic| first
  | assumption
  | ((refine' SqL.of ?xq); (case xq => walk_at "hp")))
local macro_rules | `(tactic| walk_at "at") => `(tactic| first
  | assumption
  | with_reducible exact M.atI_ints (by first | decide | omega) (by omega)
  | with_reducible exact M.atI_ints (by first | decide | omega) (by simp; omega)
  | exact rfl)
local macro_rules | `(tactic| walk_at "s") => `(tactic| ((with_reducible refine' M.x_setI ?xh ?x0 ?x1 ?_); (case xh => walk_at "hp"); (case x0 => omega); (case x1 => first | omega | (simp only [List.length_set]; omega))))

local macro_rules | `(tactic| walk_at "s") => `(tactic| first
  | ((with_reducible refine' M.x_lenLI ?xh ?_); (case xh => walk_at "seq"))
  | ((with_reducible refine' M.x_lenTI ?xh ?_); (case xh => walk_at "sqt")))

local macro_rules | `(tactic| walk_at "s") => `(tactic| first
  | ((with_reducible refine' M.x_slL ?xh ?_); (case xh => walk_at "seq")))

local macro_rules | `(tactic| walk_at "s") => `(tactic| first
  | ((with_reducible refine' M.x_setI ?xh ?x0 ?x1 ?_); (case xh => walk_at "hp"); (case x0 => first | decide | omega); (case x1 => first | decide | (simp only [List.length_set, List.length_cons, List.length_nil]; omega))))

local macro_rules | `(tactic| walk_at "s") => `(tactic| first
  | ((with_reducible refine' M.x_aug ?xh ?_); (case xh => exact rfl))
  | ((with_reducible refine' M.x_lenS ?xh ?_); (case xh => omega))
  | with_reducible refine M.x_inSg ?_
  | ((with_reducible refine' M.x_ixS ?xh ?xe ?_); (case xh => omega); (case xe => assumption)))

section
/-! ## instructions -/
section codes
variable {P : Program} {w : World} {K : PySem.W.Frag} {mg : Str → Option Value} {base : Heap}
def opsl : List Str := ["halt", "set", "copy", "add", "sub", "mul", "and", "or", "xor", "shl", "shr", "addi", "load", "store", "jump", "jal", "beq", "bne", "blt", "call", "getu", "putu", "gets", "puts", "until", "rest"]
def inBounds (a b c : Int) : Prop := (0 ≤ a ∧ a < 8) ∧ (0 ≤ b ∧ b < 8) ∧ (0 ≤ c ∧ c < 16)
instance (a b c : Int) : Decidable (inBounds a b c) := inferInstanceAs (Decidable (_ ∧ _))
def fitsM (op : Str) (a b c : Int) : Bool :=
  if (0 ≤ a ∧ a < 8) ∧ (0 ≤ b ∧ b < 8) ∧ (0 ≤ c ∧ c < 16) then
    if inV (.str op) [.str "halt", .str "until", .str "rest"] = true then decide (a = 0) && (decide (b = 0) && decide (c = 0))
    else if inV (.str op) [.str "set", .str "jump"] = true then decide (b = 0) && decide (c = 0)
    else if inV (.str op) [.str "copy", .str "jal", .str "getu", .str "putu"] = true then decide (c = 0)
    else if inV (.str op) [.str "add", .str "sub", .str "mul", .str "and", .str "or", .str "xor"] = true then decide (c < 8)
    else if op = "call" then decide (a = 0) && decide (b = 0)
    else if op = "gets" then decide (b = 0) && decide (c < 7)
    else if op = "puts" then decide (b = 0) && decide (c < 5)
    else true
  else false
theorem qb {Q : VK} {H : Hp} {b b' : Bool} (k : Q (.bl b) H) (e : b = b') : Q (.bl b') H := e ▸ k
def sp_fits : Sp := fun vs H Q _ => ∃ (op : Str) (a b c : Int), vs = [.str op, .int a, .int b, .int c] ∧ Q (.bl (fitsM op a b c)) H
theorem go_fits {op : Str} {a b c : Int} {H : Hp} {Q : VK} {E : XK} (k : Q (.bl (fitsM op a b c)) H) : sp_fits [.str op, .int a, .int b, .int c] H Q E := ⟨op, a, b, c, rfl, k⟩
abbrev M.N_fits : List Str := ["op", "a", "b", "c"]
theorem sc_fits : FnScope M.N_fits ["op", "a", "b", "c"] (defScope s_fits) := ⟨rfl, rfl, rfl, by decide +kernel, rfl, by decide +kernel, by decide +kernel⟩
theorem ok_fits (T : Tx P w K mg) : C8.Cal P w K mg base 1 "fits" sp_fits [] := by
  refine M.cal_mk T.f_fits T.g_fits sc_fits (fun _ _ _ _ _ _ us hl => match us, hl with | [_, _, _, _], _ => rfl) (by rintro vs H Q E ⟨op, a, b, c, rfl, _⟩; rfl) fun cdv A outer s H vs Q E hr h => ?_
  obtain ⟨op, a, b, c, rfl, k⟩ := h
  refine ⟨_, (pss_cons (ps_if (PW.pt (pw_or (pt_not (pt_chain op_le op_lt pe_int (pv 1) pe_int)) (pw_or (pt_not (pt_chain op_le op_lt pe_int (pv 2) pe_int)) (pw_or1 (pt_not (pt_chain op_le op_lt pe_int (pv 3) pe_int)))))) (pss_one (ps_ret pe_bl)) pss_nil) (pss_cons (ps_if (pt_cmpR op_in_seq (pv 0) (C8.pe_gc (by rfl) T.g_NONE) (by rfl)) (pss_one (ps_ret (pe_and (pe_cmpR op_eq (pv 1) pe_int (nomark _)) (pe_and (pe_cmpR op_eq (pv 2) pe_int (nomark _)) (pe_one (pe_cmpR op_eq (pv 3) pe_int (nomark _))))))) pss_nil) (pss_cons (ps_if (pt_cmpR op_in_seq (pv 0) (C8.pe_gc (by rfl) T.g_ONE) (by rfl)) (pss_one (ps_ret (pe_and (pe_cmpR op_eq (pv 2) pe_int (nomark _)) (pe_one (pe_cmpR op_eq (pv 3) pe_int (nomark _)))))) pss_nil) (pss_cons (ps_if (pt_cmpR op_in_seq (pv 0) (C8.pe_gc (by rfl) T.g_TWO) (by rfl)) (pss_one (ps_ret (pe_cmpR op_eq (pv 3) pe_int (nomark _)))) pss_nil) (pss_cons (ps_if (pt_cmpR op_in_seq (pv 0) (C8.pe_gc (by rfl) T.g_THREE) (by rfl)) (pss_one (ps_ret (pe_cmpR op_lt (pv 3) pe_int (nomark _)))) pss_nil) (pss_cons (ps_if (pt_cmpR op_eq (pv 0) pe_str (nomark _)) (pss_one (ps_ret (pe_and (pe_cmpR op_eq (pv 1) pe_int (nomark _)) (pe_one (pe_cmpR op_eq (pv 2) pe_int (nomark _)))))) pss_nil) (pss_cons (ps_if (pt_cmpR op_eq (pv 0) pe_str (nomark _)) (pss_one (ps_ret (pe_and (pe_cmpR op_eq (pv 2) pe_int (nomark _)) (pe_one (pe_cmpR op_lt (pv 3) (C8.pe_gc (by rfl) T.g_READABLE) (nomark _)))))) pss_nil) (pss_cons (ps_if (pt_cmpR op_eq (pv 0) pe_str (nomark _)) (pss_one (ps_ret (pe_and (pe_cmpR op_eq (pv 2) pe_int (nomark _)) (pe_one (pe_cmpR op_lt (pv 3) (C8.pe_gc (by rfl) T.g_WRITABLE) (nomark _)))))) pss_nil) (pss_one (ps_ret pe_bl)))))))))), ?_⟩
  walk_at "kk"
  walk_at "split" <;> exact qb k (by unfold fitsM; first | (simp [*]; done) | simp_all)
local macro_rules | `(tactic| walk_at "s") => `(tactic| with_reducible refine go_fits ?_)
theorem fits_bounds {op : Str} {a b c : Int} (h : fitsM op a b c = true) : (0 ≤ a ∧ a < 8) ∧ (0 ≤ b ∧ b < 8) ∧ (0 ≤ c ∧ c < 16) := by
  unfold fitsM at h
  split at h
  · assumption
  · cases h
theorem ops_idx {op : Str} (h : op ∈ opsl) : opsl.idxOf op < 26 := List.idxOf_lt_length_of_mem h
def encM (op : Str) (a b c : Int) : Int := (opsl.idxOf op : Int) * 1024 + a * 128 + b * 16 + c
def okM (op : Str) (a b c : Int) : Prop := op ∈ opsl ∧ fitsM op a b c = true
instance (op : Str) (a b c : Int) : Decidable (okM op a b c) := inferInstanceAs (Decidable (_ ∧ _))
/-- encode: the word; or BadCode (of the class at C) with its fields -/
def sp_encode (C : Addr) : Sp := fun vs H Q E => ∃ (op : Str) (a b c : Int), vs = [.str op, .int a, .int b, .int c] ∧ op.length ≤ 1000 ∧ a.natAbs < 1000000000 ∧ b.natAbs < 1000000000 ∧ c.natAbs < 1000000000 ∧
  (okM op a b c → Q (.int (encM op a b c)) H) ∧ (¬ okM op a b c → ∀ d, H d = none → E (.ref C) (some d) (upd H d (.xd [("c", .int c), ("b", .int b), ("a", .int a), ("op", .str op)])))
abbrev M.N_encode : List Str := ["op", "a", "b", "c"]
theorem sc_encode : FnScope M.N_encode ["op", "a", "b", "c"] (defScope s_encode) := ⟨rfl, rfl, rfl, by decide +kernel, rfl, by decide +kernel, by decide +kernel⟩
theorem inV_ops {op : Str} : inV (.str op) [.str "halt", .str "set", .str "copy", .str "add", .str "sub", .str "mul", .str "and", .str "or", .str "xor", .str "shl", .str "shr", .str "addi", .str "load", .str "store", .str "jump", .str "jal", .str "beq", .str "bne", .str "blt", .str "call", .str "getu", .str "putu", .str "gets", .str "puts", .str "until", .str "rest"] = decide (op ∈ opsl) := M.inV_strs (l := opsl)
theorem ok_encode (T : Tx P w K mg) : M.CalX P w K mg base 4 "encode" (sp_encode (He.ga K "BadCode")) := by
  refine M.cal_mkX T.f_encode T.g_encode sc_encode (fun _ _ _ _ _ _ us hl => match us, hl with | [_, _, _, _], _ => rfl) (by rintro vs H Q E ⟨op, a, b, c, rfl, _⟩; rfl) fun cdv A outer s H vs Q E hr h => ?_
  obtain ⟨op, a, b, c, rfl, hop, ha, hb, hc, k1, k2⟩ := h
  refine ⟨_, (pss_cons (ps_if (PW.pt (pw_or (pt_cmpR op_notIn_seq (pv 0) (C8.pe_gc (by rfl) T.g_OPS) (by rfl)) (pw_or1 (pt_not (pt_val (C8.pe_c (ok_fits T) hr (by decide) (by rfl) (pa_cons (pv 0) (pa_cons (pv 1) (pa_cons (pv 2) (pa_cons (pv 3) pa_nil)))))))))) (pss_one (M.ps_rz rfl (L2N.takes_of rfl rfl rfl rfl) (XM.pmk_ok T.e_BadCode hr (pa_cons (pv 0) (pa_cons (pv 1) (pa_cons (pv 2) (pa_cons (pv 3) pa_nil)))) T.g_BadCode T.b_str T.b_super (by rfl)))) pss_nil) (pss_one (ps_ret (pe_op op_add (pe_op op_add (pe_op op_add (pe_op op_shl (pe_bm PySem.F.plainAttrs_tuple PySem.F.slot_tuple_index PySem.F.type_tuple_index M.mt_tindex (C8.pe_gc (by rfl) T.g_OPS) (pa_cons (pv 0) pa_nil)) pe_int) (pe_op op_shl (pv 1) pe_int)) (pe_op op_shl (pv 2) pe_int)) (pv 3))))), ?_⟩
  walk_at "kk"
  walk_at "go"
  rw [inV_ops]
  walk_at "go"
  refine M.x_ifD (fun h1 => ?_) (fun h1 => ?_)
  · walk_at "go"
    refine M.x_if (fun h2 => ?_) (fun h2 => ?_)
    · walk_at "go"
      have hi := ops_idx h1
      have hbd := fits_bounds h2
      refine M.x_tidx (l := opsl) (T.q_OPS _) h1 ?_
      walk_at "go"
      exact k1 ⟨h1, h2⟩
    · walk_at "go"
      refine ⟨rfl, ?_, fun d hd => k2 (fun q => by rw [q.2] at h2; cases h2) d hd⟩
      intro v hv
      simp only [List.mem_cons, List.not_mem_nil, or_false] at hv
      rcases hv with rfl | rfl | rfl | rfl
      · exact .inr ⟨_, rfl, hop⟩
      · exact .inl ⟨_, rfl, ha⟩
      · exact .inl ⟨_, rfl, hb⟩
      · exact .inl ⟨_, rfl, hc⟩
  · walk_at "go"
    refine ⟨rfl, ?_, fun d hd => k2 (fun q => h1 q.1) d hd⟩
    intro v hv
    simp only [List.mem_cons, List.not_mem_nil, or_false] at hv
    rcases hv with rfl | rfl | rfl | rfl
    · exact .inr ⟨_, rfl, hop⟩
    · exact .inl ⟨_, rfl, ha⟩
    · exact .inl ⟨_, rfl, hb⟩
    · exact .inl ⟨_, rfl, hc⟩
theorem and_7 {x : Int} (h : 0 ≤ x) : Builtin.bitAnd x 7 = x % 8 := by
  obtain ⟨n, rfl⟩ := Int.eq_ofNat_of_zero_le h
  rw [PyProof.Rows.bitAnd_pp h (by decide)]
  have e := Nat.and_two_pow_sub_one_eq_mod n 3
  show ((n &&& 7 : Nat) : Int) = _
  rw [show (7 : Nat) = 2 ^ 3 - 1 by decide, e]
  push_cast
  rfl
theorem and_15 {x : Int} (h : 0 ≤ x) : Builtin.bitAnd x 15 = x % 16 := by
  obtain ⟨n, rfl⟩ := Int.eq_ofNat_of_zero_le h
  rw [PyProof.Rows.bitAnd_pp h (by decide)]
  have e := Nat.and_two_pow_sub_one_eq_mod n 4
  show ((n &&& 15 : Nat) : Int) = _
  rw [show (15 : Nat) = 2 ^ 4 - 1 by decide, e]
  push_cast
  rfl
def opOf (x : Int) : Str := opsl.getD (x / 1024).toNat ""
def decOk (x : Int) : Prop := x < 26624 ∧ fitsM (opOf x) (x / 128 % 8) (x / 16 % 8) (x % 16) = true
instance (x : Int) : Decidable (decOk x) := inferInstanceAs (Decidable (_ ∧ _))
def decV (x : Int) : List V := [.str (opOf x), .int (x / 128 % 8), .int (x / 16 % 8), .int (x % 16)]
def sp_decode : Sp := fun vs H Q _ => ∃ x : Int, vs = [.int x] ∧ (0 ≤ x ∧ x < 65536) ∧ (¬ decOk x → Q .non H) ∧ (decOk x → ∀ p H', H p = none → Same H H' → H' p = some (.tup (decV x)) → Q (.ref p) H')
theorem op_at {x : Int} (h : 0 ≤ x ∧ x < 26624) : atI (opsl.map V.str) (x / 2 ^ Int.toNat 10) = some (.str (opOf x)) := by
  have e : x / 2 ^ Int.toNat 10 = x / 1024 := by rfl
  rw [e]
  have hl : (x / 1024).toNat < opsl.length := by
    have e2 : opsl.length = 26 := rfl
    omega
  refine M.atI_of (xs := opsl.map V.str) (by omega) ?_
  rw [List.getElem?_map, List.getElem?_eq_getElem hl]
  simp [opOf, List.getD, hl]
abbrev M.N_decode : List Str := ["word", "op", "a", "b", "c"]
theorem sc_decode : FnScope M.N_decode ["word"] (defScope s_decode) := ⟨rfl, rfl, rfl, by decide +kernel, rfl, by decide +kernel, by decide +kernel⟩
theorem ok_decode (T : Tx P w K mg) : C8.Cal P w K mg base 2 "decode" sp_decode [] := by
  refine M.cal_mk T.f_decode T.g_decode sc_decode (fun _ _ _ _ _ _ us hl => match us, hl with | [_], _ => rfl) (by rintro vs H Q E ⟨x, rfl, _⟩; rfl) fun cdv A outer s H vs Q E hr h => ?_
  obtain ⟨x, rfl, hx, k1, k2⟩ := h
  refine ⟨_, (pss_cons (ps_if (pt_cmpR op_ge (pe_op op_shr (pv 0) pe_int) (pe_callB M.call_len (by rfl) T.b_len (by decide +kernel) (pa_cons (C8.pe_gc (by rfl) T.g_OPS) pa_nil)) (nomark _)) (pss_one (ps_ret pe_non)) pss_nil) (pss_cons (ps_set (i := 1) sc_decode.nd rfl (Or.inl rfl) (pe_ix ix_tup (C8.pe_gc (by rfl) T.g_OPS) (pe_op op_shr (pv 0) pe_int) (fun _ _ => rfl))) (pss_cons (ps_set (i := 2) sc_decode.nd rfl (Or.inl rfl) (pe_op op_and (pe_op op_shr (pv 0) pe_int) pe_int)) (pss_cons (ps_set (i := 3) sc_decode.nd rfl (Or.inl rfl) (pe_op op_and (pe_op op_shr (pv 0) pe_int) pe_int)) (pss_cons (ps_set (i := 4) sc_decode.nd rfl (Or.inl rfl) (pe_op op_and (pv 0) pe_int)) (pss_one (ps_ret (pe_ifExp (pt_val (C8.pe_c (ok_fits T) hr (by decide) (by rfl) (pa_cons (pv 1) (pa_cons (pv 2) (pa_cons (pv 3) (pa_cons (pv 4) pa_nil)))))) (pe_tup (pa_cons (pv 1) (pa_cons (pv 2) (pa_cons (pv 3) (pa_cons (pv 4) pa_nil))))) pe_non)))))))), ?_⟩
  walk_at "kk"
  walk_at "go"
  have e10 : x / 2 ^ Int.toNat 10 = x / 1024 := by rfl
  have e7 : Builtin.bitAnd (x / 2 ^ Int.toNat 7) 7 = x / 128 % 8 := and_7 (x := x / 128) (by omega)
  have e4 : Builtin.bitAnd (x / 2 ^ Int.toNat 4) 7 = x / 16 % 8 := and_7 (x := x / 16) (by omega)
  have e0 : Builtin.bitAnd x 15 = x % 16 := and_15 hx.1
  refine M.x_ifD (fun h1 => ?_) (fun h1 => ?_)
  · walk_at "go"
    have h1 : x / 1024 ≥ 26 := h1
    exact k1 (fun q => by have := q.1; omega)
  · have h1 : ¬ x / 1024 ≥ 26 := h1
    walk_at "go"
    refine M.x_ixT (T.q_OPS _) (op_at (x := x) ⟨hx.1, by omega⟩) ?_
    walk_at "go"
    rw [e7, e4, e0]
    refine M.x_if (fun h2 => ?_) (fun h2 => ?_)
    · walk_at "go"
      intro p H' hp e h'
      exact k2 ⟨by omega, h2⟩ p H' hp e h'
    · walk_at "go"
      exact k1 (fun q => by rw [q.2] at h2; cases h2)
def sp_size_of : Sp := fun vs H Q _ => ∃ op : Str, vs = [.str op] ∧ Q (.int (if op = "set" then 2 else 1)) H
theorem go_size_of {op : Str} {H : Hp} {Q : VK} {E : XK} (k : Q (.int (if op = "set" then 2 else 1)) H) : sp_size_of [.str op] H Q E := ⟨op, rfl, k⟩
abbrev M.N_size_of : List Str := ["op"]
theorem sc_size_of : FnScope M.N_size_of ["op"] (defScope s_size_of) := ⟨rfl, rfl, rfl, by decide +kernel, rfl, by decide +kernel, by decide +kernel⟩
theorem ok_size_of (T : Tx P w K mg) : C8.Cal P w K mg base 1 "size_of" sp_size_of [] := by
  refine M.cal_mk T.f_size_of T.g_size_of sc_size_of (fun _ _ _ _ _ _ us hl => match us, hl with | [_], _ => rfl) (by rintro vs H Q E ⟨op, rfl, _⟩; rfl) fun cdv A outer s H vs Q E hr h => ?_
  obtain ⟨op, rfl, k⟩ := h
  refine ⟨_, (pss_one (ps_ret (pe_ifExp (pt_cmpR op_eq (pv 0) pe_str (nomark _)) pe_int pe_int))), ?_⟩
  walk_at "kk"
  walk_at "go"
  refine M.x_ifD (fun h1 => ?_) (fun h1 => ?_)
  · walk_at "go"
    rw [if_pos h1] at k
    exact k
  · walk_at "go"
    rw [if_neg h1] at k
    exact k
end codes

section asm1
open SX
variable {P : Program} {w : World} {K : PySem.W.Frag} {mg : Str → Option Value} {base : Heap}
def sp_wrap : Sp := fun vs H Q _ => ∃ n : Int, vs = [.int n] ∧ Q (.int (n % 65536)) H
theorem go_wrap {n : Int} {H : Hp} {Q : VK} {E : XK} (k : Q (.int (n % 65536)) H) : sp_wrap [.int n] H Q E := ⟨n, rfl, k⟩
abbrev M.N_wrap : List Str := ["number"]
theorem sc_wrap : FnScope M.N_wrap ["number"] (defScope s_wrap) := ⟨rfl, rfl, rfl, by decide +kernel, rfl, by decide +kernel, by decide +kernel⟩
theorem ok_wrap (T : Tx P w K mg) : C8.Cal P w K mg base 1 "wrap" sp_wrap [] := by
  refine M.cal_mk T.f_wrap T.g_wrap sc_wrap (fun _ _ _ _ _ _ us hl => match us, hl with | [_], _ => rfl) (by rintro vs H Q E ⟨n, rfl, _⟩; rfl) fun cdv A outer s H vs Q E hr h => ?_
  obtain ⟨n, rfl, k⟩ := h
  refine ⟨_, (pss_one (ps_ret (pe_op op_mod (pe_callTy M.call_int (by rfl) T.b_int (by decide +kernel) (pa_cons (pv 0) pa_nil)) (C8.pe_gc (by rfl) T.g_MODULUS)))), ?_⟩
  walk_at "kk"
  walk_at "go"
  exact k
/-! ## the characters of a kind -/
def inZ (z : Str) (c : Nat) : Bool := decide (c ∈ z.cps.toList)
def runF (l : List Nat) (z : Str) : Nat := (l.takeWhile (inZ z)).length
theorem runF_le (l : List Nat) (z : Str) : runF l z ≤ l.length := by
  unfold runF
  have := (List.takeWhile_sublist (l := l) (inZ z)).length_le
  exact this
theorem runF_cons {c : Nat} {l : List Nat} {z : Str} (h : inZ z c = true) : runF (c :: l) z = runF l z + 1 := by unfold runF; rw [List.takeWhile_cons, if_pos h]; rfl
theorem runF_stop {c : Nat} {l : List Nat} {z : Str} (h : inZ z c = false) : runF (c :: l) z = 0 := by unfold runF; rw [List.takeWhile_cons, if_neg (by rw [h]; decide)]; rfl
def sp_end_of : Sp := fun vs H Q _ => ∃ (l : List Nat) (n : Nat) (z : Str), vs = [.str (S l), .int n, .str z] ∧ n ≤ l.length ∧ l.length ≤ 100000 ∧ Q (.int ((n + runF (l.drop n) z : Nat) : Int)) H
theorem go_end_of {l : List Nat} {n : Nat} {z : Str} {H : Hp} {Q : VK} {E : XK} (h : n ≤ l.length) (hl : l.length ≤ 100000) (k : Q (.int ((n + runF (l.drop n) z : Nat) : Int)) H) : sp_end_of [.str (S l), .int n, .str z] H Q E := ⟨l, n, z, rfl, h, hl, k⟩
abbrev M.N_end_of : List Str := ["text", "at", "chars"]
theorem sc_end_of : FnScope M.N_end_of ["text", "at", "chars"] (defScope s_end_of) := ⟨rfl, rfl, rfl, by decide +kernel, rfl, by decide +kernel, by decide +kernel⟩
theorem ok_end_of (T : Tx P w K mg) : C8.Cal P w K mg base 1 "end_of" sp_end_of [] := by
  refine M.cal_mk T.f_end_of T.g_end_of sc_end_of (fun _ _ _ _ _ _ us hl => match us, hl with | [_, _, _], _ => rfl) (by rintro vs H Q E ⟨l, n, z, rfl, _⟩; rfl) fun cdv A outer s H vs Q E hr h => ?_
  obtain ⟨l, n, z, rfl, hn, hl, k⟩ := h
  refine ⟨_, (pss_cons (ps_while PassesOwn.never (PW.pt (pw_and (pt_cmpR op_lt (pv 1) (pe_callB M.call_lenS (by rfl) T.b_len (by decide +kernel) (pa_cons (pv 0) pa_nil)) (nomark _)) (pw_and1 (pt_cmpR op_inS (pe_ix ix_str (pv 0) (pv 1) (fun _ _ => rfl)) (pv 2) (by rfl))))) (pss_one (ps_aug (i := 1) sc_end_of.nd rfl (Or.inl rfl) pe_int ip_add))) (pss_one (ps_ret (pv 1)))), ?_⟩
  refine M.x_st (σ0 := [some _, some _, some _]) rfl ?_
  walk_at "kk"
  walk_at "go"
  refine M.x_while (fun m σ' H' => ∃ i : Nat, σ' = [some (.str (S l)), some (.int i), some (.str z)] ∧ H' = H ∧ i ≤ l.length ∧ m = l.length - i ∧ i + runF (l.drop i) z = n + runF (l.drop n) z) (l.length - n) ⟨n, rfl, rfl, hn, rfl, rfl⟩ ?_
  rintro m σ' H' ⟨i, rfl, rfl, hi, hm, he⟩
  walk_at "go"
  refine M.x_ifD (fun c1 => ?_) (fun c1 => ?_)
  · have hil : i < l.length := by omega
    have hx : l[i]? = some l[i] := List.getElem?_eq_getElem hil
    have hd : l.drop i = l[i] :: l.drop (i + 1) := List.drop_eq_getElem_cons hil
    walk_at "go"
    refine M.x_if (fun c2 => ?_) (fun c2 => ?_)
    · walk_at "go"
      refine ⟨l.length - (i + 1), by omega, i + 1, ?_, rfl, by omega, rfl, ?_⟩
      · show [_, some (V.int ((i : Int) + 1)), _] = _
        rw [show ((i : Int) + 1) = ((i + 1 : Nat) : Int) by omega]
      · rw [hd, runF_cons c2] at he
        omega
    · walk_at "go"
      rw [hd, runF_stop c2, Nat.add_zero] at he
      rw [he]
      exact k
  · walk_at "go"
    have : i = l.length := by omega
    rw [this, List.drop_length] at he
    have e0 : runF ([] : List Nat) z = 0 := rfl
    rw [e0, Nat.add_zero] at he
    rw [this, he]
    exact k
end asm1

end
section
section asm2
open SX
variable {P : Program} {w : World} {K : PySem.W.Frag} {mg : Str → Option Value} {base : Heap}
/-! ## the tokens of a line -/
def LETS : Str := "ABCDEFGHIJKLMNOPQRSTUVWXYZabcdefghijklmnopqrstuvwxyz"
def DIGS : Str := "0123456789"
def LUS : Str := LETS ++ "_"
def NMS : Str := LETS ++ DIGS ++ "_"
def MRKS : Str := ",:+-"
def SPS : Str := " "
structure NumTok (l : List Nat) (n : Nat) : Prop where
  r : runF l DIGS = n
  b : 1 ≤ n ∧ n ≤ 5
  z : l[0]? = some 48 → n = 1
  e : ∀ c, l[n]? = some c → inZ LUS c = false
  v : NumText.digitsVal (l.take n) ≤ 65535
  d : (l.take n).all (fun c => decide (48 ≤ c) && decide (c ≤ 57)) = true
theorem take_drop1 {l : List Nat} {i : Nat} : (l.drop i).take 1 = match l[i]? with | some c => [c] | none => [] := by
  by_cases h : i < l.length
  · rw [List.drop_eq_getElem_cons h, List.getElem?_eq_getElem h]; rfl
  · rw [List.drop_of_length_le (by omega), List.getElem?_eq_none (by omega)]; rfl
def sp_number_end : Sp := fun vs H Q _ => ∃ (l : List Nat) (i n : Nat) (u : Int), vs = [.str (S l), .int i, .int u] ∧ i < l.length ∧ l.length ≤ 100000 ∧ NumTok (l.drop i) n ∧ Q (.int ((i + n : Nat) : Int)) H
theorem go_number_end {l : List Nat} {i n : Nat} {u : Int} {H : Hp} {Q : VK} {E : XK} (h : i < l.length) (hl : l.length ≤ 100000) (nt : NumTok (l.drop i) n) (k : Q (.int ((i + n : Nat) : Int)) H) : sp_number_end [.str (S l), .int i, .int u] H Q E := ⟨l, i, n, u, rfl, h, hl, nt, k⟩
theorem str_empty : Str.ofString "" = S [] := rfl
abbrev M.N_number_end : List Str := ["text", "at", "number", "stop", "digits", "behind"]
theorem sc_number_end : FnScope M.N_number_end ["text", "at", "number"] (defScope s_number_end) := ⟨rfl, rfl, rfl, by decide +kernel, rfl, by decide +kernel, by decide +kernel⟩
theorem ok_number_end (T : Tx P w K mg) : M.CalX P w K mg base 4 "number_end" sp_number_end := by
  refine M.cal_mkX T.f_number_end T.g_number_end sc_number_end (fun _ _ _ _ _ _ us hl => match us, hl with | [_, _, _], _ => rfl) (by rintro vs H Q E ⟨l, i, n, u, rfl, _⟩; rfl) fun cdv A outer s H vs Q E hr h => ?_
  obtain ⟨l, i, n, u, rfl, hi, hl, nt, k⟩ := h
  refine ⟨_, (pss_cons (ps_set (i := 3) sc_number_end.nd rfl (Or.inl rfl) (C8.pe_c (ok_end_of T) hr (by decide) (by rfl) (pa_cons (pv 0) (pa_cons (pv 1) (pa_cons (C8.pe_gc (by rfl) T.g_DIGITS) pa_nil))))) (pss_cons (ps_set (i := 4) sc_number_end.nd rfl (Or.inl rfl) (pe_slice M.sl_str (pv 0) (po_some (pv 1)) (po_some (pv 3)))) (pss_cons (ps_set (i := 5) sc_number_end.nd rfl (Or.inl rfl) (pe_slice M.sl_str (pv 0) (po_some (pv 3)) (po_some (pe_op op_add (pv 3) pe_int)))) (pss_cons (ps_if (PW.pt (pw_or (pt_cmpR op_gt (pe_callB M.call_lenS (by rfl) T.b_len (by decide +kernel) (pa_cons (pv 4) pa_nil)) (C8.pe_gc (by rfl) T.g_MOST_DIGITS) (nomark _)) (pw_or (PW.pt (pw_and (pt_cmpR op_eq (pe_ix ix_str (pv 4) pe_int (fun _ _ => rfl)) pe_str (nomark _)) (pw_and1 (pt_cmpR op_gt (pe_callB M.call_lenS (by rfl) T.b_len (by decide +kernel) (pa_cons (pv 4) pa_nil)) pe_int (nomark _))))) (pw_or1 (PW.pt (pw_and (pt_cmpR op_ne (pv 5) pe_str (nomark _)) (pw_and1 (pt_cmpR op_inS (pv 5) (pe_op M.op_addS (C8.pe_gc (by rfl) T.g_LETTERS) pe_str) (by rfl))))))))) (pss_one (M.ps_rz rfl (L2N.takes_of rfl rfl rfl rfl) (XM.pmk_ok T.e_Malformed hr (pa_cons (pv 2) (pa_cons (pe_op op_add (pv 1) pe_int) pa_nil)) T.g_Malformed T.b_str T.b_super (by rfl)))) pss_nil) (pss_cons (ps_if (pt_cmpR op_gt (pe_callTy M.call_intS (by rfl) T.b_int (by decide +kernel) (pa_cons (pv 4) pa_nil)) (C8.pe_gc (by rfl) T.g_GREATEST) (nomark _)) (pss_one (M.ps_rz rfl (L2N.takes_of rfl rfl rfl rfl) (XM.pmk_ok T.e_Malformed hr (pa_cons (pv 2) (pa_cons (pe_op op_add (pv 1) pe_int) pa_nil)) T.g_Malformed T.b_str T.b_super (by rfl)))) pss_nil) (pss_one (ps_ret (pv 3)))))))), ?_⟩
  refine M.x_st (σ0 := [some _, some _, some _, none, none, none]) rfl ?_
  walk_at "kk"
  walk_at "go"
  refine go_end_of (by omega) hl ?_
  have e : runF (l.drop i) "0123456789" = n := nt.r
  rw [e]
  obtain ⟨b1, b2⟩ := nt.b
  have nl : n ≤ (l.drop i).length := by rw [← e]; exact runF_le _ _
  rw [List.length_drop] at nl
  walk_at "go"
  refine M.x_slS (by omega) ?_
  rw [show i + n - i = n by omega]
  obtain ⟨ds, hds⟩ : ∃ ds, (l.drop i).take n = ds := ⟨_, rfl⟩
  have dl : ds.length = n := by rw [← hds, List.length_take, List.length_drop]; omega
  rw [hds]
  have ev : NumText.digitsVal ds ≤ 65535 := by rw [← hds]; exact nt.v
  have ed : ds.all (fun c => decide (48 ≤ c) && decide (c ≤ 57)) = true := by rw [← hds]; exact nt.d
  have e1 : ((i + n : Nat) : Int) + 1 = ((i + n + 1 : Nat) : Int) := by omega
  walk_at "go"
  rw [e1]
  refine M.x_slS (by omega) ?_
  rw [show i + n + 1 - (i + n) = 1 by omega]
  walk_at "go"
  obtain ⟨d0, h0⟩ : ∃ d0, ds[0]? = some d0 := ⟨_, List.getElem?_eq_getElem (by omega)⟩
  have h0' : (l.drop i)[0]? = some d0 := by
    rw [← hds, List.getElem?_take, if_pos (by omega)] at h0
    exact h0
  refine M.x_ixS (i := 0) (by omega) h0 ?_
  have hC : n ≤ 1 ∨ ¬ (S [d0] = Str.ofString "0") := by
    by_cases q : d0 = 48
    · subst q
      exact .inl (by rw [nt.z h0']; exact Nat.le_refl 1)
    · exact .inr fun z => q (by have := S_inj (z : S [d0] = S [48]); injection this)
  have ne : ∀ c, (l.drop i)[n]? = some c → inZ LUS c = false := nt.e
  rw [take_drop1]
  walk_at "go"
  refine M.x_ifD (fun c1 => ?_) (fun c1 => ?_)
  all_goals
    try have n1 : n ≤ 1 := hC.resolve_right (not_not_intro c1)
    walk_at "go"
    cases hb : l[i + n]? with
    | none =>
      walk_at "go"
      refine M.x_intS ed (by intro z; rw [z] at dl; simp at dl; omega) (by omega) ?_
      walk_at "go"
      exact k
    | some c =>
      have nc : decide (c ∈ (LETS ++ "_" : Str).cps.toList) = false := ne c (by rw [List.getElem?_drop]; exact hb)
      dsimp only
      refine M.x_ifTD (show S [c] ≠ Str.ofString "" from fun z => by have := S_inj (z : S [c] = S []); cases this) ?_
      walk_at "go"
      rw [show decide (c ∈ (Str.ofString "ABCDEFGHIJKLMNOPQRSTUVWXYZabcdefghijklmnopqrstuvwxyz" ++ Str.ofString "_").cps.toList) = false from nc]
      walk_at "go"
      refine M.x_intS ed (by intro z; rw [z] at dl; simp at dl; omega) (by omega) ?_
      walk_at "go"
      exact k
end asm2

end
section
section asm3
open SX
variable {P : Program} {w : World} {K : PySem.W.Frag} {mg : Str → Option Value} {base : Heap}
/-- a token: column, kind, text -/
structure Tok where
  col : Nat
  kind : Str
  txt : List Nat
inductive Tok1 : List Nat → Str → Nat → Prop
  | name {c r n} (h : inZ LETS c = true) (hr : runF (c :: r) NMS = n) (hn : n ≤ 24) : Tok1 (c :: r) "name" n
  | num {c r n} (h0 : inZ LETS c = false) (h : inZ DIGS c = true) (nt : NumTok (c :: r) n) : Tok1 (c :: r) "number" n
  | mark {c r} (h0 : inZ LETS c = false) (h1 : inZ DIGS c = false) (h : inZ MRKS c = true) : Tok1 (c :: r) "mark" 1
inductive TkL : Nat → List Nat → List Tok → Prop
  | nil {i} : TkL i [] []
  | rem {i r} : TkL i (59 :: r) []
  | tok {i c r k n ts} (h : c ≠ 59) (t : Tok1 (c :: r) k n) (next : TkL (i + n + runF ((c :: r).drop n) SPS) ((c :: r).drop (n + runF ((c :: r).drop n) SPS)) ts) : TkL i (c :: r) (⟨i + 1, k, (c :: r).take n⟩ :: ts)
def TokAt (K : PySem.W.Frag) (H : Hp) (p : Addr) (t : Tok) : Prop := SqT K H p [.int t.col, .str t.kind, .str (S t.txt)]
structure TksAt (K : PySem.W.Frag) (H : Hp) (q : Addr) (ts : List Tok) : Prop where
  ex : ∃ ps : List Addr, H q = some (.lst (ps.map V.ref)) ∧ ps.length = ts.length ∧ ∀ (i : Nat) p t, ps[i]? = some p → ts[i]? = some t → TokAt K H p t
theorem TksAt.nil {H : Hp} {q : Addr} (h : H q = some (.lst [])) : TksAt K H q [] := ⟨[], h, rfl, fun i p t hp => by cases hp⟩
theorem TksAt.put {H H1 H2 : Hp} {q p : Addr} {ts : List Tok} {t : Tok} {xs : List V} (h : TksAt K H q ts) (e : Same H H1) (hp : H1 p = some (.tup [.int t.col, .str t.kind, .str (S t.txt)])) (x : M.Ext [q] H1 H2) (hx : H q = some (.lst xs)) (ho : H2 q = some (.lst (xs ++ [.ref p]))) : TksAt K H2 q (ts ++ [t]) := by
  obtain ⟨ps, h1, h2, h3⟩ := h.ex
  rw [hx] at h1
  cases h1
  have kl := M.Kp.lst x (e _ _ hx)
  refine ⟨ps ++ [p], by rw [ho, List.map_append]; rfl, by rw [List.length_append, List.length_append, h2]; rfl, fun i r u hr hu => ?_⟩
  by_cases c : i < ps.length
  · rw [List.getElem?_append_left c] at hr
    rw [List.getElem?_append_left (by omega)] at hu
    exact M.SqT.kp ((M.Kp.same e).trans kl) (h3 i r u hr hu)
  · rw [List.getElem?_append_right (by omega)] at hr
    rw [List.getElem?_append_right (by omega)] at hu
    have i0 : i - ps.length = 0 := by
      have := (List.getElem?_eq_some_iff.mp hr).1
      simp at this
      omega
    rw [i0] at hr
    rw [show i - ts.length = 0 by omega] at hu
    cases hr
    cases hu
    exact SqT.of (kl _ _ hp trivial)
theorem TksAt.same {H H1 : Hp} {q : Addr} {ts : List Tok} (h : TksAt K H q ts) (e : Same H H1) : TksAt K H1 q ts := by
  obtain ⟨ps, h1, h2, h3⟩ := h.ex
  exact ⟨ps, e _ _ h1, h2, fun i p t hp ht => M.Same.st e (h3 i p t hp ht)⟩
theorem Tok1.le {l : List Nat} {k : Str} {n : Nat} (h : Tok1 l k n) : 1 ≤ n ∧ n ≤ l.length := by
  cases h with
  | name h hr hn =>
    rename_i c r
    have := runF_le (c :: r) NMS
    rw [hr] at this
    refine ⟨?_, this⟩
    have ih : inZ NMS c = true := by
      unfold inZ at h ⊢
      rw [decide_eq_true_iff] at h ⊢
      show c ∈ TL.tl _
      unfold NMS
      rw [TL.tl_append, TL.tl_append]
      exact List.mem_append.mpr (.inl (List.mem_append.mpr (.inl h)))
    rw [← hr, runF_cons ih]
    omega
  | num h0 h nt =>
    rename_i c r
    have := runF_le (c :: r) DIGS
    rw [nt.r] at this
    exact ⟨nt.b.1, this⟩
  | mark h0 h1 h => exact ⟨by omega, by simp⟩
def toksOk (l : List Nat) (ts : List Tok) : Prop := TkL (runF l SPS) (l.drop (runF l SPS)) ts
def sp_tokens_of (K : PySem.W.Frag) : Sp := fun vs H Q _ => ∃ (l : List Nat) (u : Int) (ts : List Tok), vs = [.str (S l), .int u] ∧ l.length ≤ 50000 ∧ toksOk l ts ∧ ∀ q H', H q = none → Same H H' → TksAt K H' q ts → Q (.ref q) H'
theorem go_tokens_of {l : List Nat} {u : Int} {ts : List Tok} {H : Hp} {Q : VK} {E : XK} (hl : l.length ≤ 50000) (ht : toksOk l ts) (k : ∀ q H', H q = none → Same H H' → TksAt K H' q ts → Q (.ref q) H') : sp_tokens_of K [.str (S l), .int u] H Q E := ⟨l, u, ts, rfl, hl, ht, k⟩
abbrev M.N_tokens_of : List Str := ["text", "number", "tokens", "at", "stop", "kind"]
theorem sc_tokens_of : FnScope M.N_tokens_of ["text", "number"] (defScope s_tokens_of) := ⟨rfl, rfl, rfl, by decide +kernel, rfl, by decide +kernel, by decide +kernel⟩
theorem ok_tokens_of (T : Tx P w K mg) : M.CalX P w K mg base 5 "tokens_of" (sp_tokens_of K) := by
  refine M.cal_mkX T.f_tokens_of T.g_tokens_of sc_tokens_of (fun _ _ _ _ _ _ us hl => match us, hl with | [_, _], _ => rfl) (by rintro vs H Q E ⟨l, u, ts, rfl, _⟩; rfl) fun cdv A outer s H vs Q E hr h => ?_
  obtain ⟨l, u, ts, rfl, hl, htk, k⟩ := h
  refine ⟨_, (pss_cons (ps_set (i := 2) sc_tokens_of.nd rfl (Or.inl rfl) (pe_lst pa_nil)) (pss_cons (ps_set (i := 3) sc_tokens_of.nd rfl (Or.inl rfl) (C8.pe_c (ok_end_of T) hr (by decide) (by rfl) (pa_cons (pv 0) (pa_cons pe_int (pa_cons pe_str pa_nil))))) (pss_cons (ps_while (L2.passes_of rfl) (PW.pt (pw_and (pt_cmpR op_lt (pv 3) (pe_callB M.call_lenS (by rfl) T.b_len (by decide +kernel) (pa_cons (pv 0) pa_nil)) (nomark _)) (pw_and1 (pt_cmpR op_ne (pe_ix ix_str (pv 0) (pv 3) (fun _ _ => rfl)) pe_str (nomark _))))) (C8.pss_cut (ps_if (pt_cmpR op_inS (pe_ix ix_str (pv 0) (pv 3) (fun _ _ => rfl)) (C8.pe_gc (by rfl) T.g_LETTERS) (by rfl)) (pss_cons (ps_set (i := 4) sc_tokens_of.nd rfl (Or.inl rfl) (C8.pe_c (ok_end_of T) hr (by decide) (by rfl) (pa_cons (pv 0) (pa_cons (pv 3) (pa_cons (pe_op M.op_addS (pe_op M.op_addS (C8.pe_gc (by rfl) T.g_LETTERS) (C8.pe_gc (by rfl) T.g_DIGITS)) pe_str) pa_nil))))) (pss_cons (ps_set (i := 5) sc_tokens_of.nd rfl (Or.inl rfl) pe_str) (pss_one (ps_if (pt_cmpR op_gt (pe_op op_sub (pv 4) (pv 3)) (C8.pe_gc (by rfl) T.g_MOST_NAME) (nomark _)) (pss_one (M.ps_rz rfl (L2N.takes_of rfl rfl rfl rfl) (XM.pmk_ok T.e_Malformed hr (pa_cons (pv 1) (pa_cons (pe_op op_add (pv 3) pe_int) pa_nil)) T.g_Malformed T.b_str T.b_super (by rfl)))) pss_nil)))) (pss_one (ps_if (pt_cmpR op_inS (pe_ix ix_str (pv 0) (pv 3) (fun _ _ => rfl)) (C8.pe_gc (by rfl) T.g_DIGITS) (by rfl)) (pss_cons (ps_set (i := 4) sc_tokens_of.nd rfl (Or.inl rfl) (M.pe_cX (ok_number_end T) hr (by decide) (by rfl) (L2N.takes_of rfl rfl rfl rfl) (pa_cons (pv 0) (pa_cons (pv 3) (pa_cons (pv 1) pa_nil))))) (pss_one (ps_set (i := 5) sc_tokens_of.nd rfl (Or.inl rfl) pe_str))) (pss_one (ps_if (pt_cmpR op_inS (pe_ix ix_str (pv 0) (pv 3) (fun _ _ => rfl)) (C8.pe_gc (by rfl) T.g_MARKS) (by rfl)) (pss_cons (ps_set (i := 4) sc_tokens_of.nd rfl (Or.inl rfl) (pe_op op_add (pv 3) pe_int)) (pss_one (ps_set (i := 5) sc_tokens_of.nd rfl (Or.inl rfl) pe_str))) (pss_one (M.ps_rz rfl (L2N.takes_of rfl rfl rfl rfl) (XM.pmk_ok T.e_Malformed hr (pa_cons (pv 1) (pa_cons (pe_op op_add (pv 3) pe_int) pa_nil)) T.g_Malformed T.b_str T.b_super (by rfl))))))))) (pss_cons (ps_expr (pe_bm PySem.F.plainAttrs_list PySem.F.slot_list_append PySem.F.type_list_append mt_append (pv 2) (pa_cons (pe_tup (pa_cons (pe_op op_add (pv 3) pe_int) (pa_cons (pv 5) (pa_cons (pe_slice M.sl_str (pv 0) (po_some (pv 3)) (po_some (pv 4))) pa_nil)))) pa_nil))) (pss_one (ps_set (i := 3) sc_tokens_of.nd rfl (Or.inl rfl) (C8.pe_c (ok_end_of T) hr (by decide) (by rfl) (pa_cons (pv 0) (pa_cons (pv 4) (pa_cons pe_str pa_nil))))))))) (pss_one (ps_ret (pv 2)))))), ?_⟩
  refine M.x_st (σ0 := [some _, some _, none, none, none, none]) rfl ?_
  walk_at "kk"
  walk_at "go"
  intro q H1 nq e1 h1
  walk_at "go"
  refine go_end_of (n := 0) (Nat.zero_le _) (by omega) ?_
  rw [List.drop_zero, Nat.zero_add]
  walk_at "go"
  refine M.x_while (fun m σ' H' => ∃ (i : Nat) (v4 v5 : Option V) (dn rs : List Tok) (xs : List V), σ' = [some (.str (S l)), some (.int u), some (.ref q), some (.int i), v4, v5] ∧ i ≤ l.length ∧ Same H H' ∧ TksAt K H' q dn ∧ H' q = some (.lst xs) ∧ xs.length ≤ i ∧ ts = dn ++ rs ∧ TkL i (l.drop i) rs ∧ m = rs.length)
    ts.length ⟨runF l SPS, _, _, [], ts, [], rfl, runF_le l SPS, e1, .nil h1, h1, Nat.zero_le _, rfl, htk, rfl⟩ ?_
  rintro m σ' H' ⟨i, v4, v5, dn, rs, xs, rfl, hi, ex, hdn, hxs, xl, hts, tk, hm⟩
  walk_at "go"
  refine M.x_ifD (fun c1 => ?_) (fun c1 => ?_)
  · have hil : i < l.length := by omega
    have hx : l[i]? = some l[i] := List.getElem?_eq_getElem hil
    have hd : l.drop i = l[i] :: l.drop (i + 1) := List.drop_eq_getElem_cons hil
    obtain ⟨c, hc⟩ : ∃ c, l[i] = c := ⟨_, rfl⟩
    rw [hc] at hx hd
    rw [hd] at tk
    walk_at "go"
    refine M.x_ifD (fun c2 => ?_) (fun c2 => ?_)
    · have c59 : c ≠ 59 := fun z => c2 (by rw [z]; rfl)
      cases tk with
      | rem => exact absurd rfl c59
      | tok h59 t next =>
        rename_i k n rs'
        obtain ⟨n1, n2⟩ := t.le
        rw [← hd, List.length_drop] at n2
        walk_at "go"
        refine M.x_cut (fun σ2 H2 => σ2 = [some (.str (S l)), some (.int u), some (.ref q), some (.int i), some (.int ((i + n : Nat) : Int)), some (.str k)] ∧ H2 = H') ?_ ?_
        · cases t with
          | name h hr hn =>
            have hz : decide (c ∈ (Str.ofString "ABCDEFGHIJKLMNOPQRSTUVWXYZabcdefghijklmnopqrstuvwxyz").cps.toList) = true := h
            walk_at "go"
            rw [hz]
            walk_at "go"
            refine go_end_of (by omega) (by omega) ?_
            rw [hd, show runF (c :: l.drop (i + 1)) (Str.ofString "ABCDEFGHIJKLMNOPQRSTUVWXYZabcdefghijklmnopqrstuvwxyz" ++ Str.ofString "0123456789" ++ Str.ofString "_") = n from hr]
            walk_at "go"
            exact ⟨rfl, rfl⟩
          | num h0 h nt =>
            have hz : decide (c ∈ (Str.ofString "ABCDEFGHIJKLMNOPQRSTUVWXYZabcdefghijklmnopqrstuvwxyz").cps.toList) = false := h0
            have hz2 : decide (c ∈ (Str.ofString "0123456789").cps.toList) = true := h
            walk_at "go"
            rw [hz]
            walk_at "go"
            rw [hz2]
            walk_at "go"
            refine go_number_end hil (by omega) (by rw [hd]; exact nt) ?_
            walk_at "go"
            exact ⟨rfl, rfl⟩
          | mark h0 h1 h =>
            have hz : decide (c ∈ (Str.ofString "ABCDEFGHIJKLMNOPQRSTUVWXYZabcdefghijklmnopqrstuvwxyz").cps.toList) = false := h0
            have hz2 : decide (c ∈ (Str.ofString "0123456789").cps.toList) = false := h1
            have hz3 : decide (c ∈ (Str.ofString ",:+-").cps.toList) = true := h
            walk_at "go"
            rw [hz]
            walk_at "go"
            rw [hz2]
            walk_at "go"
            rw [hz3]
            walk_at "go"
            exact ⟨rfl, rfl⟩
        rintro σ2 H2 ⟨rfl, rfl⟩
        walk_at "go"
        refine M.x_slS (by omega) ?_
        rw [show i + n - i = n by omega, hd]
        walk_at "go"
        intro p H3 np e3 h3
        have hq3 := e3 _ _ hxs
        walk_at "go"
        refine M.x_append hq3 (by omega) (fun H4 e4 h4 => ?_)
        walk_at "go"
        refine go_end_of (by omega) (by omega) ?_
        walk_at "go"
        have rle := runF_le (l.drop (i + n)) SPS
        rw [List.length_drop] at rle
        have dd : (c :: l.drop (i + 1)).drop n = l.drop (i + n) := by rw [← hd, List.drop_drop]
        have dd2 : ∀ r, (c :: l.drop (i + 1)).drop (n + r) = l.drop (i + n + r) := fun r => by rw [← hd, List.drop_drop, Nat.add_assoc]
        rw [dd, dd2] at next
        refine ⟨rs'.length, by rw [hm]; simp, i + n + runF (l.drop (i + n)) SPS, _, _, dn ++ [⟨i + 1, k, (c :: l.drop (i + 1)).take n⟩], rs', xs ++ [.ref p], rfl, by omega, fun b o hb => e4.at1 (fun z => by rw [z, nq] at hb; cases hb) (e3 _ _ (ex _ _ hb)), ?_, h4, by rw [List.length_append]; simp; omega, by rw [hts, List.append_assoc]; rfl, next, rfl⟩
        exact hdn.put e3 h3 e4 hxs h4
    · have c59 : c = 59 := by
        have := S_inj (show S [c] = S [59] from Classical.not_not.mp c2)
        injection this
      subst c59
      cases tk with
      | tok h59 t next => exact absurd rfl h59
      | rem =>
        walk_at "go"
        rw [List.append_nil] at hts
        rw [hts] at k
        exact k q _ nq ex hdn
  · walk_at "go"
    have : i = l.length := by omega
    rw [this, List.drop_length] at tk
    cases tk
    rw [List.append_nil] at hts
    rw [hts] at k
    exact k q _ nq ex hdn
end asm3

end
section
section asm4
open SX
variable {P : Program} {w : World} {K : PySem.W.Frag} {mg : Str → Option Value} {base : Heap}
/-! ## the tokens, and the one that is looked at -/
def kdF (ts : List Tok) (i : Nat) : Str := match ts[i]? with | some t => t.kind | none => Str.ofString ""
def txF (ts : List Tok) (i : Nat) : Str := match ts[i]? with | some t => S t.txt | none => Str.ofString ""
theorem kdF_at {ts : List Tok} {i : Nat} {t : Tok} (h : ts[i]? = some t) : kdF ts i = t.kind := by unfold kdF; rw [h]
theorem txF_at {ts : List Tok} {i : Nat} {t : Tok} (h : ts[i]? = some t) : txF ts i = S t.txt := by unfold txF; rw [h]
structure TkAt (K : PySem.W.Frag) (H : Hp) (tk dx tl : Addr) (u : Int) (ts : List Tok) (n : Nat) : Prop where
  o : H tk = some (.ins (He.ga K "Tokens") dx [("number", .int u), ("tokens", .ref tl), ("at", .int n)])
  t : TksAt K H tl ts
  l : ts.length ≤ 50000
theorem TkAt.same {H H1 : Hp} {tk dx tl : Addr} {u : Int} {ts : List Tok} {n : Nat} (h : TkAt K H tk dx tl u ts n) (e : Same H H1) : TkAt K H1 tk dx tl u ts n := ⟨e _ _ h.o, h.t.same e, h.l⟩
theorem SqT.nei {t m : Addr} {xs : List V} {C dx : Addr} {fs : List (Str × V)} {H H' : Hp} (h : SqT K H t xs) (hm : H m = some (.ins C dx fs)) (e : M.Ext [m] H H') : SqT K H' t xs := by
  rcases h with (h | ⟨o, h⟩) | h
  · exact .inl (.inl (e.at1 (M.ne_ti h hm) h))
  · exact .inl (.inr ⟨o, e.at1 (M.ne_ho h hm (fun z => by cases z)) h⟩)
  · exact .inr h
theorem TksAt.nei {q m : Addr} {ts : List Tok} {C dx : Addr} {fs : List (Str × V)} {H H' : Hp} (h : TksAt K H q ts) (hm : H m = some (.ins C dx fs)) (e : M.Ext [m] H H') : TksAt K H' q ts := by
  obtain ⟨ps, h1, h2, h3⟩ := h.ex
  exact ⟨ps, e.at1 (M.ne_li h1 hm) h1, h2, fun i p t hp ht => SqT.nei (h3 i p t hp ht) hm e⟩
def sp_Tokens_init (K : PySem.W.Frag) : Sp := fun vs H Q _ => ∃ (m dx : Addr) (l : List Nat) (u : Int) (ts : List Tok), vs = [.ref m, .str (S l), .int u] ∧ H m = some (.ins (He.ga K "Tokens") dx []) ∧ l.length ≤ 50000 ∧ toksOk l ts ∧ ts.length ≤ 50000 ∧ ∀ tl H', M.Ext [m] H H' → TkAt K H' m dx tl u ts 0 → Q .non H'
abbrev M.N_Tokens___init__ : List Str := ["self", "text", "number"]
theorem sc_Tokens___init__ : FnScope M.N_Tokens___init__ ["self", "text", "number"] (defScope s_Tokens___init__) := ⟨rfl, rfl, rfl, by decide +kernel, rfl, by decide +kernel, by decide +kernel⟩
theorem ok_Tokens___init__ (T : Tx P w K mg) : C8.Mak P w K mg base 6 "Tokens" (He.ga K "Tokens") (sp_Tokens_init K) [] := by
  refine M.mak_mk T.f_Tokens___init__ T.k_Tokens T.g_Tokens sc_Tokens___init__ (fun _ _ _ _ _ _ us hl => match us, hl with | [_, _, _], _ => rfl) (by rintro vs H Q E ⟨m, dx, l, u, ts, rfl, _⟩; rfl) fun cdv Ar outer s0 H vs Q E hr h => ?_
  obtain ⟨m, dx, l, u, ts, rfl, hm, hl, ht, tl, k⟩ := h
  refine ⟨_, (pss_cons (ps_fld (pv 0) (pv 2) rfl) (pss_cons (ps_fld (pv 0) (M.pe_cX (ok_tokens_of T) hr (by decide) (by rfl) M.takesN0 (pa_cons (pv 1) (pa_cons (pv 2) pa_nil))) rfl) (pss_one (ps_fld (pv 0) pe_int rfl)))), ?_⟩
  refine M.x_st (σ0 := [some _, some _, some _]) rfl ?_
  walk_at "kk"
  walk_at "go"
  refine M.x_isSF hm T.c_Tokens T.n_Tokens_number (by decide) rfl (fun H1 e1 h1 => ?_)
  walk_at "go"
  refine go_tokens_of hl ht (fun q H2 nq e2 t2 => ?_)
  have h2 := e2 _ _ h1
  walk_at "go"
  refine M.x_isSF h2 T.c_Tokens T.n_Tokens_tokens (by show 1 < 1000; decide) rfl (fun H3 e3 h3 => ?_)
  walk_at "go"
  refine M.x_isSF h3 T.c_Tokens T.n_Tokens_at (by show 2 < 1000; decide) rfl (fun H4 e4 h4 => ?_)
  walk_at "go"
  exact k q H4 (fun b o hb h => e4 b o hb (e3 b o hb (e2 _ _ (e1 b o hb h)))) ⟨h4, (t2.nei h2 e3).nei h3 e4, tl⟩
def sp_kind (K : PySem.W.Frag) : Sp := fun vs H Q _ => ∃ (tk dx tl : Addr) (u : Int) (ts : List Tok) (n a : Nat), vs = [.ref tk, .int a] ∧ TkAt K H tk dx tl u ts n ∧ Q (.str (kdF ts (n + a))) H
theorem go_kind {tk dx tl : Addr} {u : Int} {ts : List Tok} {n a : Nat} {H : Hp} {Q : VK} {E : XK} (h : TkAt K H tk dx tl u ts n) (k : Q (.str (kdF ts (n + a))) H) : sp_kind K [.ref tk, .int a] H Q E := ⟨tk, dx, tl, u, ts, n, a, rfl, h, k⟩
abbrev M.N_Tokens_kind : List Str := ["self", "ahead"]
theorem sc_Tokens_kind : FnScope M.N_Tokens_kind ["self", "ahead"] (defScope s_Tokens_kind) := ⟨rfl, rfl, rfl, by decide +kernel, rfl, by decide +kernel, by decide +kernel⟩
theorem ok_Tokens_kind (T : Tx P w K mg) : C8.Met P w K mg base 1 (He.ga K "Tokens") "kind" (sp_kind K) [] := by
  refine M.met_mk T.f_Tokens_kind T.c_Tokens T.m_Tokens_kind sc_Tokens_kind (fun _ _ _ _ _ _ us hl => match us, hl with | [_, _], _ => rfl) (by rintro vs H Q E ⟨tk, dx, tl, u, ts, n, a, rfl, _⟩; rfl) fun cdv Ar outer s0 H vs Q E hr h => ?_
  obtain ⟨tk, dx, tl, u, ts, n, a, rfl, h, k⟩ := h
  refine ⟨_, (pss_one (ps_ret (pe_ifExp (pt_cmpR op_lt (pe_op op_add (pe_fld (pv 0) rfl) (pv 1)) (pe_callB M.call_len (by rfl) T.b_len (by decide +kernel) (pa_cons (pe_fld (pv 0) rfl) pa_nil)) (nomark _)) (pe_ix ix_tup (pe_ix ix_list (pe_fld (pv 0) rfl) (pe_op op_add (pe_fld (pv 0) rfl) (pv 1)) (fun _ _ => rfl)) pe_int (fun _ _ => rfl)) pe_str))), ?_⟩
  refine M.x_st (σ0 := [some _, some _]) rfl ?_
  walk_at "kk"
  have ho := h.o
  obtain ⟨ps, h1, h2, h3⟩ := h.t.ex
  walk_at "go"
  rw [List.length_map]
  refine M.x_ifD (fun c1 => ?_) (fun c1 => ?_)
  · have hi : n + a < ps.length := by omega
    have hp : ps[n + a]? = some ps[n + a] := List.getElem?_eq_getElem hi
    have ht : ts[n + a]? = some (ts[n + a]'(by omega)) := List.getElem?_eq_getElem _
    have tt := h3 _ _ _ hp ht
    unfold TokAt at tt
    have a1 : atI (ps.map V.ref) ((n : Int) + (a : Int)) = some (V.ref ps[n + a]) := M.atI_get (f := V.ref) (by omega) (by rw [show ((n : Int) + (a : Int)).toNat = n + a by omega]; exact hp)
    rw [kdF_at ht] at k
    walk_at "go"
    exact k
  · have : kdF ts (n + a) = Str.ofString "" := by unfold kdF; rw [List.getElem?_eq_none (by omega)]
    rw [this] at k
    walk_at "go"
    exact k
def sp_text (K : PySem.W.Frag) : Sp := fun vs H Q _ => ∃ (tk dx tl : Addr) (u : Int) (ts : List Tok) (n a : Nat), vs = [.ref tk, .int a] ∧ TkAt K H tk dx tl u ts n ∧ Q (.str (txF ts (n + a))) H
theorem go_text {tk dx tl : Addr} {u : Int} {ts : List Tok} {n a : Nat} {H : Hp} {Q : VK} {E : XK} (h : TkAt K H tk dx tl u ts n) (k : Q (.str (txF ts (n + a))) H) : sp_text K [.ref tk, .int a] H Q E := ⟨tk, dx, tl, u, ts, n, a, rfl, h, k⟩
abbrev M.N_Tokens_text : List Str := ["self", "ahead"]
theorem sc_Tokens_text : FnScope M.N_Tokens_text ["self", "ahead"] (defScope s_Tokens_text) := ⟨rfl, rfl, rfl, by decide +kernel, rfl, by decide +kernel, by decide +kernel⟩
theorem ok_Tokens_text (T : Tx P w K mg) : C8.Met P w K mg base 1 (He.ga K "Tokens") "text" (sp_text K) [] := by
  refine M.met_mk T.f_Tokens_text T.c_Tokens T.m_Tokens_text sc_Tokens_text (fun _ _ _ _ _ _ us hl => match us, hl with | [_, _], _ => rfl) (by rintro vs H Q E ⟨tk, dx, tl, u, ts, n, a, rfl, _⟩; rfl) fun cdv Ar outer s0 H vs Q E hr h => ?_
  obtain ⟨tk, dx, tl, u, ts, n, a, rfl, h, k⟩ := h
  refine ⟨_, (pss_one (ps_ret (pe_ifExp (pt_cmpR op_lt (pe_op op_add (pe_fld (pv 0) rfl) (pv 1)) (pe_callB M.call_len (by rfl) T.b_len (by decide +kernel) (pa_cons (pe_fld (pv 0) rfl) pa_nil)) (nomark _)) (pe_ix ix_tup (pe_ix ix_list (pe_fld (pv 0) rfl) (pe_op op_add (pe_fld (pv 0) rfl) (pv 1)) (fun _ _ => rfl)) pe_int (fun _ _ => rfl)) pe_str))), ?_⟩
  refine M.x_st (σ0 := [some _, some _]) rfl ?_
  walk_at "kk"
  have ho := h.o
  obtain ⟨ps, h1, h2, h3⟩ := h.t.ex
  walk_at "go"
  rw [List.length_map]
  refine M.x_ifD (fun c1 => ?_) (fun c1 => ?_)
  · have hi : n + a < ps.length := by omega
    have hp : ps[n + a]? = some ps[n + a] := List.getElem?_eq_getElem hi
    have ht : ts[n + a]? = some (ts[n + a]'(by omega)) := List.getElem?_eq_getElem _
    have tt := h3 _ _ _ hp ht
    unfold TokAt at tt
    have a1 : atI (ps.map V.ref) ((n : Int) + (a : Int)) = some (V.ref ps[n + a]) := M.atI_get (f := V.ref) (by omega) (by rw [show ((n : Int) + (a : Int)).toNat = n + a by omega]; exact hp)
    rw [txF_at ht] at k
    walk_at "go"
    exact k
  · have : txF ts (n + a) = Str.ofString "" := by unfold txF; rw [List.getElem?_eq_none (by omega)]
    rw [this] at k
    walk_at "go"
    exact k
def sp_column (K : PySem.W.Frag) : Sp := fun vs H Q _ => ∃ (tk dx tl : Addr) (u : Int) (ts : List Tok) (n : Nat) (t : Tok), vs = [.ref tk] ∧ TkAt K H tk dx tl u ts n ∧ ts[n]? = some t ∧ Q (.int t.col) H
theorem go_column {tk dx tl : Addr} {u : Int} {ts : List Tok} {n : Nat} {t : Tok} {H : Hp} {Q : VK} {E : XK} (h : TkAt K H tk dx tl u ts n) (ht : ts[n]? = some t) (k : Q (.int t.col) H) : sp_column K [.ref tk] H Q E := ⟨tk, dx, tl, u, ts, n, t, rfl, h, ht, k⟩
abbrev M.N_Tokens_column : List Str := ["self", "column", "kind", "text"]
theorem sc_Tokens_column : FnScope M.N_Tokens_column ["self"] (defScope s_Tokens_column) := ⟨rfl, rfl, rfl, by decide +kernel, rfl, by decide +kernel, by decide +kernel⟩
theorem ok_Tokens_column (T : Tx P w K mg) : C8.Met P w K mg base 1 (He.ga K "Tokens") "column" (sp_column K) [] := by
  refine M.met_mk T.f_Tokens_column T.c_Tokens T.m_Tokens_column sc_Tokens_column (fun _ _ _ _ _ _ us hl => match us, hl with | [_], _ => rfl) (by rintro vs H Q E ⟨tk, dx, tl, u, ts, n, t, rfl, _⟩; rfl) fun cdv Ar outer s0 H vs Q E hr h => ?_
  obtain ⟨tk, dx, tl, u, ts, n, t, rfl, h, ht, k⟩ := h
  refine ⟨_, (pss_cons (ps_if (pt_cmpR op_lt (pe_fld (pv 0) rfl) (pe_callB M.call_len (by rfl) T.b_len (by decide +kernel) (pa_cons (pe_fld (pv 0) rfl) pa_nil)) (nomark _)) (pss_one (ps_ret (pe_ix ix_tup (pe_ix ix_list (pe_fld (pv 0) rfl) (pe_fld (pv 0) rfl) (fun _ _ => rfl)) pe_int (fun _ _ => rfl)))) pss_nil) (pss_cons (ps_asg (pe_ix ix_list (pe_fld (pv 0) rfl) (pe_un un_neg pe_int) (fun _ _ => rfl)) (pg_tup rfl (pgs_cons (pg_name (i := 1) sc_Tokens_column.nd rfl (Or.inl rfl)) (pgs_cons (pg_name (i := 2) sc_Tokens_column.nd rfl (Or.inl rfl)) (pgs_cons (pg_name (i := 3) sc_Tokens_column.nd rfl (Or.inl rfl)) pgs_nil))))) (pss_one (ps_ret (pe_op op_add (pv 1) (pe_callB M.call_lenS (by rfl) T.b_len (by decide +kernel) (pa_cons (pv 3) pa_nil))))))), ?_⟩
  refine M.x_st (σ0 := [some _, none, none, none]) rfl ?_
  walk_at "kk"
  have ho := h.o
  obtain ⟨ps, h1, h2, h3⟩ := h.t.ex
  have nl := (List.getElem?_eq_some_iff.mp ht).1
  have hp : ps[n]? = some (ps[n]'(by omega)) := List.getElem?_eq_getElem _
  have tt := h3 _ _ _ hp ht
  unfold TokAt at tt
  have a1 : atI (ps.map V.ref) (n : Int) = some (V.ref (ps[n]'(by omega))) := M.atI_get (f := V.ref) (by omega) (by rw [Int.toNat_natCast]; exact hp)
  have ll : (ps.map V.ref).length = ts.length := by rw [List.length_map, h2]
  walk_at "go"
  exact k
def sp_take (K : PySem.W.Frag) : Sp := fun vs H Q _ => ∃ (tk dx tl : Addr) (u : Int) (ts : List Tok) (n : Nat) (t : Tok) (z : Str), vs = [.ref tk, .str t.kind, .str z] ∧ TkAt K H tk dx tl u ts n ∧ ts[n]? = some t ∧ (z = Str.ofString "" ∨ S t.txt = z) ∧ ∀ H', M.Ext [tk] H H' → TkAt K H' tk dx tl u ts (n + 1) → Q (.str (S t.txt)) H'
theorem go_take {tk dx tl : Addr} {u : Int} {ts : List Tok} {n : Nat} {t : Tok} {z : Str} {H : Hp} {Q : VK} {E : XK} (h : TkAt K H tk dx tl u ts n) (ht : ts[n]? = some t) {kd : Str} (hk : t.kind = kd) (hz : z = Str.ofString "" ∨ S t.txt = z) (k : ∀ H', M.Ext [tk] H H' → TkAt K H' tk dx tl u ts (n + 1) → Q (.str (S t.txt)) H') : sp_take K [.ref tk, .str kd, .str z] H Q E := ⟨tk, dx, tl, u, ts, n, t, z, by rw [hk], h, ht, hz, k⟩
abbrev M.N_Tokens_take : List Str := ["self", "kind", "text"]
theorem sc_Tokens_take : FnScope M.N_Tokens_take ["self", "kind", "text"] (defScope s_Tokens_take) := ⟨rfl, rfl, rfl, by decide +kernel, rfl, by decide +kernel, by decide +kernel⟩
theorem ok_Tokens_take (T : Tx P w K mg) : M.MetX P w K mg base 4 (He.ga K "Tokens") "take" (sp_take K) := by
  refine M.met_mkX T.f_Tokens_take T.c_Tokens T.m_Tokens_take sc_Tokens_take (fun _ _ _ _ _ _ us hl => match us, hl with | [_, _, _], _ => rfl) (by rintro vs H Q E ⟨tk, dx, tl, u, ts, n, t, z, rfl, _⟩; rfl) fun cdv Ar outer s0 H vs Q E hr h => ?_
  obtain ⟨tk, dx, tl, u, ts, n, t, z, rfl, h, ht, hz, k⟩ := h
  refine ⟨_, (pss_cons (ps_if (PW.pt (pw_or (pt_cmpR op_ne (C8.pe_mt (ok_Tokens_kind T) hr (by decide) (pv 0) (pa_cons pe_int pa_nil)) (pv 1) (nomark _)) (pw_or1 (PW.pt (pw_and (pt_cmpR op_ne (pv 2) pe_str (nomark _)) (pw_and1 (pt_cmpR op_ne (C8.pe_mt (ok_Tokens_text T) hr (by decide) (pv 0) (pa_cons pe_int pa_nil)) (pv 2) (nomark _)))))))) (pss_one (M.ps_rz rfl (L2N.takes_of rfl rfl rfl rfl) (XM.pmk_ok T.e_Malformed hr (pa_cons (pe_fld (pv 0) rfl) (pa_cons (C8.pe_mt0 (ok_Tokens_column T) hr (by decide) (pv 0)) pa_nil)) T.g_Malformed T.b_str T.b_super (by rfl)))) pss_nil) (pss_cons (ps_fldaug (pv 0) pe_int in_add) (pss_one (ps_ret (pe_ix ix_tup (pe_ix ix_list (pe_fld (pv 0) rfl) (pe_op op_sub (pe_fld (pv 0) rfl) pe_int) (fun _ _ => rfl)) pe_int (fun _ _ => rfl)))))), ?_⟩
  refine M.x_st (σ0 := [some _, some _, some _]) rfl ?_
  walk_at "kk"
  have ho := h.o
  walk_at "go"
  refine go_kind (a := 0) h ?_
  rw [Nat.add_zero, kdF_at ht]
  walk_at "go"
  refine M.x_ifFD (p := t.kind ≠ t.kind) (fun z => z rfl) ?_
  walk_at "go"
  have nl := (List.getElem?_eq_some_iff.mp ht).1
  refine M.x_ifD (fun c1 => ?_) (fun c1 => ?_)
  rotate_left
  all_goals
    try
      walk_at "go"
      refine go_text (a := 0) h ?_
      rw [Nat.add_zero, txF_at ht]
      walk_at "go"
      refine M.x_ifFD (p := S t.txt ≠ z) (fun y => y (hz.resolve_left c1)) ?_
    walk_at "go"
    refine M.x_isFAadd ho T.c_Tokens T.n_Tokens_at (i := (n : Int)) (j := 1) rfl (by show 3 < 1000; decide) (fun Q q => by walk_at "go"; exact q) rfl (fun H2 e2 h2 => ?_)
    have t2 := h.t.nei ho e2
    obtain ⟨ps, g1, g2, g3⟩ := t2.ex
    have hp : ps[n]? = some (ps[n]'(by omega)) := List.getElem?_eq_getElem _
    have tt := g3 _ _ _ hp ht
    unfold TokAt at tt
    have a1 : atI (ps.map V.ref) ((n : Int) + 1 - 1) = some (V.ref (ps[n]'(by omega))) := M.atI_get (f := V.ref) (by omega) (by rw [show ((n : Int) + 1 - 1).toNat = n by omega]; exact hp)
    walk_at "go"
    exact k H2 e2 ⟨h2, t2, h.l⟩
end asm4

end
section
section asm5
open SX
variable {P : Program} {w : World} {K : PySem.W.Frag} {mg : Str → Option Value} {base : Heap}
/-! ## operands -/
local macro_rules | `(tactic| walk_at "hp") => `(tactic| exact TkAt.o (by assumption))
inductive Opd
  | reg (r : Nat)
  | num (neg : Bool) (v : Nat)
def regS (r : Nat) : List Nat := [114, 48 + r]
def Opd.ok : Opd → Prop
  | .reg r => r < 8
  | .num _ v => v ≤ 65535
def Opd.wid : Opd → Nat
  | .num true _ => 2
  | _ => 1
/-- the tokens of an operand, from one on -/
def OpT (ts : List Tok) (n : Nat) : Opd → Prop
  | .reg r => ∃ c, ts[n]? = some ⟨c, "name", regS r⟩
  | .num false v => ∃ c, ts[n]? = some ⟨c, "number", TL.numL v⟩
  | .num true v => ∃ c c', ts[n]? = some ⟨c, "mark", [45]⟩ ∧ ts[n + 1]? = some ⟨c', "number", TL.numL v⟩
def OpdAt (K : PySem.W.Frag) (N : Addr → Prop) (H : Hp) (x : V) : Opd → Prop
  | .reg r => x = .int r
  | .num neg v => ∃ (p l t : Addr) (c : Nat), N l ∧ x = .ref p ∧ SqT K H p [.int c, .ref l] ∧ H l = some (.lst [.ref t]) ∧ SqT K H t [.int (if neg then -1 else 1), .int v, .int 0]
theorem OpdAt.same {N : Addr → Prop} {H H1 : Hp} {x : V} : ∀ {o : Opd}, OpdAt K N H x o → Same H H1 → OpdAt K N H1 x o
  | .reg _, h, _ => h
  | .num _ _, ⟨p, l, t, c, h0, h1, h2, h3, h4⟩, e => ⟨p, l, t, c, h0, h1, M.Same.st e h2, e _ _ h3, M.Same.st e h4⟩
theorem OpdAt.mono {N N' : Addr → Prop} {H : Hp} {x : V} : ∀ {o : Opd}, OpdAt K N H x o → (∀ l, N l → N' l) → OpdAt K N' H x o
  | .reg _, h, _ => h
  | .num _ _, ⟨p, l, t, c, h0, h⟩, m => ⟨p, l, t, c, m l h0, h⟩
theorem OpdAt.nei {N : Addr → Prop} {H H1 : Hp} {x : V} {m C dx : Addr} {fs : List (Str × V)} (hm : H m = some (.ins C dx fs)) (e : M.Ext [m] H H1) : ∀ {o : Opd}, OpdAt K N H x o → OpdAt K N H1 x o
  | .reg _, h => h
  | .num _ _, ⟨p, l, t, c, h0, h1, h2, h3, h4⟩ => ⟨p, l, t, c, h0, h1, SqT.nei h2 hm e, e.at1 (M.ne_li h3 hm) h3, SqT.nei h4 hm e⟩
theorem OpdAt.nel {N : Addr → Prop} {H H1 : Hp} {x : V} {q : Addr} {xs : List V} (hN : ∀ l, N l → l ≠ q) (hq : H q = some (.lst xs)) (e : M.Ext [q] H H1) : ∀ {o : Opd}, OpdAt K N H x o → OpdAt K N H1 x o
  | .reg _, h => h
  | .num _ _, ⟨p, l, t, c, h0, h1, h2, h3, h4⟩ => ⟨p, l, t, c, h0, h1, M.SqT.kp (M.Kp.lst e hq) h2, e.at1 (hN l h0) h3, M.SqT.kp (M.Kp.lst e hq) h4⟩
theorem ext_free {H H' : Hp} {tk a : Addr} {o : HO} (e : M.Ext [tk] H H') (ho : H' tk = some o) (h : H' a = none) : H a = none := by
  cases q : H a with
  | none => rfl
  | some x =>
    by_cases z : a = tk
    · rw [z, ho] at h; cases h
    · rw [e.at1 z q] at h; cases h
def regsl : List Str := ["r0", "r1", "r2", "r3", "r4", "r5", "r6", "r7"]
theorem reg_in {r : Nat} (h : r < 8) : S (regS r) ∈ regsl ∧ regsl.idxOf (S (regS r)) = r := by
  match r, h with
  | 0, _ => decide +kernel
  | 1, _ => decide +kernel
  | 2, _ => decide +kernel
  | 3, _ => decide +kernel
  | 4, _ => decide +kernel
  | 5, _ => decide +kernel
  | 6, _ => decide +kernel
  | 7, _ => decide +kernel
def sp_read_register (K : PySem.W.Frag) : Sp := fun vs H Q _ => ∃ (tk dx tl : Addr) (u : Int) (ts : List Tok) (n r : Nat), vs = [.ref tk] ∧ TkAt K H tk dx tl u ts n ∧ OpT ts n (.reg r) ∧ r < 8 ∧ ∀ H', M.Ext [tk] H H' → TkAt K H' tk dx tl u ts (n + 1) → Q (.int r) H'
theorem go_read_register {tk dx tl : Addr} {u : Int} {ts : List Tok} {n r : Nat} {H : Hp} {Q : VK} {E : XK} (h : TkAt K H tk dx tl u ts n) (ht : OpT ts n (.reg r)) (hr : r < 8) (k : ∀ H', M.Ext [tk] H H' → TkAt K H' tk dx tl u ts (n + 1) → Q (.int r) H') : sp_read_register K [.ref tk] H Q E := ⟨tk, dx, tl, u, ts, n, r, rfl, h, ht, hr, k⟩
abbrev M.N_read_register : List Str := ["tokens"]
theorem sc_read_register : FnScope M.N_read_register ["tokens"] (defScope s_read_register) := ⟨rfl, rfl, rfl, by decide +kernel, rfl, by decide +kernel, by decide +kernel⟩
theorem ok_read_register (T : Tx P w K mg) : M.CalX P w K mg base 5 "read_register" (sp_read_register K) := by
  refine M.cal_mkX T.f_read_register T.g_read_register sc_read_register (fun _ _ _ _ _ _ us hl => match us, hl with | [_], _ => rfl) (by rintro vs H Q E ⟨tk, dx, tl, u, ts, n, r, rfl, _⟩; rfl) fun cdv A outer s H vs Q E hr h => ?_
  obtain ⟨tk, dx, tl, u, ts, n, r, rfl, h, ht, hr8, k⟩ := h
  refine ⟨_, (pss_cons (ps_if (pt_cmpR op_notIn_seq (C8.pe_mt (ok_Tokens_text T) hr (by decide) (pv 0) (pa_cons pe_int pa_nil)) (C8.pe_gc (by rfl) T.g_REGISTERS) (by rfl)) (pss_one (M.ps_rz rfl (L2N.takes_of rfl rfl rfl rfl) (XM.pmk_ok T.e_Malformed hr (pa_cons (pe_fld (pv 0) rfl) (pa_cons (C8.pe_mt0 (ok_Tokens_column T) hr (by decide) (pv 0)) pa_nil)) T.g_Malformed T.b_str T.b_super (by rfl)))) pss_nil) (pss_one (ps_ret (pe_bm PySem.F.plainAttrs_tuple PySem.F.slot_tuple_index PySem.F.type_tuple_index M.mt_tindex (C8.pe_gc (by rfl) T.g_REGISTERS) (pa_cons (M.pe_mX (ok_Tokens_take T) hr (by decide) (L2N.takes_of rfl rfl rfl rfl) (pv 0) (pa_cons pe_str (pa_cons pe_str pa_nil))) pa_nil))))), ?_⟩
  refine M.x_st (σ0 := [some _]) rfl ?_
  walk_at "kk"
  obtain ⟨c, ht⟩ := ht
  obtain ⟨r1, r2⟩ := reg_in hr8
  walk_at "go"
  refine go_text (a := 0) h ?_
  rw [Nat.add_zero, txF_at ht]
  walk_at "go"
  rw [show inV (.str (S (regS r))) [.str "r0", .str "r1", .str "r2", .str "r3", .str "r4", .str "r5", .str "r6", .str "r7"] = true by rw [show ([.str "r0", .str "r1", .str "r2", .str "r3", .str "r4", .str "r5", .str "r6", .str "r7"] : List V) = regsl.map V.str from rfl, M.inV_strs]; exact decide_eq_true r1]
  walk_at "go"
  refine go_take h ht rfl (.inl rfl) (fun H2 e2 t2 => ?_)
  walk_at "go"
  refine M.x_tidx (l := regsl) (T.q_REGISTERS _) r1 ?_
  rw [r2]
  walk_at "go"
  exact k H2 e2 t2
theorem numL_all (v : Nat) : (TL.numL v).all (fun c => decide (48 ≤ c) && decide (c ≤ 57)) = true := by
  rw [List.all_eq_true]
  intro c hc
  have := TL.numL_digits v c hc
  rw [Bool.and_eq_true, decide_eq_true_iff, decide_eq_true_iff]
  exact this
theorem numL_le {v : Nat} (h : v ≤ 65535) : (TL.numL v).length ≤ 5 := TL.numL_len (by decide) (by omega)
def sp_read_term (K : PySem.W.Frag) : Sp := fun vs H Q _ => ∃ (tk dx tl : Addr) (u s : Int) (ts : List Tok) (n c v : Nat), vs = [.ref tk, .int s] ∧ TkAt K H tk dx tl u ts n ∧ ts[n]? = some ⟨c, "number", TL.numL v⟩ ∧ v ≤ 65535 ∧ ∀ t H', H t = none → M.Ext [tk] H H' → TkAt K H' tk dx tl u ts (n + 1) → H' t = some (.tup [.int s, .int v, .int 0]) → Q (.ref t) H'
theorem go_read_term {tk dx tl : Addr} {u s : Int} {ts : List Tok} {n c v : Nat} {H : Hp} {Q : VK} {E : XK} (h : TkAt K H tk dx tl u ts n) (ht : ts[n]? = some ⟨c, "number", TL.numL v⟩) (hv : v ≤ 65535) (k : ∀ t H', H t = none → M.Ext [tk] H H' → TkAt K H' tk dx tl u ts (n + 1) → H' t = some (.tup [.int s, .int v, .int 0]) → Q (.ref t) H') : sp_read_term K [.ref tk, .int s] H Q E := ⟨tk, dx, tl, u, s, ts, n, c, v, rfl, h, ht, hv, k⟩
def sp_read_name : Sp := fun vs H Q _ => ∃ tk : Addr, vs = [.ref tk] ∧ False
abbrev M.N_read_name : List Str := ["tokens", "column"]
theorem sc_read_name : FnScope M.N_read_name ["tokens"] (defScope s_read_name) := ⟨rfl, rfl, rfl, by decide +kernel, rfl, by decide +kernel, by decide +kernel⟩
theorem ok_read_name (T : Tx P w K mg) : M.CalX P w K mg base 5 "read_name" sp_read_name := by
  refine M.cal_mkX T.f_read_name T.g_read_name sc_read_name (fun _ _ _ _ _ _ us hl => match us, hl with | [_], _ => rfl) (by rintro vs H Q E ⟨tk, rfl, _⟩; rfl) fun cdv A outer s H vs Q E hr h => ?_
  obtain ⟨tk, rfl, h⟩ := h
  refine ⟨_, (pss_cons (ps_set (i := 1) sc_read_name.nd rfl (Or.inl rfl) (C8.pe_mt0 (ok_Tokens_column T) hr (by decide) (pv 0))) (pss_cons (ps_if (pt_cmpR op_in_seq (C8.pe_mt (ok_Tokens_text T) hr (by decide) (pv 0) (pa_cons pe_int pa_nil)) (C8.pe_gc (by rfl) T.g_REGISTERS) (by rfl)) (pss_one (M.ps_rz rfl (L2N.takes_of rfl rfl rfl rfl) (XM.pmk_ok T.e_Malformed hr (pa_cons (pe_fld (pv 0) rfl) (pa_cons (pv 1) pa_nil)) T.g_Malformed T.b_str T.b_super (by rfl)))) pss_nil) (pss_one (ps_ret (pe_tup (pa_cons (M.pe_mX (ok_Tokens_take T) hr (by decide) (L2N.takes_of rfl rfl rfl rfl) (pv 0) (pa_cons pe_str (pa_cons pe_str pa_nil))) (pa_cons (pv 1) pa_nil))))))), ?_⟩
  walk_at "kk"
  exact h.elim
abbrev M.N_read_term : List Str := ["tokens", "sign", "name", "column"]
theorem sc_read_term : FnScope M.N_read_term ["tokens", "sign"] (defScope s_read_term) := ⟨rfl, rfl, rfl, by decide +kernel, rfl, by decide +kernel, by decide +kernel⟩
theorem ok_read_term (T : Tx P w K mg) : C8.Cal P w K mg base 6 "read_term" (sp_read_term K) [] := by
  refine M.cal_mk T.f_read_term T.g_read_term sc_read_term (fun _ _ _ _ _ _ us hl => match us, hl with | [_, _], _ => rfl) (by rintro vs H Q E ⟨tk, dx, tl, u, s, ts, n, c, v, rfl, _⟩; rfl) fun cdv A outer s0 H vs Q E hr h => ?_
  obtain ⟨tk, dx, tl, u, s, ts, n, c, v, rfl, h, ht, hv, k⟩ := h
  refine ⟨_, (pss_cons (ps_if (pt_cmpR op_eq (C8.pe_mt (ok_Tokens_kind T) hr (by decide) (pv 0) (pa_cons pe_int pa_nil)) pe_str (nomark _)) (pss_one (ps_ret (pe_tup (pa_cons (pv 1) (pa_cons (pe_callTy M.call_intS (by rfl) T.b_int (by decide +kernel) (pa_cons (M.pe_mX (ok_Tokens_take T) hr (by decide) M.takesN0 (pv 0) (pa_cons pe_str (pa_cons pe_str pa_nil))) pa_nil)) (pa_cons pe_int pa_nil)))))) pss_nil) (pss_cons (ps_asg (M.pe_cX (ok_read_name T) hr (by decide) (by rfl) M.takesN0 (pa_cons (pv 0) pa_nil)) (pg_tup rfl (pgs_cons (pg_name (i := 2) sc_read_term.nd rfl (Or.inl rfl)) (pgs_cons (pg_name (i := 3) sc_read_term.nd rfl (Or.inl rfl)) pgs_nil)))) (pss_one (ps_ret (pe_tup (pa_cons (pv 1) (pa_cons (pv 2) (pa_cons (pv 3) pa_nil)))))))), ?_⟩
  refine M.x_st (σ0 := [some _, some _, none, none]) rfl ?_
  walk_at "kk"
  walk_at "go"
  refine go_kind (a := 0) h ?_
  rw [Nat.add_zero, kdF_at ht]
  walk_at "go"
  refine go_take h ht rfl (.inl rfl) (fun H2 e2 t2 => ?_)
  have nl := numL_le hv
  walk_at "go"
  refine M.x_intS (numL_all v) (TL.numL_ne v) (by show (TL.numL v).length ≤ 600; omega) ?_
  rw [TL.numL_val]
  walk_at "go"
  intro t H3 nt e3 h3
  have n1 : H t = none := by
    cases e : H t with
    | none => rfl
    | some o =>
      by_cases q : t = tk
      · rw [q, t2.o] at nt; cases nt
      · rw [e2.at1 q e] at nt; cases nt
  exact k t H3 n1 (fun b o hb hx => e3 _ _ (e2 b o hb hx)) (t2.same e3) h3
def txNo (ts : List Tok) (n : Nat) : Prop := txF ts n ≠ "+" ∧ txF ts n ≠ "-"
def sp_read_expression (K : PySem.W.Frag) : Sp := fun vs H Q _ => ∃ (tk dx tl : Addr) (u : Int) (ts : List Tok) (n v : Nat) (neg : Bool), vs = [.ref tk] ∧ TkAt K H tk dx tl u ts n ∧ OpT ts n (.num neg v) ∧ v ≤ 65535 ∧ txNo ts (n + (Opd.num neg v).wid) ∧ ∀ x H', M.Ext [tk] H H' → TkAt K H' tk dx tl u ts (n + (Opd.num neg v).wid) → OpdAt K (fun l => H l = none) H' x (.num neg v) → Q x H'
theorem go_read_expression {tk dx tl : Addr} {u : Int} {ts : List Tok} {n v : Nat} {neg : Bool} {H : Hp} {Q : VK} {E : XK} (h : TkAt K H tk dx tl u ts n) (ht : OpT ts n (.num neg v)) (hv : v ≤ 65535) (hn : txNo ts (n + (Opd.num neg v).wid)) (k : ∀ x H', M.Ext [tk] H H' → TkAt K H' tk dx tl u ts (n + (Opd.num neg v).wid) → OpdAt K (fun l => H l = none) H' x (.num neg v) → Q x H') : sp_read_expression K [.ref tk] H Q E := ⟨tk, dx, tl, u, ts, n, v, neg, rfl, h, ht, hv, hn, k⟩
theorem num_minus {v : Nat} : S (TL.numL v) ≠ Str.ofString "-" := fun z => by
  have := S_inj (show S (TL.numL v) = S [45] from z)
  have h45 : (45 : Nat) ∈ TL.numL v := by rw [this]; simp
  exact TL.numL_free (.inl (by decide)) h45
theorem inV_pm {ts : List Tok} {n : Nat} (h : txNo ts n) : inV (.str (txF ts n)) [.str "+", .str "-"] = false := by
  rw [show ([.str "+", .str "-"] : List V) = (["+", "-"] : List Str).map V.str from rfl, M.inV_strs]
  refine decide_eq_false fun z => ?_
  rcases List.mem_cons.mp z with z | z
  · exact h.1 z
  · rcases List.mem_cons.mp z with z | z
    · exact h.2 z
    · cases z
abbrev M.N_read_expression : List Str := ["tokens", "column", "sign", "terms"]
theorem sc_read_expression : FnScope M.N_read_expression ["tokens"] (defScope s_read_expression) := ⟨rfl, rfl, rfl, by decide +kernel, rfl, by decide +kernel, by decide +kernel⟩
theorem ok_read_expression (T : Tx P w K mg) : C8.Cal P w K mg base 7 "read_expression" (sp_read_expression K) [] := by
  refine M.cal_mk T.f_read_expression T.g_read_expression sc_read_expression (fun _ _ _ _ _ _ us hl => match us, hl with | [_], _ => rfl) (by rintro vs H Q E ⟨tk, dx, tl, u, ts, n, v, neg, rfl, _⟩; rfl) fun cdv A outer s0 H vs Q E hr h => ?_
  obtain ⟨tk, dx, tl, u, ts, n, v, neg, rfl, h, ht, hv, hno, k⟩ := h
  refine ⟨_, (pss_cons (ps_set (i := 1) sc_read_expression.nd rfl (Or.inl rfl) (C8.pe_mt0 (ok_Tokens_column T) hr (by decide) (pv 0))) (pss_cons (ps_set (i := 2) sc_read_expression.nd rfl (Or.inl rfl) pe_int) (pss_cons (ps_if (pt_cmpR op_eq (C8.pe_mt (ok_Tokens_text T) hr (by decide) (pv 0) (pa_cons pe_int pa_nil)) pe_str (nomark _)) (pss_cons (ps_expr (M.pe_mX (ok_Tokens_take T) hr (by decide) M.takesN0 (pv 0) (pa_cons pe_str (pa_cons pe_str pa_nil)))) (pss_one (ps_set (i := 2) sc_read_expression.nd rfl (Or.inl rfl) (pe_un un_neg pe_int)))) pss_nil) (pss_cons (ps_set (i := 3) sc_read_expression.nd rfl (Or.inl rfl) (pe_lst (pa_cons (C8.pe_c (ok_read_term T) hr (by decide) (by rfl) (pa_cons (pv 0) (pa_cons (pv 2) pa_nil))) pa_nil))) (pss_cons (ps_while PassesOwn.never (pt_cmpR op_in_seq (C8.pe_mt (ok_Tokens_text T) hr (by decide) (pv 0) (pa_cons pe_int pa_nil)) (pe_tup (pa_cons pe_str (pa_cons pe_str pa_nil))) (by rfl)) (pss_cons (ps_set (i := 2) sc_read_expression.nd rfl (Or.inl rfl) (pe_ifExp (pt_cmpR op_eq (M.pe_mX (ok_Tokens_take T) hr (by decide) M.takesN0 (pv 0) (pa_cons pe_str (pa_cons pe_str pa_nil))) pe_str (nomark _)) pe_int (pe_un un_neg pe_int))) (pss_one (ps_expr (pe_bm PySem.F.plainAttrs_list PySem.F.slot_list_append PySem.F.type_list_append mt_append (pv 3) (pa_cons (C8.pe_c (ok_read_term T) hr (by decide) (by rfl) (pa_cons (pv 0) (pa_cons (pv 2) pa_nil))) pa_nil)))))) (pss_one (ps_ret (pe_tup (pa_cons (pv 1) (pa_cons (pv 3) pa_nil)))))))))), ?_⟩
  refine M.x_st (σ0 := [some _, none, none, none]) rfl ?_
  walk_at "kk"
  cases neg with
  | false =>
    obtain ⟨c, ht⟩ := ht
    walk_at "go"
    refine go_column h ht ?_
    walk_at "go"
    refine go_text (a := 0) h ?_
    rw [Nat.add_zero, txF_at ht]
    walk_at "go"
    refine M.x_ifFD num_minus ?_
    walk_at "go"
    refine go_read_term h ht hv (fun t H2 nt e2 t2 h2 => ?_)
    walk_at "go"
    intro l H3 nl e3 h3
    have t3 := t2.same e3
    walk_at "go"
    refine M.x_while (fun m σ' H' => m = 0 ∧ σ' = [some (.ref tk), some (.int c), some (.int 1), some (.ref l)] ∧ H' = H3) 0 ⟨rfl, rfl, rfl⟩ ?_
    rintro m σ' H' ⟨_, rfl, rfl⟩
    walk_at "go"
    refine go_text (a := 0) t3 ?_
    walk_at "go"
    intro q H4 nq e4 h4
    walk_at "go"
    rw [show txF ts (n + 1 + 0) = txF ts (n + (Opd.num false v).wid) from rfl, inV_pm hno]
    walk_at "go"
    intro p H5 np e5 h5
    have e45 := e4.trans e5
    walk_at "go"
    exact k _ H5 (fun b o hb hx => e45 _ _ ((fun b o hb hx => e3 _ _ (e2 b o hb hx)) b o hb hx)) (t3.same e45) ⟨p, l, t, c, ext_free e2 t2.o nl, rfl, SqT.of h5, e45 _ _ h3, M.Same.st e45 (SqT.of (e3 _ _ h2))⟩
  | true =>
    obtain ⟨c, c', ht, ht2⟩ := ht
    walk_at "go"
    refine go_column h ht ?_
    walk_at "go"
    refine go_text (a := 0) h ?_
    rw [Nat.add_zero, txF_at ht]
    walk_at "go"
    refine go_take h ht rfl (.inr rfl) (fun H1 e1 t1 => ?_)
    walk_at "go"
    refine go_read_term t1 ht2 hv (fun t H2 nt e2 t2 h2 => ?_)
    walk_at "go"
    intro l H3 nl e3 h3
    have t3 := t2.same e3
    walk_at "go"
    refine M.x_while (fun m σ' H' => m = 0 ∧ σ' = [some (.ref tk), some (.int c), some (.int (-1)), some (.ref l)] ∧ H' = H3) 0 ⟨rfl, rfl, rfl⟩ ?_
    rintro m σ' H' ⟨_, rfl, rfl⟩
    walk_at "go"
    refine go_text (a := 0) t3 ?_
    walk_at "go"
    intro q H4 nq e4 h4
    walk_at "go"
    rw [show txF ts (n + 1 + 1 + 0) = txF ts (n + (Opd.num true v).wid) from rfl, inV_pm hno]
    walk_at "go"
    intro p H5 np e5 h5
    have e45 := e4.trans e5
    walk_at "go"
    exact k _ H5 (fun b o hb hx => e45 _ _ ((fun b o hb hx => e3 _ _ (e2 b o hb (e1 b o hb hx))) b o hb hx)) (t3.same e45) ⟨p, l, t, c, ext_free e1 t1.o (ext_free e2 t2.o nl), rfl, SqT.of h5, e45 _ _ h3, M.Same.st e45 (SqT.of (e3 _ _ h2))⟩
end asm5

end
section
section asm6
open SX
variable {P : Program} {w : World} {K : PySem.W.Frag} {mg : Str → Option Value} {base : Heap}
/-! ## lines -/
local macro_rules | `(tactic| walk_at "hp") => `(tactic| exact TkAt.o (by assumption))
def Opd.form : Opd → Str
  | .reg _ => "r"
  | .num _ _ => "e"
def sp_read_operand (K : PySem.W.Frag) : Sp := fun vs H Q _ => ∃ (tk dx tl : Addr) (u : Int) (ts : List Tok) (n : Nat) (o : Opd), vs = [.ref tk, .str o.form] ∧ TkAt K H tk dx tl u ts n ∧ OpT ts n o ∧ o.ok ∧ txNo ts (n + o.wid) ∧ ∀ x H', M.Ext [tk] H H' → TkAt K H' tk dx tl u ts (n + o.wid) → OpdAt K (fun l => H l = none) H' x o → Q x H'
theorem go_read_operand {tk dx tl : Addr} {u : Int} {ts : List Tok} {n : Nat} {o : Opd} {H : Hp} {Q : VK} {E : XK} {f : Str} (hf : o.form = f) (h : TkAt K H tk dx tl u ts n) (ht : OpT ts n o) (ok : o.ok) (hn : txNo ts (n + o.wid)) (k : ∀ x H', M.Ext [tk] H H' → TkAt K H' tk dx tl u ts (n + o.wid) → OpdAt K (fun l => H l = none) H' x o → Q x H') : sp_read_operand K [.ref tk, .str f] H Q E := ⟨tk, dx, tl, u, ts, n, o, by rw [hf], h, ht, ok, hn, k⟩
abbrev M.N_read_operand : List Str := ["tokens", "form"]
theorem sc_read_operand : FnScope M.N_read_operand ["tokens", "form"] (defScope s_read_operand) := ⟨rfl, rfl, rfl, by decide +kernel, rfl, by decide +kernel, by decide +kernel⟩
theorem ok_read_operand (T : Tx P w K mg) : C8.Cal P w K mg base 8 "read_operand" (sp_read_operand K) [] := by
  refine M.cal_mk T.f_read_operand T.g_read_operand sc_read_operand (fun _ _ _ _ _ _ us hl => match us, hl with | [_, _], _ => rfl) (by rintro vs H Q E ⟨tk, dx, tl, u, ts, n, o, rfl, _⟩; rfl) fun cdv A outer s0 H vs Q E hr h => ?_
  obtain ⟨tk, dx, tl, u, ts, n, o, rfl, h, ht, ok, hn, k⟩ := h
  refine ⟨_, (pss_cons (ps_if (pt_cmpR op_eq (pv 1) pe_str (nomark _)) (pss_one (ps_ret (M.pe_cX (ok_read_register T) hr (by decide) (by rfl) M.takesN0 (pa_cons (pv 0) pa_nil)))) pss_nil) (pss_one (ps_ret (pe_ifExp (pt_cmpR op_eq (pv 1) pe_str (nomark _)) (M.pe_cX (ok_read_name T) hr (by decide) (by rfl) M.takesN0 (pa_cons (pv 0) pa_nil)) (C8.pe_c (ok_read_expression T) hr (by decide) (by rfl) (pa_cons (pv 0) pa_nil)))))), ?_⟩
  refine M.x_st (σ0 := [some _, some _]) rfl ?_
  walk_at "kk"
  cases o with
  | reg r =>
    rw [show (Opd.reg r).form = Str.ofString "r" from rfl]
    walk_at "go"
    exact go_read_register h ht ok (fun H' e t => k _ H' e t rfl)
  | num neg v =>
    rw [show (Opd.num neg v).form = Str.ofString "e" from rfl]
    walk_at "go"
    exact go_read_expression h ht ok hn k
/-- where an operand begins, behind the word -/
def posn (os : List Opd) (i : Nat) : Nat := ((os.take i).map fun o => o.wid + 1).sum
theorem posn_succ {os : List Opd} {i : Nat} {o : Opd} (h : os[i]? = some o) : posn os (i + 1) = posn os i + (o.wid + 1) := by
  unfold posn
  rw [List.take_add_one, List.map_append, List.sum_append, h]
  simp
structure LineT (ts : List Tok) (n : Nat) (os : List Opd) : Prop where
  o : ∀ i o, os[i]? = some o → OpT ts (n + posn os i) o ∧ o.ok
  c : ∀ i o, os[i]? = some o → 0 < i → ∃ c, ts[n + posn os i - 1]? = some ⟨c, "mark", [44]⟩
  l : ts.length = n + posn os os.length - (if os = [] then 0 else 1)
theorem LineT.no {ts : List Tok} {n : Nat} {os : List Opd} (h : LineT ts n os) {i : Nat} {o : Opd} (ho : os[i]? = some o) : txNo ts (n + posn os i + o.wid) ∧ (i + 1 = os.length → ts[n + posn os i + o.wid]? = none) := by
  have ps := posn_succ ho
  have il := (List.getElem?_eq_some_iff.mp ho).1
  by_cases c : i + 1 < os.length
  · obtain ⟨q, hq⟩ := h.c (i + 1) _ (List.getElem?_eq_getElem c) (by omega)
    rw [ps, show n + (posn os i + (o.wid + 1)) - 1 = n + posn os i + o.wid by omega] at hq
    refine ⟨?_, fun z => by omega⟩
    unfold txNo
    rw [txF_at hq]
    show S [44] ≠ Str.ofString "+" ∧ S [44] ≠ Str.ofString "-"
    exact ⟨by decide, by decide⟩
  · have e : i + 1 = os.length := by omega
    have hl := h.l
    rw [← e, ps, if_neg (fun z => by rw [z] at ho; cases ho)] at hl
    have hn : ts[n + posn os i + o.wid]? = none := List.getElem?_eq_none (by omega)
    refine ⟨?_, fun _ => hn⟩
    unfold txNo txF
    rw [hn]
    exact ⟨by decide, by decide⟩
/-- operands as they lie -/
structure OpsAt (K : PySem.W.Frag) (N : Addr → Prop) (H : Hp) (q : Addr) (os : List Opd) : Prop where
  ex : ∃ xs : List V, H q = some (.lst xs) ∧ xs.length = os.length ∧ ∀ (i : Nat) x o, xs[i]? = some x → os[i]? = some o → OpdAt K N H x o
theorem OpsAt.same {N : Addr → Prop} {H H1 : Hp} {q : Addr} {os : List Opd} (h : OpsAt K N H q os) (e : Same H H1) : OpsAt K N H1 q os := by
  obtain ⟨xs, h1, h2, h3⟩ := h.ex
  exact ⟨xs, e _ _ h1, h2, fun i x o hx ho => (h3 i x o hx ho).same e⟩
def frmL : List (Str × Str) := [("halt", ""), ("until", ""), ("rest", ""), ("page", ""), ("set", "re"), ("copy", "rr"), ("add", "rrr"), ("sub", "rrr"), ("mul", "rrr"), ("and", "rrr"), ("or", "rrr"), ("xor", "rrr"), ("shl", "rre"), ("shr", "rre"), ("addi", "rre"), ("load", "rre"), ("store", "rre"), ("jump", "r"), ("jal", "rr"), ("beq", "rre"), ("bne", "rre"), ("blt", "rre"), ("call", "e"), ("getu", "rr"), ("putu", "rr"), ("gets", "re"), ("puts", "re"), ("space", "e"), ("equ", "ne")]
theorem frm_kd (T : Tx P w K mg) {op f : Str} (h : (op, f) ∈ frmL) : KDct K w (He.ga K "FORMS") op (.str f) :=
  M.kdct_of (q := (op, He.Dv.str f)) T.t_FORMS T.v_FORMS (by
    have : (op, He.Dv.str f) ∈ frmL.map (fun q => (q.1, He.Dv.str q.2)) := List.mem_map.mpr ⟨_, h, rfl⟩
    exact this)
/-- a line's operands fit its word -/
def Fits (op : Str) (os : List Opd) : Prop := (op = "word" ∧ ∃ n v, os = [.num n v]) ∨ (op ≠ "word" ∧ ∃ f : List Nat, (op, S f) ∈ frmL ∧ f.length = os.length ∧ ∀ (i c : Nat) (o : Opd), f[i]? = some c → os[i]? = some o → o.form = S [c])
def sp_read_operands (K : PySem.W.Frag) : Sp := fun vs H Q _ => ∃ (tk dx tl : Addr) (u : Int) (ts : List Tok) (n : Nat) (op : Str) (os : List Opd), vs = [.ref tk, .str op] ∧ TkAt K H tk dx tl u ts n ∧ LineT ts n os ∧ Fits op os ∧ os.length ≤ 10 ∧ ∀ q H', H q = none → M.Ext [tk] H H' → TkAt K H' tk dx tl u ts ts.length → OpsAt K (fun l => H l = none) H' q os → Q (.ref q) H'
theorem go_read_operands {tk dx tl : Addr} {u : Int} {ts : List Tok} {n : Nat} {op : Str} {os : List Opd} {H : Hp} {Q : VK} {E : XK} (h : TkAt K H tk dx tl u ts n) (ht : LineT ts n os) (hf : Fits op os) (hl : os.length ≤ 10) (k : ∀ q H', H q = none → M.Ext [tk] H H' → TkAt K H' tk dx tl u ts ts.length → OpsAt K (fun l => H l = none) H' q os → Q (.ref q) H') : sp_read_operands K [.ref tk, .str op] H Q E := ⟨tk, dx, tl, u, ts, n, op, os, rfl, h, ht, hf, hl, k⟩
abbrev M.N_read_operands : List Str := ["tokens", "op", "operands", "form"]
theorem sc_read_operands : FnScope M.N_read_operands ["tokens", "op"] (defScope s_read_operands) := ⟨rfl, rfl, rfl, by decide +kernel, rfl, by decide +kernel, by decide +kernel⟩
theorem ok_read_operands (T : Tx P w K mg) : C8.Cal P w K mg base 9 "read_operands" (sp_read_operands K) [] := by
  refine M.cal_mk T.f_read_operands T.g_read_operands sc_read_operands (fun _ _ _ _ _ _ us hl => match us, hl with | [_, _], _ => rfl) (by rintro vs H Q E ⟨tk, dx, tl, u, ts, n, op, os, rfl, _⟩; rfl) fun cdv A outer s0 H vs Q E hr h => ?_
  obtain ⟨tk, dx, tl, u, ts, n, op, os, rfl, h, ht, hf, hl, k⟩ := h
  refine ⟨_, (pss_cons (ps_if (pt_cmpR op_eq (pv 1) (C8.pe_gc (by rfl) T.g_LIST) (nomark _)) (pss_cons (ps_set (i := 2) sc_read_operands.nd rfl (Or.inl rfl) (pe_lst (pa_cons (C8.pe_c (ok_read_expression T) hr (by decide) (by rfl) (pa_cons (pv 0) pa_nil)) pa_nil))) (pss_cons (ps_while PassesOwn.never (pt_cmpR op_eq (C8.pe_mt (ok_Tokens_text T) hr (by decide) (pv 0) (pa_cons pe_int pa_nil)) pe_str (nomark _)) (pss_cons (ps_expr (M.pe_mX (ok_Tokens_take T) hr (by decide) M.takesN0 (pv 0) (pa_cons pe_str (pa_cons pe_str pa_nil)))) (pss_one (ps_expr (pe_bm PySem.F.plainAttrs_list PySem.F.slot_list_append PySem.F.type_list_append mt_append (pv 2) (pa_cons (C8.pe_c (ok_read_expression T) hr (by decide) (by rfl) (pa_cons (pv 0) pa_nil)) pa_nil)))))) (pss_one (ps_ret (pv 2))))) pss_nil) (pss_cons (ps_set (i := 2) sc_read_operands.nd rfl (Or.inl rfl) (pe_lst pa_nil)) (pss_cons (ps_for PassesOwn.never rfl (pi_str (pe_ix ix_kdict (C8.pe_gc (by rfl) T.g_FORMS) (pv 1) (fun _ _ => rfl))) (pg_name (i := 3) sc_read_operands.nd rfl (Or.inl rfl)) (pss_cons (ps_if (pt_cmpR op_gt (pe_callB M.call_len (by rfl) T.b_len (by decide +kernel) (pa_cons (pv 2) pa_nil)) pe_int (nomark _)) (pss_one (ps_expr (M.pe_mX (ok_Tokens_take T) hr (by decide) M.takesN0 (pv 0) (pa_cons pe_str (pa_cons pe_str pa_nil))))) pss_nil) (pss_one (ps_expr (pe_bm PySem.F.plainAttrs_list PySem.F.slot_list_append PySem.F.type_list_append mt_append (pv 2) (pa_cons (C8.pe_c (ok_read_operand T) hr (by decide) (by rfl) (pa_cons (pv 0) (pa_cons (pv 3) pa_nil))) pa_nil)))))) (pss_one (ps_ret (pv 2)))))), ?_⟩
  refine M.x_st (σ0 := [some _, some _, none, none]) rfl ?_
  walk_at "kk"
  rcases hf with ⟨rfl, ng, v, rfl⟩ | ⟨hw, f, hf, fl, ff⟩
  · have h0 := ht.o 0 _ rfl
    have n0 := ht.no (i := 0) rfl
    have p0 : posn [Opd.num ng v] 0 = 0 := rfl
    rw [p0, Nat.add_zero] at h0 n0
    have tl1 : ts.length = n + (Opd.num ng v).wid := by
      have := ht.l
      have e : posn [Opd.num ng v] [Opd.num ng v].length = (Opd.num ng v).wid + 1 := by show ((([Opd.num ng v] : List Opd).take 1).map _).sum = _; simp
      rw [e, if_neg (by simp)] at this
      omega
    walk_at "go"
    refine go_read_expression h h0.1 h0.2 n0.1 (fun x H2 e2 t2 o2 => ?_)
    walk_at "go"
    intro q H3 nq e3 h3
    have t3 := t2.same e3
    walk_at "go"
    refine M.x_while (fun m σ' H' => m = 0 ∧ σ' = [some (.ref tk), some (.str "word"), some (.ref q), none] ∧ H' = H3) 0 ⟨rfl, rfl, rfl⟩ ?_
    rintro m σ' H' ⟨_, rfl, rfl⟩
    walk_at "go"
    refine go_text (a := 0) t3 ?_
    rw [Nat.add_zero, show txF ts (n + (Opd.num ng v).wid) = Str.ofString "" by unfold txF; rw [n0.2 rfl]]
    walk_at "go"
    refine k q _ (ext_free e2 t2.o nq) (fun b o hb hx => e3 _ _ (e2 b o hb hx)) (by rw [tl1]; exact t3) ⟨[x], h3, rfl, fun i y o hy ho => ?_⟩
    cases i with
    | zero => cases hy; cases ho; exact o2.same e3
    | succ i => cases hy
  · walk_at "go"
    intro q H1 nq e1 h1
    have t1 := h.same e1
    walk_at "go"
    refine M.x_kd (frm_kd T hf) ?_
    walk_at "go"
    refine M.x_isForS (fun i σ' H' => ∃ (v3 : Option V) (xs : List V), σ' = [some (.ref tk), some (.str op), some (.ref q), v3] ∧ M.Ext [tk] H H' ∧ TkAt K H' tk dx tl u ts (if i = 0 then n else n + posn os i - 1) ∧ H' q = some (.lst xs) ∧ xs.length = i ∧ ∀ (j : Nat) x o, xs[j]? = some x → os[j]? = some o → OpdAt K (fun l => l ≠ q ∧ H l = none) H' x o)
      ⟨_, [], rfl, fun b o _ hx => e1 _ _ hx, t1, h1, rfl, fun j x o hx => by cases hx⟩ ?_ ?_
    · rintro i c σ' H' hc ⟨v3, xs, rfl, ex, tx, hq, xl, xa⟩
      have il : i < os.length := by have := (List.getElem?_eq_some_iff.mp hc).1; omega
      have ho : os[i]? = some os[i] := List.getElem?_eq_getElem il
      obtain ⟨o1, o2⟩ := ht.o i _ ho
      have n0 := ht.no ho
      have ps := posn_succ ho
      have fm := ff i c _ hc ho
      have key : ∀ H2, M.Ext [tk] H' H2 → TkAt K H2 tk dx tl u ts (n + posn os i) → sp_read_operand K [.ref tk, .str (S [c])] H2 (fun x H1 => tNil [some (.ref tk), some (.str op), some (.ref q), some (.str (S [c]))] H1 fun ys H3 => rAppend (.ref q) (x :: ys) H3 fun _ H4 => ∃ (v3 : Option V) (xs : List V), [some (.ref tk), some (.str op), some (.ref q), some (V.str (S [c]))] = [some (.ref tk), some (.str op), some (.ref q), v3] ∧ M.Ext [tk] H H4 ∧ TkAt K H4 tk dx tl u ts (if i + 1 = 0 then n else n + posn os (i + 1) - 1) ∧ H4 q = some (.lst xs) ∧ xs.length = i + 1 ∧ ∀ (j : Nat) x o, xs[j]? = some x → os[j]? = some o → OpdAt K (fun l => l ≠ q ∧ H l = none) H4 x o) C8.E0 := fun H2 e2 t2 => by
        refine go_read_operand fm t2 o1 o2 n0.1 (fun x H3 e3 t3 o3 => ?_)
        have qt : q ≠ tk := fun z => by have := tx.o; rw [← z, hq] at this; cases this
        have hq2 := e2.at1 qt hq
        have hq3 := e3.at1 qt hq2
        walk_at "go"
        refine M.x_append hq3 (by omega) (fun H4 e4 h4 => ?_)
        have tkq : tk ≠ q := qt.symm
        refine ⟨_, xs ++ [x], rfl, fun b o hb hx => ?_, ?_, h4, by rw [List.length_append, xl]; rfl, fun j y o hy hoo => ?_⟩
        · refine e4.at1 (fun z => ?_) (e3 b o hb (e2 b o hb (ex b o hb hx)))
          rw [z, nq] at hx
          cases hx
        · rw [if_neg (by omega), ps, show n + (posn os i + (os[i].wid + 1)) - 1 = n + posn os i + os[i].wid by omega]
          obtain ⟨qs, g1, g2, g3⟩ := t3.t.ex
          have tlq : tl ≠ q := fun z => by
            have := h.t.ex
            obtain ⟨qs, g1, _⟩ := this
            rw [z, nq] at g1
            cases g1
          exact ⟨e4.at1 tkq t3.o, ⟨qs, e4.at1 tlq g1, g2, fun a p t hp ht => M.SqT.kp (M.Kp.lst e4 hq3) (g3 a p t hp ht)⟩, t3.l⟩
        · by_cases jl : j < xs.length
          · rw [List.getElem?_append_left jl] at hy
            exact OpdAt.nel (fun _ z => z.1) hq3 e4 (OpdAt.nei t2.o e3 (OpdAt.nei tx.o e2 (xa j y o hy hoo)))
          · rw [List.getElem?_append_right (by omega)] at hy
            have j0 : j - xs.length = 0 := by
              have := (List.getElem?_eq_some_iff.mp hy).1
              simp at this
              omega
            rw [j0] at hy
            cases hy
            have ji : j = i := by omega
            subst ji
            rw [ho] at hoo
            cases hoo
            exact OpdAt.nel (fun _ z => z.1) hq3 e4 (o3.mono fun l hl => ⟨fun z => (by rw [z, hq2] at hl; cases hl), ext_free ex tx.o (ext_free e2 t2.o hl)⟩)
      walk_at "go"
      rw [xl]
      by_cases i0 : i = 0
      · subst i0
        have tx' : TkAt K H' tk dx tl u ts (n + posn os 0) := by rw [show posn os 0 = 0 from rfl, Nat.add_zero]; exact tx
        refine M.x_ifFD (by omega) ?_
        walk_at "go"
        exact key H' (fun b o _ hx => hx) tx'
      · rw [if_neg i0] at tx
        obtain ⟨cc, hcm⟩ := ht.c i _ ho (by omega)
        refine M.x_ifTD (by omega) ?_
        walk_at "go"
        refine go_take tx hcm rfl (.inr rfl) (fun H2 e2 t2 => ?_)
        have t2' : TkAt K H2 tk dx tl u ts (n + posn os i) := by
          have : 1 ≤ posn os i := by
            obtain ⟨j, rfl⟩ : ∃ j, i = j + 1 := ⟨i - 1, by omega⟩
            rw [posn_succ (List.getElem?_eq_getElem (show j < os.length by omega))]
            omega
          rw [show n + posn os i = n + posn os i - 1 + 1 by omega]
          exact t2
        have qt : q ≠ tk := fun z => by have := tx.o; rw [← z, hq] at this; cases this
        have hq2 := e2.at1 qt hq
        walk_at "go"
        exact key H2 e2 t2'
    rintro σ' H' ⟨v3, xs, rfl, ex, tx, hq, xl, xa⟩
    walk_at "go"
    refine k q H' nq ex ?_ ⟨xs, hq, by rw [xl, fl], fun i x o hx ho => (xa i x o hx ho).mono fun _ z => z.2⟩
    have hl' := ht.l
    rw [fl] at tx
    by_cases z : os = []
    · rw [z] at hl' tx
      rw [hl']
      exact tx
    · have : os.length ≠ 0 := fun y => z (List.eq_nil_of_length_eq_zero y)
      rw [if_neg this] at tx
      rw [if_neg z] at hl'
      rw [hl']
      exact tx
end asm6

end
section
section asm7
open SX
variable {P : Program} {w : World} {K : PySem.W.Frag} {mg : Str → Option Value} {base : Heap}
local macro_rules | `(tactic| walk_at "hp") => `(tactic| exact TkAt.o (by assumption))
def lnF (u : Int) (lb : V) (op : Str) (ol : Addr) : List (Str × V) := [("number", .int u), ("label", lb), ("op", .str op), ("operands", .ref ol)]
def sp_Line_init (K : PySem.W.Frag) : Sp := fun vs H Q _ => ∃ (m dx : Addr) (u : Int), vs = [.ref m, .int u] ∧ H m = some (.ins (He.ga K "Line") dx []) ∧ ∀ ol H', H ol = none → M.Ext [m] H H' → H' m = some (.ins (He.ga K "Line") dx (lnF u .non "" ol)) → H' ol = some (.lst []) → Q .non H'
abbrev M.N_Line___init__ : List Str := ["self", "number"]
theorem sc_Line___init__ : FnScope M.N_Line___init__ ["self", "number"] (defScope s_Line___init__) := ⟨rfl, rfl, rfl, by decide +kernel, rfl, by decide +kernel, by decide +kernel⟩
theorem ok_Line___init__ (T : Tx P w K mg) : C8.Mak P w K mg base 1 "Line" (He.ga K "Line") (sp_Line_init K) [] := by
  refine M.mak_mk T.f_Line___init__ T.k_Line T.g_Line sc_Line___init__ (fun _ _ _ _ _ _ us hl => match us, hl with | [_, _], _ => rfl) (by rintro vs H Q E ⟨m, dx, u, rfl, _⟩; rfl) fun cdv Ar outer s0 H vs Q E hr h => ?_
  obtain ⟨m, dx, u, rfl, hm, k⟩ := h
  refine ⟨_, (pss_cons (ps_fld (pv 0) (pv 1) rfl) (pss_cons (ps_fld (pv 0) pe_non rfl) (pss_cons (ps_fld (pv 0) pe_str rfl) (pss_one (ps_fld (pv 0) (pe_lst pa_nil) rfl))))), ?_⟩
  refine M.x_st (σ0 := [some _, some _]) rfl ?_
  walk_at "kk"
  walk_at "go"
  refine M.x_isSF hm T.c_Line T.n_Line_number (by decide) rfl (fun H1 e1 h1 => ?_)
  walk_at "go"
  refine M.x_isSF h1 T.c_Line T.n_Line_label (by show 1 < 1000; decide) rfl (fun H2 e2 h2 => ?_)
  walk_at "go"
  refine M.x_isSF h2 T.c_Line T.n_Line_op (by show 2 < 1000; decide) rfl (fun H3 e3 h3 => ?_)
  walk_at "go"
  intro ol H4 nol e4 h4
  have h34 := e4 _ _ h3
  walk_at "go"
  refine M.x_isSF h34 T.c_Line T.n_Line_operands (by show 3 < 1000; decide) rfl (fun H5 e5 h5 => ?_)
  walk_at "go"
  have om : ol ≠ m := fun z => by rw [z, h3] at nol; cases nol
  have f0 : H ol = none := ext_free e1 h1 (ext_free e2 h2 (ext_free e3 h3 nol))
  exact k ol H5 f0 (fun b o hb h => e5 b o hb (e4 _ _ (e3 b o hb (e2 b o hb (e1 b o hb h))))) h5 (e5.at1 om h4)
theorem go_newLine {u : Int} {H : Hp} {Q : VK} {E : XK} (k : ∀ x dx ol H', H x = none → H ol = none → x ≠ ol → Same H H' → H' x = some (.ins (He.ga K "Line") dx (lnF u .non "" ol)) → H' ol = some (.lst []) → Q (.ref x) H') : M.isNew (He.ga K "Line") (sp_Line_init K) E [.int u] H Q := by
  refine M.x_isNew (fun m dx H1 hm e1 h1 => ⟨m, dx, u, rfl, h1, fun ol H2 no e2 h2 hl => ⟨rfl, ?_⟩⟩)
  exact k m dx ol H2 hm (e1.free no) (fun z => by rw [← z, h1] at no; cases no) (fun b o hb => e2.at1 (fun z => by rw [z, hm] at hb; cases hb) (e1 _ _ hb)) h2 hl
theorem go_newTokens {l : List Nat} {u : Int} {ts : List Tok} {H : Hp} {Q : VK} {E : XK} (hl : l.length ≤ 50000) (ht : toksOk l ts) (htl : ts.length ≤ 50000) (k : ∀ x dx tl H', H x = none → Same H H' → TkAt K H' x dx tl u ts 0 → Q (.ref x) H') : M.isNew (He.ga K "Tokens") (sp_Tokens_init K) E [.str (S l), .int u] H Q := by
  refine M.x_isNew (fun m dx H1 hm e1 h1 => ⟨m, dx, l, u, ts, rfl, h1, hl, ht, htl, fun tl H2 e2 h2 => ⟨rfl, ?_⟩⟩)
  exact k m dx tl H2 hm (fun b o hb => e2.at1 (fun z => by rw [z, hm] at hb; cases hb) (e1 _ _ hb)) h2
/-- a line as it lies -/
structure LnAt (K : PySem.W.Frag) (N : Addr → Prop) (H : Hp) (ln : Addr) (u : Int) (op : Str) (os : List Opd) : Prop where
  ex : ∃ dx ol, N ol ∧ H ln = some (.ins (He.ga K "Line") dx (lnF u .non op ol)) ∧ OpsAt K N H ol os
theorem LnAt.same {N : Addr → Prop} {H H1 : Hp} {ln : Addr} {u : Int} {op : Str} {os : List Opd} (h : LnAt K N H ln u op os) (e : Same H H1) : LnAt K N H1 ln u op os := by
  obtain ⟨dx, ol, h0, h1, h2⟩ := h.ex
  exact ⟨dx, ol, h0, e _ _ h1, h2.same e⟩
theorem LnAt.mono {N N' : Addr → Prop} {H : Hp} {ln : Addr} {u : Int} {op : Str} {os : List Opd} (h : LnAt K N H ln u op os) (m : ∀ l, N l → N' l) : LnAt K N' H ln u op os := by
  obtain ⟨dx, ol, h0, h1, xs, g1, g2, g3⟩ := h.ex
  exact ⟨dx, ol, m _ h0, h1, xs, g1, g2, fun i x o hx ho => (g3 i x o hx ho).mono m⟩
theorem LnAt.nel {N : Addr → Prop} {H H1 : Hp} {ln q : Addr} {u : Int} {op : Str} {os : List Opd} {ys : List V} (h : LnAt K N H ln u op os) (hN : ∀ l, N l → l ≠ q) (hq : H q = some (.lst ys)) (e : M.Ext [q] H H1) : LnAt K N H1 ln u op os := by
  obtain ⟨dx, ol, h0, h1, xs, g1, g2, g3⟩ := h.ex
  exact ⟨dx, ol, h0, e.at1 (M.ne_il h1 hq) h1, xs, e.at1 (hN ol h0) g1, g2, fun i x o hx ho => OpdAt.nel hN hq e (g3 i x o hx ho)⟩
/-- the tokens of a whole line -/
structure LineToks (ts : List Tok) (op : List Nat) (os : List Opd) : Prop where
  w : ∃ c, ts[0]? = some ⟨c, "name", op⟩
  t : LineT ts 1 os
  f : Fits (S op) os
  o : os.length ≤ 10
  l : ts.length ≤ 50000
theorem LineToks.colon {ts : List Tok} {op : List Nat} {os : List Opd} (h : LineToks ts op os) : txF ts 1 ≠ ":" := by
  cases os with
  | nil =>
    have hl := h.t.l
    have : ts.length = 1 := hl
    unfold txF
    rw [List.getElem?_eq_none (by omega)]
    decide
  | cons o os =>
    have h0 := (h.t.o 0 o rfl).1
    have p0 : posn (o :: os) 0 = 0 := rfl
    rw [p0, Nat.add_zero] at h0
    cases o with
    | reg r =>
      obtain ⟨c, hc⟩ := h0
      rw [txF_at hc]
      intro z
      have := S_inj (show S (regS r) = S [58] from z)
      cases this
    | num ng v =>
      cases ng with
      | false =>
        obtain ⟨c, hc⟩ := h0
        rw [txF_at hc]
        intro z
        have := S_inj (show S (TL.numL v) = S [58] from z)
        have h45 : (58 : Nat) ∈ TL.numL v := by rw [this]; simp
        exact TL.numL_free (.inr (by decide)) h45
      | true =>
        obtain ⟨c, c', hc, _⟩ := h0
        rw [txF_at hc]
        intro z
        have := S_inj (show S [45] = S [58] from z)
        cases this
def sp_read_line (K : PySem.W.Frag) : Sp := fun vs H Q _ => ∃ (l : List Nat) (u : Int) (ts : List Tok) (op : List Nat) (os : List Opd), vs = [.str (S l), .int u] ∧ l.length ≤ 50000 ∧ toksOk l ts ∧ LineToks ts op os ∧ ∀ ln H', H ln = none → Same H H' → LnAt K (fun l => H l = none) H' ln u (S op) os → Q (.ref ln) H'
theorem go_read_line {l : List Nat} {u : Int} {ts : List Tok} {op : List Nat} {os : List Opd} {H : Hp} {Q : VK} {E : XK} (hl : l.length ≤ 50000) (ht : toksOk l ts) (h : LineToks ts op os) (k : ∀ ln H', H ln = none → Same H H' → LnAt K (fun l => H l = none) H' ln u (S op) os → Q (.ref ln) H') : sp_read_line K [.str (S l), .int u] H Q E := ⟨l, u, ts, op, os, rfl, hl, ht, h, k⟩
abbrev M.N_read_line : List Str := ["text", "number", "line", "tokens"]
theorem sc_read_line : FnScope M.N_read_line ["text", "number"] (defScope s_read_line) := ⟨rfl, rfl, rfl, by decide +kernel, rfl, by decide +kernel, by decide +kernel⟩
theorem ok_read_line (T : Tx P w K mg) : M.CalX P w K mg base 10 "read_line" (sp_read_line K) := by
  refine M.cal_mkX T.f_read_line T.g_read_line sc_read_line (fun _ _ _ _ _ _ us hl => match us, hl with | [_, _], _ => rfl) (by rintro vs H Q E ⟨l, u, ts, op, os, rfl, _⟩; rfl) fun cdv A outer s H vs Q E hr h => ?_
  obtain ⟨l, u, ts, op, os, rfl, hl, ht, h, k⟩ := h
  refine ⟨_, (pss_cons (ps_set (i := 2) sc_read_line.nd rfl (Or.inl rfl) (C8.pe_mk (ok_Line___init__ T) hr (by decide) (by rfl) (pa_cons (pv 1) pa_nil))) (pss_cons (ps_set (i := 3) sc_read_line.nd rfl (Or.inl rfl) (C8.pe_mk (ok_Tokens___init__ T) hr (by decide) (by rfl) (pa_cons (pv 0) (pa_cons (pv 1) pa_nil)))) (pss_cons (ps_if (PW.pt (pw_and (pt_cmpR op_eq (C8.pe_mt (ok_Tokens_kind T) hr (by decide) (pv 3) (pa_cons pe_int pa_nil)) pe_str (nomark _)) (pw_and1 (pt_cmpR op_eq (C8.pe_mt (ok_Tokens_text T) hr (by decide) (pv 3) (pa_cons pe_int pa_nil)) pe_str (nomark _))))) (pss_cons (ps_fld (pv 2) (M.pe_cX (ok_read_name T) hr (by decide) (by rfl) (L2N.takes_of rfl rfl rfl rfl) (pa_cons (pv 3) pa_nil)) rfl) (pss_one (ps_expr (M.pe_mX (ok_Tokens_take T) hr (by decide) (L2N.takes_of rfl rfl rfl rfl) (pv 3) (pa_cons pe_str (pa_cons pe_str pa_nil)))))) pss_nil) (pss_cons (ps_if (pt_cmpR op_eq (C8.pe_mt (ok_Tokens_kind T) hr (by decide) (pv 3) (pa_cons pe_int pa_nil)) pe_str (nomark _)) (pss_one (ps_ret (pv 2))) pss_nil) (pss_cons (ps_if (PW.pt (pw_and (pt_cmpR op_ne (C8.pe_mt (ok_Tokens_text T) hr (by decide) (pv 3) (pa_cons pe_int pa_nil)) (C8.pe_gc (by rfl) T.g_LIST) (nomark _)) (pw_and1 (pt_cmpR (M.op_notInKD T.t_FORMS) (C8.pe_mt (ok_Tokens_text T) hr (by decide) (pv 3) (pa_cons pe_int pa_nil)) (C8.pe_gc (by rfl) T.g_FORMS) (by rfl))))) (pss_one (M.ps_rz rfl (L2N.takes_of rfl rfl rfl rfl) (XM.pmk_ok T.e_Malformed hr (pa_cons (pv 1) (pa_cons (C8.pe_mt0 (ok_Tokens_column T) hr (by decide) (pv 3)) pa_nil)) T.g_Malformed T.b_str T.b_super (by rfl)))) pss_nil) (pss_cons (ps_fld (pv 2) (M.pe_mX (ok_Tokens_take T) hr (by decide) (L2N.takes_of rfl rfl rfl rfl) (pv 3) (pa_cons pe_str (pa_cons pe_str pa_nil))) rfl) (pss_cons (ps_fld (pv 2) (C8.pe_c (ok_read_operands T) hr (by decide) (by rfl) (pa_cons (pv 3) (pa_cons (pe_fld (pv 2) rfl) pa_nil))) rfl) (pss_cons (ps_if (pt_cmpR op_ne (C8.pe_mt (ok_Tokens_kind T) hr (by decide) (pv 3) (pa_cons pe_int pa_nil)) pe_str (nomark _)) (pss_one (M.ps_rz rfl (L2N.takes_of rfl rfl rfl rfl) (XM.pmk_ok T.e_Malformed hr (pa_cons (pv 1) (pa_cons (C8.pe_mt0 (ok_Tokens_column T) hr (by decide) (pv 3)) pa_nil)) T.g_Malformed T.b_str T.b_super (by rfl)))) pss_nil) (pss_one (ps_ret (pv 2))))))))))), ?_⟩
  refine M.x_st (σ0 := [some _, some _, none, none]) rfl ?_
  walk_at "kk"
  obtain ⟨c0, hw⟩ := h.w
  walk_at "go"
  refine go_newLine (fun ln dx ol H1 n1 no nlo e1 h1 hl1 => ?_)
  walk_at "go"
  refine go_newTokens hl ht h.l (fun tk dxt tl H2 n2 e2 t2 => ?_)
  walk_at "go"
  refine go_kind (a := 0) t2 ?_
  rw [Nat.add_zero, kdF_at hw]
  walk_at "go"
  refine go_text (a := 1) t2 ?_
  have nc := h.colon
  rw [Nat.zero_add]
  walk_at "go"
  refine go_kind (a := 0) t2 ?_
  rw [Nat.add_zero, kdF_at hw]
  walk_at "go"
  refine M.x_ifFD (show ¬ Str.ofString "name" = Str.ofString "" by decide) ?_
  walk_at "go"
  refine go_text (a := 0) t2 ?_
  rw [Nat.add_zero, txF_at hw]
  walk_at "go"
  have hnk : S op ≠ Str.ofString "word" → ∃ u0, PySem.W.nsIn K (He.ga K "FORMS") (S op) = some (some u0) := fun z => by
    rcases h.f with ⟨e, _⟩ | ⟨_, f, hf, _⟩
    · exact absurd e z
    · obtain ⟨es, nn, uu, _, _, hk, _⟩ := frm_kd T hf
      exact ⟨_, hk⟩
  have lt : ln ≠ tk := fun z => by rw [← z, h1] at n2; cases n2
  have ln2 := e2 _ _ h1
  refine M.x_ifD (p := S op ≠ Str.ofString "word") (fun cw => ?_) (fun cw => ?_)
  all_goals
    try
      walk_at "go"
      refine go_text (a := 0) t2 ?_
      rw [Nat.add_zero, txF_at hw]
      obtain ⟨u0, hu0⟩ := hnk cw
      walk_at "go"
      refine M.x_notInKD hu0 ?_
      walk_at "go"
      refine M.x_ifT ?_
    walk_at "go"
    refine go_take t2 hw rfl (.inl rfl) (fun H3 e3 t3 => ?_)
    have ln3 := e3.at1 lt ln2
    walk_at "go"
    refine M.x_isSF ln3 T.c_Line T.n_Line_op (by show 4 < 1000; decide) rfl (fun H4 e4 h4 => ?_)
    have t4 : TkAt K H4 tk dxt tl u ts 1 := ⟨e4.at1 lt.symm t3.o, t3.t.nei ln3 e4, t3.l⟩
    walk_at "go"
    refine go_read_operands t4 h.t h.f h.o (fun q H5 nq e5 t5 o5 => ?_)
    have ln5 := e5.at1 lt h4
    walk_at "go"
    refine M.x_isSF ln5 T.c_Line T.n_Line_operands (by show 4 < 1000; decide) rfl (fun H6 e6 h6 => ?_)
    have t6 : TkAt K H6 tk dxt tl u ts ts.length := ⟨e6.at1 lt.symm t5.o, t5.t.nei ln5 e6, t5.l⟩
    walk_at "go"
    refine go_kind (a := 0) t6 ?_
    rw [Nat.add_zero, show kdF ts ts.length = Str.ofString "" by unfold kdF; rw [List.getElem?_eq_none (Nat.le_refl _)]]
    walk_at "go"
    obtain ⟨xs, g1, g2, g3⟩ := o5.ex
    have fr : ∀ l, H4 l = none → H l = none := fun l hl => e1.free (e2.free (ext_free e3 t3.o (ext_free e4 h4 hl)))
    refine k ln H6 n1 (fun b o hb => ?_) ⟨dx, q, fr _ nq, h6, ⟨xs, e6.at1 (M.ne_li g1 ln5) g1, g2, fun i x o hx ho => OpdAt.nei ln5 e6 ((g3 i x o hx ho).mono fr)⟩⟩
    have bl : b ≠ ln := fun z => by rw [z, n1] at hb; cases hb
    have bt : b ≠ tk := fun z => by rw [z, e1.free n2] at hb; cases hb
    exact e6.at1 bl (e5.at1 bt (e4.at1 bl (e3.at1 bt (e2 _ _ (e1 _ _ hb)))))
/-! ## all lines -/
structure LData where
  tx : List Nat
  ts : List Tok
  op : List Nat
  os : List Opd
structure LOk (d : LData) : Prop where
  l : d.tx.length ≤ 50000
  t : toksOk d.tx d.ts
  h : LineToks d.ts d.op d.os
/-- lines as they lie -/
structure LinesAt (K : PySem.W.Frag) (H : Hp) (q : Addr) (ds : List LData) : Prop where
  ex : ∃ ps : List Addr, H q = some (.lst (ps.map V.ref)) ∧ ps.length = ds.length ∧ ∀ (i : Nat) p d, ps[i]? = some p → ds[i]? = some d → ∃ u, LnAt K (fun l => l ≠ q) H p u (S d.op) d.os
theorem LinesAt.same {H H1 : Hp} {q : Addr} {ds : List LData} (h : LinesAt K H q ds) (e : Same H H1) : LinesAt K H1 q ds := by
  obtain ⟨ps, h1, h2, h3⟩ := h.ex
  exact ⟨ps, e _ _ h1, h2, fun i p d hp hd => by obtain ⟨u, hu⟩ := h3 i p d hp hd; exact ⟨u, hu.same e⟩⟩
def sp_read_lines (K : PySem.W.Frag) : Sp := fun vs H Q _ => ∃ (ds : List LData), vs = [.str (S (TL.joinL [10] (ds.map LData.tx)))] ∧ ds ≠ [] ∧ (TL.joinL [10] (ds.map LData.tx)).length ≤ 50000 ∧ (∀ d ∈ ds, LOk d ∧ 10 ∉ d.tx) ∧ ∀ q H', H q = none → Same H H' → LinesAt K H' q ds → Q (.ref q) H'
theorem joinL_len : ∀ (ds : List LData), (TL.joinL [10] (ds.map LData.tx)).length ≤ 50000 → ds.length ≤ 50001
  | [], _ => by simp
  | [d], _ => by simp
  | d :: e :: ds, h => by
    have h : (d.tx ++ ([10] ++ TL.joinL [10] ((e :: ds).map LData.tx))).length ≤ 50000 := h
    rw [List.length_append, List.length_append] at h
    have hl : ([10] : List Nat).length = 1 := rfl
    have key : ∀ (ds : List LData), ds.length ≤ (TL.joinL [10] (ds.map LData.tx)).length + 1 := fun ds => by
      induction ds with
      | nil => simp
      | cons d ds ih =>
        cases ds with
        | nil => simp
        | cons e ds =>
          show (e :: ds).length + 1 ≤ (d.tx ++ ([10] ++ TL.joinL [10] ((e :: ds).map LData.tx))).length + 1
          rw [List.length_append, List.length_append]
          have hl : ([10] : List Nat).length = 1 := rfl
          omega
    have := key (e :: ds)
    show (e :: ds).length + 1 ≤ 50001
    omega
abbrev M.N_read_lines : List Str := ["text", "rows", "k"]
theorem sc_read_lines : FnScope M.N_read_lines ["text"] (defScope s_read_lines) := ⟨rfl, rfl, rfl, by decide +kernel, rfl, by decide +kernel, by decide +kernel⟩
theorem ok_read_lines (T : Tx P w K mg) : C8.Cal P w K mg base 11 "read_lines" (sp_read_lines K) [] := by
  refine M.cal_mk T.f_read_lines T.g_read_lines sc_read_lines (fun _ _ _ _ _ _ us hl => match us, hl with | [_], _ => rfl) (by rintro vs H Q E ⟨ds, rfl, _⟩; rfl) fun cdv A outer s H vs Q E hr h => ?_
  obtain ⟨ds, rfl, hne, hl, hd, k⟩ := h
  refine ⟨_, (pss_cons (ps_set (i := 1) sc_read_lines.nd rfl (Or.inr rfl) (M.pe_splitZ (pv 0) pe_str)) (pss_one (ps_ret (pe_lc (own := [("k", 2)]) rfl sc_read_lines.nd (pi_range1 (by rfl) T.b_range (pa_cons (pe_callB M.call_len (by rfl) T.b_len (by decide +kernel) (pa_cons (pv 1) pa_nil)) pa_nil)) (blkOk_by (own := [("k", 2)]) (N := M.N_read_lines) (sc := defScope s_read_lines) (by decide +kernel)) (fun _ _ _ _ _ => (pg_name (i := 2) sc_read_lines.nd rfl (Or.inl rfl))) (fun _ _ _ _ _ => pts_nil) (fun _ _ _ _ _ => (M.pe_cX (ok_read_line T) hr (by decide) (by rfl) M.takesN0 (pa_cons (pe_ix (ix_list : IxR _ (rIxL K)) (pv 1) (pv 2) (fun _ _ => rfl)) (pa_cons (pe_op op_add (pv 2) pe_int) pa_nil)))))))), ?_⟩
  refine M.x_st (σ0 := [some _, none, none]) rfl ?_
  walk_at "kk"
  have hL := sizeLine_eq
  walk_at "go"
  refine M.x_split (b := Str.ofString "\n") (by decide) (by rw [S_len]; omega) (fun p H1 np e1 h1 => ?_)
  have es : Txt.split (S (TL.joinL [10] (ds.map LData.tx))) (Str.ofString "\n") = (ds.map LData.tx).map S := by
    have := split_S (a := TL.joinL [10] (ds.map LData.tx)) (b := [10]) (by simp) (by decide)
    rw [SX.spl_join (by simpa using hne) (fun x hx => by obtain ⟨d, hdd, rfl⟩ := List.mem_map.mp hx; exact (hd d hdd).2)] at this
    exact this
  rw [es] at h1
  have dl : ds.length ≤ 50001 := joinL_len ds hl
  walk_at "go"
  rw [show ((ds.map LData.tx).map S).map V.str = ds.map (fun d => V.str (S d.tx)) by rw [List.map_map, List.map_map]; rfl] at h1 ⊢
  rw [List.length_map]
  refine M.x_isLcR (n := (ds.length : Int)) (fun D i acc H' => H1 D = none ∧ Same H1 H' ∧ ∃ ps : List Addr, acc = ps.map V.ref ∧ ps.length = i ∧ ∀ (j : Nat) p d, ps[j]? = some p → ds[j]? = some d → ∃ u, LnAt K (fun l => l ≠ D) H' p u (S d.op) d.os) ⟨by omega, by omega⟩ (fun D H' hD e h => ⟨hD, e, [], rfl, rfl, fun j p d hp => by cases hp⟩) ?_ ?_
  · rintro D i acc H' hD hi hll hq ⟨_, e, ps, rfl, pl, pa⟩
    have il : i < ds.length := by omega
    have hx : ds[i]? = some ds[i] := List.getElem?_eq_getElem il
    obtain ⟨ok, _⟩ := hd _ (List.getElem_mem il)
    have h1' := e _ _ h1
    have a1 : atI (ds.map (fun d => V.str (S d.tx))) (i : Int) = some (V.str (S (ds[i]).tx)) := M.atI_of (v := V.str _) (by omega) (by rw [Int.toNat_natCast, List.getElem?_map, hx]; rfl)
    unfold M.LcTurn
    walk_at "go"
    refine ⟨rfl, ?_⟩
    walk_at "go"
    refine go_read_line ok.l ok.t ok.h (fun ln H2 nl e2 l2 => ?_)
    have hq2 := e2 _ _ hq
    refine M.x_lcPut hq2 hll (by omega) (fun H3 e3 h3 => ⟨hD, fun b o hb => e3.at1 (fun z => by rw [z, hD] at hb; cases hb) (e2 _ _ (e _ _ hb)), ps ++ [ln], by rw [List.map_append]; rfl, by rw [List.length_append, pl]; rfl, fun j p d hp hdd => ?_⟩)
    by_cases c : j < ps.length
    · rw [List.getElem?_append_left c] at hp
      obtain ⟨u, hu⟩ := pa j p d hp hdd
      exact ⟨u, (hu.same e2).nel (fun _ z => z) hq2 e3⟩
    · rw [List.getElem?_append_right (by omega)] at hp
      have j0 : j - ps.length = 0 := by
        have := (List.getElem?_eq_some_iff.mp hp).1
        simp at this
        omega
      rw [j0] at hp
      cases hp
      have ji : j = i := by omega
      subst ji
      rw [hx] at hdd
      cases hdd
      exact ⟨_, (l2.mono fun l hl z => by rw [z, hq] at hl; cases hl).nel (fun _ z => z) hq2 e3⟩
  rintro D acc H2 nD hll hq ⟨_, e2, ps, rfl, pl, pa⟩
  walk_at "go"
  exact k D H2 (e1.free nD) (e1.trans e2) ⟨ps, hq, by rw [pl]; omega, pa⟩
end asm7

end
section
section asm8
open SX
variable {P : Program} {w : World} {K : PySem.W.Frag} {mg : Str → Option Value} {base : Heap}
/-! ## values -/
def Opd.val : Opd → Int
  | .reg r => r
  | .num neg v => if neg then -(v : Int) else v
structure AsAt (K : PySem.W.Frag) (H : Hp) (a dx nd wl : Addr) (b : Int) : Prop where
  o : H a = some (.ins (He.ga K "Assembler") dx [("base", .int b), ("names", .ref nd), ("words", .ref wl)])
  n : H nd = some (.dK [])
theorem AsAt.same {H H1 : Hp} {a dx nd wl : Addr} {b : Int} (h : AsAt K H a dx nd wl b) (e : Same H H1) : AsAt K H1 a dx nd wl b := ⟨e _ _ h.o, e _ _ h.n⟩
local macro_rules | `(tactic| walk_at "hp") => `(tactic| exact AsAt.o (by assumption))
instance i_dnewK {σ : L2.St} {H : Hp} {Q : VK} : M.Stp (tDNewK σ H Q) (∀ p H2, H p = none → Same H H2 → H2 p = some (.dK []) → Q (.ref p) H2) := ⟨fun k p hp => k p _ hp (M.same_new hp) upd_same⟩
def sp_Assembler_init (K : PySem.W.Frag) : Sp := fun vs H Q _ => ∃ (m dx : Addr) (b : Int), vs = [.ref m, .int b] ∧ H m = some (.ins (He.ga K "Assembler") dx []) ∧ ∀ nd wl H', M.Ext [m] H H' → AsAt K H' m dx nd wl b → Q .non H'
abbrev M.N_Assembler___init__ : List Str := ["self", "base"]
theorem sc_Assembler___init__ : FnScope M.N_Assembler___init__ ["self", "base"] (defScope s_Assembler___init__) := ⟨rfl, rfl, rfl, by decide +kernel, rfl, by decide +kernel, by decide +kernel⟩
theorem ok_Assembler___init__ (T : Tx P w K mg) : C8.Mak P w K mg base 1 "Assembler" (He.ga K "Assembler") (sp_Assembler_init K) [] := by
  refine M.mak_mk T.f_Assembler___init__ T.k_Assembler T.g_Assembler sc_Assembler___init__ (fun _ _ _ _ _ _ us hl => match us, hl with | [_, _], _ => rfl) (by rintro vs H Q E ⟨m, dx, b, rfl, _⟩; rfl) fun cdv Ar outer s0 H vs Q E hr h => ?_
  obtain ⟨m, dx, b, rfl, hm, k⟩ := h
  refine ⟨_, (pss_cons (ps_fld (pv 0) (pv 1) rfl) (pss_cons (ps_fld (pv 0) pe_dnewK rfl) (pss_one (ps_fld (pv 0) (pe_lst pa_nil) rfl)))), ?_⟩
  refine M.x_st (σ0 := [some _, some _]) rfl ?_
  walk_at "kk"
  walk_at "go"
  refine M.x_isSF hm T.c_Assembler T.n_Assembler_base (by decide) rfl (fun H1 e1 h1 => ?_)
  walk_at "go"
  intro nd H2 nn e2 h2
  have h12 := e2 _ _ h1
  walk_at "go"
  refine M.x_isSF h12 T.c_Assembler T.n_Assembler_names (by show 1 < 1000; decide) rfl (fun H3 e3 h3 => ?_)
  walk_at "go"
  intro wl H4 nw e4 h4
  have h34 := e4 _ _ h3
  walk_at "go"
  refine M.x_isSF h34 T.c_Assembler T.n_Assembler_words (by show 2 < 1000; decide) rfl (fun H5 e5 h5 => ?_)
  walk_at "go"
  have nm : nd ≠ m := fun z => by rw [z, h1] at nn; cases nn
  exact k nd wl H5 (fun b o hb h => e5 b o hb (e4 _ _ (e3 b o hb (e2 _ _ (e1 b o hb h))))) ⟨h5, e5.at1 nm (e4 _ _ (e3.at1 nm h2))⟩
def sp_value (K : PySem.W.Frag) : Sp := fun vs H Q _ => ∃ (a dx nd wl ln : Addr) (b : Int) (x : V) (N : Addr → Prop) (neg : Bool) (v : Nat), vs = [.ref a, x, .ref ln] ∧ AsAt K H a dx nd wl b ∧ OpdAt K N H x (.num neg v) ∧ Q (.int (Opd.num neg v).val) H
abbrev M.N_Assembler_value : List Str := ["self", "expression", "line", "total", "sign", "value", "column"]
theorem sc_Assembler_value : FnScope M.N_Assembler_value ["self", "expression", "line"] (defScope s_Assembler_value) := ⟨rfl, rfl, rfl, by decide +kernel, rfl, by decide +kernel, by decide +kernel⟩
theorem ok_Assembler_value (T : Tx P w K mg) : M.MetX P w K mg base 4 (He.ga K "Assembler") "value" (sp_value K) := by
  refine M.met_mkX T.f_Assembler_value T.c_Assembler T.m_Assembler_value sc_Assembler_value (fun _ _ _ _ _ _ us hl => match us, hl with | [_, _, _], _ => rfl) (by rintro vs H Q E ⟨a, dx, nd, wl, ln, b, x, N, neg, v, rfl, _⟩; rfl) fun cdv Ar outer s0 H vs Q E hr h => ?_
  obtain ⟨a, dx, nd, wl, ln, b, x, N, neg, v, rfl, h, hx, k⟩ := h
  refine ⟨_, (pss_cons (ps_set (i := 3) sc_Assembler_value.nd rfl (Or.inl rfl) pe_int) (pss_cons (ps_for (L2.passes_of rfl) rfl (pi_list (pe_ix ix_tup (pv 1) pe_int (fun _ _ => rfl))) (pg_tup rfl (pgs_cons (pg_name (i := 4) sc_Assembler_value.nd rfl (Or.inl rfl)) (pgs_cons (pg_name (i := 5) sc_Assembler_value.nd rfl (Or.inl rfl)) (pgs_cons (pg_name (i := 6) sc_Assembler_value.nd rfl (Or.inl rfl)) pgs_nil)))) (pss_cons (ps_if (pt_cmpR op_gt (pv 6) pe_int (nomark _)) (pss_cons (ps_if (pt_cmp (pc_dnotin (M.hu hr) (pv 5) (pe_fld (pv 0) rfl))) (pss_one (M.ps_rz rfl (L2N.takes_of rfl rfl rfl rfl) (XM.pmk_ok T.e_Unknown hr (pa_cons (pv 5) (pa_cons (pe_fld (pv 2) rfl) (pa_cons (pv 6) pa_nil))) T.g_Unknown T.b_str T.b_super (by rfl)))) pss_nil) (pss_one (ps_set (i := 5) sc_Assembler_value.nd rfl (Or.inl rfl) (pe_dget (M.hu hr) (pe_fld (pv 0) rfl) (pv 5) (fun _ _ => rfl))))) pss_nil) (pss_one (ps_aug (i := 3) sc_Assembler_value.nd rfl (Or.inl rfl) (pe_op op_mul (pv 4) (pv 5)) ip_add)))) (pss_one (ps_ret (pv 3))))), ?_⟩
  refine M.x_st (σ0 := [some _, some _, some _, none, none, none, none]) rfl ?_
  walk_at "kk"
  obtain ⟨p, l, t, c, _, rfl, hp, hl, ht⟩ := hx
  walk_at "go"
  refine M.x_isForL (SqL.of hl) (fun i σ' H' => ∃ v4 v5 v6 : Option V, σ' = [some (.ref a), some (.ref p), some (.ref ln), some (.int (if i = 0 then 0 else (Opd.num neg v).val)), v4, v5, v6] ∧ H' = H) ⟨_, _, _, rfl, rfl⟩ (fun i σ' H' hi hP => by obtain ⟨_, _, _, _, e⟩ := hP; rw [e]; exact SqL.of hl) ?_ ?_
  · rintro i y σ' H' hi ⟨v4, v5, v6, rfl, rfl⟩
    rcases i with _ | i
    · cases hi
      walk_at "go"
      have ev : (if (0 : Nat) = 0 then (0 : Int) else (Opd.num neg v).val) + (if neg = true then -1 else 1) * (v : Int) = if 0 + 1 = 0 then 0 else (Opd.num neg v).val := by
        cases neg with
        | false => show (0 : Int) + 1 * (v : Int) = (v : Int); omega
        | true => show (0 : Int) + (-1) * (v : Int) = -(v : Int); omega
      rw [ev]
      exact ⟨_, _, _, rfl, rfl⟩
    · cases hi
  rintro σ' H' ⟨v4, v5, v6, rfl, rfl⟩
  walk_at "go"
  exact k
def sp_within (K : PySem.W.Frag) : Sp := fun vs H Q _ => ∃ (a dx nd wl ln : Addr) (b lo hi : Int) (x : V) (N : Addr → Prop) (neg : Bool) (v : Nat), vs = [.ref a, x, .ref ln, .int lo, .int hi] ∧ AsAt K H a dx nd wl b ∧ OpdAt K N H x (.num neg v) ∧ (lo ≤ (Opd.num neg v).val ∧ (Opd.num neg v).val ≤ hi) ∧ Q (.int (Opd.num neg v).val) H
theorem go_within {a dx nd wl ln : Addr} {b lo hi : Int} {x : V} {N : Addr → Prop} {neg : Bool} {v : Nat} {H : Hp} {Q : VK} {E : XK} (h : AsAt K H a dx nd wl b) (hx : OpdAt K N H x (.num neg v)) (hv : lo ≤ (Opd.num neg v).val ∧ (Opd.num neg v).val ≤ hi) (k : Q (.int (Opd.num neg v).val) H) : sp_within K [.ref a, x, .ref ln, .int lo, .int hi] H Q E := ⟨a, dx, nd, wl, ln, b, lo, hi, x, N, neg, v, rfl, h, hx, hv, k⟩
abbrev M.N_Assembler_within : List Str := ["self", "expression", "line", "least", "most", "value"]
theorem sc_Assembler_within : FnScope M.N_Assembler_within ["self", "expression", "line", "least", "most"] (defScope s_Assembler_within) := ⟨rfl, rfl, rfl, by decide +kernel, rfl, by decide +kernel, by decide +kernel⟩
theorem ok_Assembler_within (T : Tx P w K mg) : M.MetX P w K mg base 5 (He.ga K "Assembler") "within" (sp_within K) := by
  refine M.met_mkX T.f_Assembler_within T.c_Assembler T.m_Assembler_within sc_Assembler_within (fun _ _ _ _ _ _ us hl => match us, hl with | [_, _, _, _, _], _ => rfl) (by rintro vs H Q E ⟨a, dx, nd, wl, ln, b, lo, hi, x, N, neg, v, rfl, _⟩; rfl) fun cdv Ar outer s0 H vs Q E hr h => ?_
  obtain ⟨a, dx, nd, wl, ln, b, lo, hi, x, N, neg, v, rfl, h, hx, hv, k⟩ := h
  refine ⟨_, (pss_cons (ps_set (i := 5) sc_Assembler_within.nd rfl (Or.inl rfl) (M.pe_mX (ok_Assembler_value T) hr (by decide) (L2N.takes_of rfl rfl rfl rfl) (pv 0) (pa_cons (pv 1) (pa_cons (pv 2) pa_nil)))) (pss_cons (ps_if (pt_not (pt_chain op_le op_le (pv 3) (pv 5) (pv 4))) (pss_one (M.ps_rz rfl (L2N.takes_of rfl rfl rfl rfl) (XM.pmk_ok T.e_OutOfRange hr (pa_cons (pe_fld (pv 2) rfl) (pa_cons (pe_ix ix_tup (pv 1) pe_int (fun _ _ => rfl)) pa_nil)) T.g_OutOfRange T.b_str T.b_super (by rfl)))) pss_nil) (pss_one (ps_ret (pv 5))))), ?_⟩
  refine M.x_st (σ0 := [some _, some _, some _, some _, some _, none]) rfl ?_
  walk_at "kk"
  walk_at "go"
  refine ⟨a, dx, nd, wl, ln, b, x, N, neg, v, rfl, h, hx, ?_⟩
  walk_at "go"
  exact k
def sp_is_instruction : Sp := fun vs H Q _ => ∃ op : Str, vs = [.str op] ∧ Q (.bl (decide (op ∈ opsl))) H
theorem go_is_instruction {op : Str} {H : Hp} {Q : VK} {E : XK} (k : Q (.bl (decide (op ∈ opsl))) H) : sp_is_instruction [.str op] H Q E := ⟨op, rfl, k⟩
abbrev M.N_is_instruction : List Str := ["op"]
theorem sc_is_instruction : FnScope M.N_is_instruction ["op"] (defScope s_is_instruction) := ⟨rfl, rfl, rfl, by decide +kernel, rfl, by decide +kernel, by decide +kernel⟩
theorem ok_is_instruction (T : Tx P w K mg) : C8.Cal P w K mg base 1 "is_instruction" sp_is_instruction [] := by
  refine M.cal_mk T.f_is_instruction T.g_is_instruction sc_is_instruction (fun _ _ _ _ _ _ us hl => match us, hl with | [_], _ => rfl) (by rintro vs H Q E ⟨op, rfl, _⟩; rfl) fun cdv A outer s0 H vs Q E hr h => ?_
  obtain ⟨op, rfl, k⟩ := h
  refine ⟨_, (pss_one (ps_ret (pe_cmpR op_in_seq (pv 0) (C8.pe_gc (by rfl) T.g_OPS) (by rfl)))), ?_⟩
  refine M.x_st (σ0 := [some _]) rfl ?_
  walk_at "kk"
  walk_at "go"
  rw [inV_ops]
  exact k
def lenF (op : Str) (os : List Opd) : Nat := if op = "word" then os.length else if op = "set" then 2 else 1
def OpWord (op : Str) : Prop := op ∈ opsl ∨ op = "word"
def sp_length (K : PySem.W.Frag) : Sp := fun vs H Q _ => ∃ (a dx nd wl ln : Addr) (b u ad : Int) (op : Str) (os : List Opd) (N : Addr → Prop), vs = [.ref a, .ref ln, .int ad] ∧ AsAt K H a dx nd wl b ∧ LnAt K N H ln u op os ∧ OpWord op ∧ Q (.int (lenF op os : Nat)) H
theorem go_length {a dx nd wl ln : Addr} {b u ad : Int} {op : Str} {os : List Opd} {N : Addr → Prop} {H : Hp} {Q : VK} {E : XK} (h : AsAt K H a dx nd wl b) (hl : LnAt K N H ln u op os) (ho : OpWord op) (k : Q (.int (lenF op os : Nat)) H) : sp_length K [.ref a, .ref ln, .int ad] H Q E := ⟨a, dx, nd, wl, ln, b, u, ad, op, os, N, rfl, h, hl, ho, k⟩
abbrev M.N_Assembler_length : List Str := ["self", "line", "address"]
theorem sc_Assembler_length : FnScope M.N_Assembler_length ["self", "line", "address"] (defScope s_Assembler_length) := ⟨rfl, rfl, rfl, by decide +kernel, rfl, by decide +kernel, by decide +kernel⟩
theorem ok_Assembler_length (T : Tx P w K mg) : C8.Met P w K mg base 6 (He.ga K "Assembler") "length" (sp_length K) [] := by
  refine M.met_mk T.f_Assembler_length T.c_Assembler T.m_Assembler_length sc_Assembler_length (fun _ _ _ _ _ _ us hl => match us, hl with | [_, _, _], _ => rfl) (by rintro vs H Q E ⟨a, dx, nd, wl, ln, b, u, ad, op, os, N, rfl, _⟩; rfl) fun cdv Ar outer s0 H vs Q E hr h => ?_
  obtain ⟨a, dx, nd, wl, ln, b, u, ad, op, os, N, rfl, h, hl, ho, k⟩ := h
  refine ⟨_, (pss_cons (ps_if (pt_val (C8.pe_c (ok_is_instruction T) hr (by decide) (by rfl) (pa_cons (pe_fld (pv 1) rfl) pa_nil))) (pss_one (ps_ret (C8.pe_c (ok_size_of T) hr (by decide) (by rfl) (pa_cons (pe_fld (pv 1) rfl) pa_nil)))) pss_nil) (pss_cons (ps_if (pt_cmpR op_eq (pe_fld (pv 1) rfl) pe_str (nomark _)) (pss_one (ps_ret (pe_callB M.call_len (by rfl) T.b_len (by decide +kernel) (pa_cons (pe_fld (pv 1) rfl) pa_nil)))) pss_nil) (pss_cons (ps_if (pt_cmpR op_eq (pe_fld (pv 1) rfl) pe_str (nomark _)) (pss_one (ps_ret (M.pe_mX (ok_Assembler_within T) hr (by decide) M.takesN0 (pv 0) (pa_cons (pe_ix ix_list (pe_fld (pv 1) rfl) pe_int (fun _ _ => rfl)) (pa_cons (pv 1) (pa_cons pe_int (pa_cons (C8.pe_gc (by rfl) T.g_MOST) pa_nil))))))) pss_nil) (pss_one (ps_ret (pe_ifExp (pt_cmpR op_eq (pe_fld (pv 1) rfl) pe_str (nomark _)) (pe_op op_mod (pe_callTy M.call_int (by rfl) T.b_int (by decide +kernel) (pa_cons (pe_un un_neg (pv 2)) pa_nil)) (C8.pe_gc (by rfl) T.g_PAGE)) pe_int)))))), ?_⟩
  refine M.x_st (σ0 := [some _, some _, some _]) rfl ?_
  walk_at "kk"
  obtain ⟨dxl, ol, _, hln, xs, g1, g2, g3⟩ := hl.ex
  unfold lnF at hln
  walk_at "go"
  refine go_is_instruction ?_
  walk_at "go"
  rcases ho with ho | rfl
  · refine M.x_ifTD ho ?_
    walk_at "go"
    have nw : op ≠ "word" := fun z => by rw [z] at ho; exact absurd ho (by decide)
    refine go_size_of ?_
    walk_at "go"
    have : ((lenF op os : Nat) : Int) = if op = "set" then 2 else 1 := by unfold lenF; rw [if_neg nw]; split <;> rfl
    rw [← this]
    exact k
  · refine M.x_ifFD (by decide) ?_
    walk_at "go"
    rw [g2]
    exact k
end asm8

end
section
section asm9
open SX
variable {P : Program} {w : World} {K : PySem.W.Frag} {mg : Str → Option Value} {base : Heap}
local macro_rules | `(tactic| walk_at "hp") => `(tactic| exact AsAt.o (by assumption))
/-- a def with one default -/
theorem cal_mkD {x : Str} {st : Stmt} {f : Addr} {N ps : List Str} {k : Nat} {sp : Sp} {dv : V} (n j : Nat) (hn : n + (1 - j) = ps.length) (F : ∃ fd, FunD K x x (defArgs st) (defBody st) (defScope st) [dv] [] f fd) (hm : mg x = some (.ref f)) (Sc : FnScope N ps (defScope st))
    (hb : ∀ (T : Addr) (kV doc pm : Value) (an : Option Addr) (cdv ct : Value) (us its : List Value), us.length = n → its.length = 1 → ∃ k, bindArgs (PySem.W.fnOf x x (defArgs st) (defBody st) (defScope st) (.ref T) kV doc pm an cdv ct) ⟨us, []⟩ = seqItems? (.ref T) >>= k ∧ k (some its.toArray) = pure (ps.zip (us ++ its.drop j)))
    (len : ∀ vs H Q E, sp vs H Q E → vs.length = ps.length)
    (hbody : ∀ (cdv : Value) (A : Around) (outer : List Env) (s : Shared) (H : Hp) (vs : List V) (Q : VK) (E : XK), Room k (A.deeper (envOfC x (defScope st) s.heap.objs.size f cdv)) → sp vs H Q E →
      ∃ t, PSs (cxOf CX0 P w K mg base N x (defScope st) f cdv A outer s H E).nox (defBody st) t ∧ t ⟨fun _ H' => Q .non H', Q, fun _ _ => False, fun _ _ => False⟩ (start N vs) H) : C8.Cal P w K mg base (k + 1) x sp ([dv].drop j) := by
  obtain ⟨fd, F⟩ := F
  obtain ⟨ds, h1, h2⟩ := F.binds1 (ps := ps) n j (by simp) hn hb
  refine ⟨f, fd, ps, ds, F.ok Sc len fun cdv A outer s H vs Q E hr h => ?_, hm, F.kp, h2, h1⟩
  obtain ⟨t, h1, h2⟩ := hbody cdv A outer s H vs Q E hr h
  exact ⟨t, h1.nox, h2⟩
def sp_define : Sp := fun vs H Q _ => ∃ a b c d : V, vs = [a, b, c, d] ∧ False
abbrev M.N_Assembler_define : List Str := ["self", "name", "line", "value"]
theorem sc_Assembler_define : FnScope M.N_Assembler_define ["self", "name", "line", "value"] (defScope s_Assembler_define) := ⟨rfl, rfl, rfl, by decide +kernel, rfl, by decide +kernel, by decide +kernel⟩
theorem ok_Assembler_define (T : Tx P w K mg) : M.MetX P w K mg base 4 (He.ga K "Assembler") "define" sp_define := by
  refine M.met_mkX T.f_Assembler_define T.c_Assembler T.m_Assembler_define sc_Assembler_define (fun _ _ _ _ _ _ us hl => match us, hl with | [_, _, _, _], _ => rfl) (by rintro vs H Q E ⟨a, b, c, d, rfl, _⟩; rfl) fun cdv Ar outer s0 H vs Q E hr h => ?_
  obtain ⟨a, b, c, d, rfl, h⟩ := h
  refine ⟨_, (pss_cons (ps_if (pt_cmp (pc_din (M.hu hr) (pe_ix ix_tup (pv 1) pe_int (fun _ _ => rfl)) (pe_fld (pv 0) rfl))) (pss_one (M.ps_rz rfl (L2N.takes_of rfl rfl rfl rfl) (XM.pmk_ok T.e_Twice hr (pa_cons (pe_ix ix_tup (pv 1) pe_int (fun _ _ => rfl)) (pa_cons (pe_fld (pv 2) rfl) (pa_cons (pe_ix ix_tup (pv 1) pe_int (fun _ _ => rfl)) pa_nil))) T.g_Twice T.b_str T.b_super (by rfl)))) pss_nil) (pss_one (ps_dput (M.hu hr) (pe_fld (pv 0) rfl) (pe_ix ix_tup (pv 1) pe_int (fun _ _ => rfl)) (pv 3) rfl))), ?_⟩
  walk_at "kk"
  exact h.elim
/-! ## where the lines lie -/
def adF (b : Int) (ds : List LData) (i : Nat) : Int := b + ((ds.take i).map fun d => (lenF (S d.op) d.os : Int)).sum
theorem adF_succ {b : Int} {ds : List LData} {i : Nat} {d : LData} (h : ds[i]? = some d) : adF b ds (i + 1) = adF b ds i + lenF (S d.op) d.os := by
  unfold adF
  rw [List.take_add_one, List.map_append, List.sum_append, h]
  simp
  omega
def adL (b : Int) (ds : List LData) (i : Nat) : List V := (List.range i).map fun j => V.int (adF b ds j)
def sp_lay_out (K : PySem.W.Frag) : Sp := fun vs H Q _ => ∃ (a dx nd wl q : Addr) (b : Int) (ds : List LData), vs = [.ref a, .ref q] ∧ AsAt K H a dx nd wl b ∧ LinesAt K H q ds ∧ ds.length ≤ 50001 ∧ (∀ d ∈ ds, OpWord (S d.op)) ∧ (∀ i, i ≤ ds.length → adF b ds i ≤ 65536) ∧ ∀ r H', H r = none → Same H H' → H' r = some (.lst (adL b ds ds.length)) → Q (.ref r) H'
abbrev M.N_Assembler_lay_out : List Str := ["self", "lines", "address", "addresses", "line", "value"]
theorem sc_Assembler_lay_out : FnScope M.N_Assembler_lay_out ["self", "lines"] (defScope s_Assembler_lay_out) := ⟨rfl, rfl, rfl, by decide +kernel, rfl, by decide +kernel, by decide +kernel⟩
theorem ok_Assembler_lay_out (T : Tx P w K mg) : M.MetX P w K mg base 7 (He.ga K "Assembler") "lay_out" (sp_lay_out K) := by
  refine M.met_mkX T.f_Assembler_lay_out T.c_Assembler T.m_Assembler_lay_out sc_Assembler_lay_out (fun _ _ _ _ _ _ us hl => match us, hl with | [_, _], _ => rfl) (by rintro vs H Q E ⟨a, dx, nd, wl, q, b, ds, rfl, _⟩; rfl) fun cdv Ar outer s0 H vs Q E hr h => ?_
  obtain ⟨a, dx, nd, wl, q, b, ds, rfl, h, hl, dl, how, had, k⟩ := h
  refine ⟨_, (pss_cons (ps_set (i := 2) sc_Assembler_lay_out.nd rfl (Or.inl rfl) (pe_fld (pv 0) rfl)) (pss_cons (ps_set (i := 3) sc_Assembler_lay_out.nd rfl (Or.inl rfl) (pe_lst pa_nil)) (pss_cons (ps_for (L2.passes_of rfl) rfl (pi_list (pv 1)) (pg_name (i := 4) sc_Assembler_lay_out.nd rfl (Or.inl rfl)) (pss_cons (ps_expr (pe_bm PySem.F.plainAttrs_list PySem.F.slot_list_append PySem.F.type_list_append mt_append (pv 3) (pa_cons (pv 2) pa_nil))) (pss_cons (ps_if (pt_cmpR op_notN1 (pe_fld (pv 4) rfl) pe_non (nomark _)) (pss_one (ps_expr (M.pe_mX (ok_Assembler_define T) hr (by decide) (L2N.takes_of rfl rfl rfl rfl) (pv 0) (pa_cons (pe_fld (pv 4) rfl) (pa_cons (pv 4) (pa_cons (pv 2) pa_nil)))))) pss_nil) (pss_cons (ps_if (pt_cmpR op_eq (pe_fld (pv 4) rfl) pe_str (nomark _)) (pss_cons (ps_set (i := 5) sc_Assembler_lay_out.nd rfl (Or.inl rfl) (M.pe_mX (ok_Assembler_within T) hr (by decide) (L2N.takes_of rfl rfl rfl rfl) (pv 0) (pa_cons (pe_ix ix_list (pe_fld (pv 4) rfl) pe_int (fun _ _ => rfl)) (pa_cons (pv 4) (pa_cons (C8.pe_gc (by rfl) T.g_LEAST) (pa_cons (pe_op op_sub (C8.pe_gc (by rfl) T.g_MOST) pe_int) pa_nil)))))) (pss_one (ps_expr (M.pe_mX (ok_Assembler_define T) hr (by decide) (L2N.takes_of rfl rfl rfl rfl) (pv 0) (pa_cons (pe_ix ix_list (pe_fld (pv 4) rfl) pe_int (fun _ _ => rfl)) (pa_cons (pv 4) (pa_cons (pv 5) pa_nil))))))) pss_nil) (pss_cons (ps_aug (i := 2) sc_Assembler_lay_out.nd rfl (Or.inl rfl) (C8.pe_mt (ok_Assembler_length T) hr (by decide) (pv 0) (pa_cons (pv 4) (pa_cons (pv 2) pa_nil))) ip_add) (pss_one (ps_if (pt_cmpR op_gt (pv 2) (C8.pe_gc (by rfl) T.g_MOST) (nomark _)) (pss_one (M.ps_rz rfl (L2N.takes_of rfl rfl rfl rfl) (XM.pmk_ok T.e_TooLarge hr (pa_cons pe_str pa_nil) T.g_TooLarge T.b_str T.b_super (by rfl)))) pss_nil))))))) (pss_one (ps_ret (pv 3)))))), ?_⟩
  refine M.x_st (σ0 := [some _, some _, none, none, none, none]) rfl ?_
  walk_at "kk"
  obtain ⟨ps, g1, g2, g3⟩ := hl.ex
  walk_at "go"
  intro r H1 nr e1 h1
  walk_at "go"
  refine M.x_isForL (SqL.of (e1 _ _ g1)) (fun i σ' H' => ∃ v4 v5 : Option V, σ' = [some (.ref a), some (.ref q), some (.int (adF b ds i)), some (.ref r), v4, v5] ∧ Same H H' ∧ H' r = some (.lst (adL b ds i)))
    ⟨_, _, by rw [show adF b ds 0 = b by unfold adF; simp], e1, h1⟩ (fun i σ' H' hi hP => by obtain ⟨_, _, _, e, _⟩ := hP; exact SqL.of (e _ _ g1)) ?_ ?_
  · rintro i x σ' H' hi ⟨v4, v5, rfl, ex, hr⟩
    rw [List.getElem?_map] at hi
    obtain ⟨p, hp, rfl⟩ := Option.map_eq_some_iff.mp hi
    have il : i < ds.length := by have := (List.getElem?_eq_some_iff.mp hp).1; omega
    have hd : ds[i]? = some ds[i] := List.getElem?_eq_getElem il
    obtain ⟨u, hu⟩ := g3 i p _ hp hd
    have al : (adL b ds i).length = i := by unfold adL; rw [List.length_map, List.length_range]
    walk_at "go"
    refine M.x_append hr (by omega) (fun H2 e2 h2 => ?_)
    have ex2 : Same H H2 := fun b o hb => e2.at1 (fun z => by rw [z, nr] at hb; cases hb) (ex _ _ hb)
    have l2 := hu.same ex2
    have a2 := h.same ex2
    obtain ⟨dxl, ol, _, hln, xs, k1, k2, k3⟩ := l2.ex
    unfold lnF at hln
    have ow := how _ (List.getElem_mem il)
    have ne : S (ds[i]).op ≠ "equ" := fun z => by
      rw [z] at ow
      rcases ow with ow | ow
      · exact absurd ow (by decide)
      · exact absurd ow (by decide)
    have ha := had (i + 1) (by omega)
    have hs := adF_succ (b := b) hd
    walk_at "go"
    refine go_length a2 l2 ow ?_
    walk_at "go"
    rw [← hs]
    walk_at "go"
    refine ⟨_, _, rfl, ex2, ?_⟩
    rw [h2]
    unfold adL
    rw [List.range_succ, List.map_append]
    rfl
  · rintro σ' H' ⟨v4, v5, rfl, ex, hr⟩
    rw [List.length_map, g2] at hr
    walk_at "go"
    exact k r H' nr ex hr
end asm9

end
section
section asm10
open SX
variable {P : Program} {w : World} {K : PySem.W.Frag} {mg : Str → Option Value} {base : Heap}
local macro_rules | `(tactic| walk_at "hp") => `(tactic| exact AsAt.o (by assumption))
/-! ## the words of a line -/
def brsL : List Str := ["beq", "bne", "blt"]
def limL : List (Str × Int × Int) := [("shl", 0, 15), ("shr", 0, 15), ("addi", -8, 7), ("load", 0, 15), ("store", 0, 15), ("call", 0, 15), ("gets", 0, 6), ("puts", 0, 4)]
def numF (op : Str) (x ad : Int) : Int := if op ∈ brsL then (x - ad + 7) % 65536 else x % 16
def NumOk (op : Str) (x ad : Int) : Prop := (op ∈ brsL ∧ (-32768 ≤ x ∧ x ≤ 65535) ∧ (x - ad + 7) % 65536 ≤ 15) ∨ (op ∉ brsL ∧ ∃ lo hi, (op, lo, hi) ∈ limL ∧ lo ≤ x ∧ x ≤ hi)
def sp_anumber (K : PySem.W.Frag) : Sp := fun vs H Q _ => ∃ (a dx nd wl ln : Addr) (b u ad : Int) (x : V) (N N' : Addr → Prop) (neg : Bool) (v : Nat) (op : Str) (os : List Opd), vs = [.ref a, .ref ln, x, .int ad] ∧ AsAt K H a dx nd wl b ∧ LnAt K N' H ln u op os ∧ OpdAt K N H x (.num neg v) ∧ NumOk op (Opd.num neg v).val ad ∧ Q (.int (numF op (Opd.num neg v).val ad)) H
theorem go_anumber {a dx nd wl ln : Addr} {b u ad : Int} {x : V} {N N' : Addr → Prop} {neg : Bool} {v : Nat} {op : Str} {os : List Opd} {H : Hp} {Q : VK} {E : XK} (h : AsAt K H a dx nd wl b) (hl : LnAt K N' H ln u op os) (hx : OpdAt K N H x (.num neg v)) (hn : NumOk op (Opd.num neg v).val ad) (k : Q (.int (numF op (Opd.num neg v).val ad)) H) : sp_anumber K [.ref a, .ref ln, x, .int ad] H Q E := ⟨a, dx, nd, wl, ln, b, u, ad, x, N, N', neg, v, op, os, rfl, h, hl, hx, hn, k⟩
abbrev M.N_Assembler_number : List Str := ["self", "line", "expression", "address", "value", "distance", "least", "most"]
theorem sc_Assembler_number : FnScope M.N_Assembler_number ["self", "line", "expression", "address"] (defScope s_Assembler_number) := ⟨rfl, rfl, rfl, by decide +kernel, rfl, by decide +kernel, by decide +kernel⟩
theorem ok_Assembler_number (T : Tx P w K mg) : M.MetX P w K mg base 6 (He.ga K "Assembler") "number" (sp_anumber K) := by
  refine M.met_mkX T.f_Assembler_number T.c_Assembler T.m_Assembler_number sc_Assembler_number (fun _ _ _ _ _ _ us hl => match us, hl with | [_, _, _, _], _ => rfl) (by rintro vs H Q E ⟨a, dx, nd, wl, ln, b, u, ad, x, N, N', neg, v, op, os, rfl, _⟩; rfl) fun cdv Ar outer s0 H vs Q E hr h => ?_
  obtain ⟨a, dx, nd, wl, ln, b, u, ad, x, N, N', neg, v, op, os, rfl, h, hl, hx, hn, k⟩ := h
  refine ⟨_, (pss_cons (ps_if (pt_cmpR op_in_seq (pe_fld (pv 1) rfl) (C8.pe_gc (by rfl) T.g_BRANCHES_assembling) (by rfl)) (pss_cons (ps_set (i := 4) sc_Assembler_number.nd rfl (Or.inl rfl) (M.pe_mX (ok_Assembler_within T) hr (by decide) (L2N.takes_of rfl rfl rfl rfl) (pv 0) (pa_cons (pv 2) (pa_cons (pv 1) (pa_cons (C8.pe_gc (by rfl) T.g_LEAST) (pa_cons (pe_op op_sub (C8.pe_gc (by rfl) T.g_MOST) pe_int) pa_nil)))))) (pss_cons (ps_set (i := 5) sc_Assembler_number.nd rfl (Or.inl rfl) (C8.pe_c (ok_wrap T) hr (by decide) (by rfl) (pa_cons (pe_op op_add (pe_op op_sub (pv 4) (pv 3)) pe_int) pa_nil))) (pss_cons (ps_if (pt_cmpR op_gt (pv 5) pe_int (nomark _)) (pss_one (M.ps_rz rfl (L2N.takes_of rfl rfl rfl rfl) (XM.pmk_ok T.e_OutOfRange hr (pa_cons (pe_fld (pv 1) rfl) (pa_cons (pe_ix ix_tup (pv 2) pe_int (fun _ _ => rfl)) pa_nil)) T.g_OutOfRange T.b_str T.b_super (by rfl)))) pss_nil) (pss_one (ps_ret (pv 5)))))) pss_nil) (pss_cons (ps_asg (pe_ix ix_kdict (C8.pe_gc (by rfl) T.g_LIMITS) (pe_fld (pv 1) rfl) (fun _ _ => rfl)) (pg_tup rfl (pgs_cons (pg_name (i := 6) sc_Assembler_number.nd rfl (Or.inl rfl)) (pgs_cons (pg_name (i := 7) sc_Assembler_number.nd rfl (Or.inl rfl)) pgs_nil)))) (pss_one (ps_ret (pe_op op_mod (pe_callTy M.call_int (by rfl) T.b_int (by decide +kernel) (pa_cons (M.pe_mX (ok_Assembler_within T) hr (by decide) (L2N.takes_of rfl rfl rfl rfl) (pv 0) (pa_cons (pv 2) (pa_cons (pv 1) (pa_cons (pv 6) (pa_cons (pv 7) pa_nil))))) pa_nil)) (C8.pe_gc (by rfl) T.g_FIELD)))))), ?_⟩
  refine M.x_st (σ0 := [some _, some _, some _, some _, none, none, none, none]) rfl ?_
  walk_at "kk"
  obtain ⟨dxl, ol, _, hln, xs, g1, g2, g3⟩ := hl.ex
  unfold lnF at hln
  unfold numF at k
  walk_at "go"
  rw [show inV (.str op) [.str "beq", .str "bne", .str "blt"] = decide (op ∈ brsL) by rw [show ([.str "beq", .str "bne", .str "blt"] : List V) = brsL.map V.str from rfl, M.inV_strs]]
  rcases hn with ⟨h1, h2, h3⟩ | ⟨h1, lo, hi, h2, h3⟩
  · rw [if_pos h1] at k
    refine M.x_ifTD h1 ?_
    walk_at "go"
    refine go_within h hx ⟨h2.1, h2.2⟩ ?_
    walk_at "go"
    refine go_wrap ?_
    walk_at "go"
    exact k
  · rw [if_neg h1] at k
    refine M.x_ifFD h1 ?_
    obtain ⟨p, kd, sq⟩ := M.lim_kd T.t_LIMITS T.l_LIMITS h2
    walk_at "go"
    refine M.x_kd kd ?_
    have sqH := sq H
    walk_at "go"
    refine go_within h hx h3 ?_
    walk_at "go"
    exact k
def stepF (op : Str) (ad : Int) (i : Nat) (o : Opd) (st : List Int × Int) : List Int × Int := match o with
  | .reg r => (st.1.set i r, st.2)
  | .num _ _ => if op = "set" then (st.1, o.val % 65536) else (st.1.set 2 (numF op o.val ad), st.2)
def insF (op : Str) (ad : Int) (os : List Opd) : Nat → List Int × Int
  | 0 => ([0, 0, 0], 0)
  | i + 1 => match os[i]? with | some o => stepF op ad i o (insF op ad os i) | none => insF op ad os i
theorem insF_len (op : Str) (ad : Int) (os : List Opd) : ∀ i, (insF op ad os i).1.length = 3
  | 0 => rfl
  | i + 1 => by
    show (match os[i]? with | some o => stepF op ad i o (insF op ad os i) | none => insF op ad os i).1.length = 3
    have ih := insF_len op ad os i
    cases os[i]? with
    | none => exact ih
    | some o =>
      show (stepF op ad i o (insF op ad os i)).1.length = 3
      unfold stepF
      cases o with
      | reg r => show (List.set _ _ _).length = 3; rw [List.length_set, ih]
      | num n v =>
        show (if op = "set" then _ else _ : List Int × Int).1.length = 3
        split
        · exact ih
        · show (List.set _ _ _).length = 3; rw [List.length_set, ih]
def fld3 (op : Str) (ad : Int) (os : List Opd) (i : Nat) : Int := (insF op ad os os.length).1.getD i 0
def insW (op : Str) (ad : Int) (os : List Opd) : List Int := encM op (fld3 op ad os 0) (fld3 op ad os 1) (fld3 op ad os 2) :: (if op = "set" then [(insF op ad os os.length).2] else [])
structure InsOk (op : Str) (ad : Int) (os : List Opd) : Prop where
  f : Fits op os
  w : op ≠ "word"
  o : op ∈ opsl
  l : os.length ≤ 3
  n : ∀ (i : Nat) (n : Bool) (v : Nat), os[i]? = some (.num n v) → if op = "set" then -32768 ≤ (Opd.num n v).val ∧ (Opd.num n v).val ≤ 65535 else NumOk op (Opd.num n v).val ad
  e : fitsM op (fld3 op ad os 0) (fld3 op ad os 1) (fld3 op ad os 2) = true
  sz : op.length ≤ 1000
def sp_instruction (K : PySem.W.Frag) : Sp := fun vs H Q _ => ∃ (a dx nd wl ln : Addr) (b u ad : Int) (N : Addr → Prop) (op : Str) (os : List Opd), vs = [.ref a, .ref ln, .int ad] ∧ AsAt K H a dx nd wl b ∧ LnAt K N H ln u op os ∧ InsOk op ad os ∧ ∀ r H', H r = none → Same H H' → H' r = some (.lst ((insW op ad os).map V.int)) → Q (.ref r) H'
theorem go_instruction {a dx nd wl ln : Addr} {b u ad : Int} {N : Addr → Prop} {op : Str} {os : List Opd} {H : Hp} {Q : VK} {E : XK} (h : AsAt K H a dx nd wl b) (hl : LnAt K N H ln u op os) (io : InsOk op ad os) (k : ∀ r H', H r = none → Same H H' → H' r = some (.lst ((insW op ad os).map V.int)) → Q (.ref r) H') : sp_instruction K [.ref a, .ref ln, .int ad] H Q E := ⟨a, dx, nd, wl, ln, b, u, ad, N, op, os, rfl, h, hl, io, k⟩
abbrev M.N_Assembler_instruction : List Str := ["self", "line", "address", "form", "fields", "last", "k"]
theorem sc_Assembler_instruction : FnScope M.N_Assembler_instruction ["self", "line", "address"] (defScope s_Assembler_instruction) := ⟨rfl, rfl, rfl, by decide +kernel, rfl, by decide +kernel, by decide +kernel⟩
theorem ok_Assembler_instruction (T : Tx P w K mg) : C8.Met P w K mg base 7 (He.ga K "Assembler") "instruction" (sp_instruction K) [] := by
  refine M.met_mk T.f_Assembler_instruction T.c_Assembler T.m_Assembler_instruction sc_Assembler_instruction (fun _ _ _ _ _ _ us hl => match us, hl with | [_, _, _], _ => rfl) (by rintro vs H Q E ⟨a, dx, nd, wl, ln, b, u, ad, N, op, os, rfl, _⟩; rfl) fun cdv Ar outer s0 H vs Q E hr h => ?_
  obtain ⟨a, dx, nd, wl, ln, b, u, ad, N, op, os, rfl, h, hl, io, k⟩ := h
  refine ⟨_, (pss_cons (ps_set (i := 3) sc_Assembler_instruction.nd rfl (Or.inl rfl) (pe_ix ix_kdict (C8.pe_gc (by rfl) T.g_FORMS) (pe_fld (pv 1) rfl) (fun _ _ => rfl))) (pss_cons (ps_set (i := 4) sc_Assembler_instruction.nd rfl (Or.inl rfl) (pe_lst (pa_cons pe_int (pa_cons pe_int (pa_cons pe_int pa_nil))))) (pss_cons (ps_set (i := 5) sc_Assembler_instruction.nd rfl (Or.inl rfl) (pe_lst (pa_cons pe_int pa_nil))) (pss_cons (ps_for PassesOwn.never rfl (pi_range1 (by rfl) T.b_range (pa_cons (pe_callB M.call_lenS (by rfl) T.b_len (by decide +kernel) (pa_cons (pv 3) pa_nil)) pa_nil)) (pg_name (i := 6) sc_Assembler_instruction.nd rfl (Or.inl rfl)) (pss_one (ps_if (pt_cmpR op_eq (pe_ix ix_str (pv 3) (pv 6) (fun _ _ => rfl)) pe_str (nomark _)) (pss_one (ps_asg (pe_ix ix_list (pe_fld (pv 1) rfl) (pv 6) (fun _ _ => rfl)) (pg_sub (pv 4) (pv 6) set_list))) (pss_one (ps_if (pt_cmpR op_eq (pe_fld (pv 1) rfl) pe_str (nomark _)) (pss_one (ps_set (i := 5) sc_Assembler_instruction.nd rfl (Or.inl rfl) (pe_lst (pa_cons (C8.pe_c (ok_wrap T) hr (by decide) (by rfl) (pa_cons (M.pe_mX (ok_Assembler_within T) hr (by decide) M.takesN0 (pv 0) (pa_cons (pe_ix ix_list (pe_fld (pv 1) rfl) (pv 6) (fun _ _ => rfl)) (pa_cons (pv 1) (pa_cons (C8.pe_gc (by rfl) T.g_LEAST) (pa_cons (pe_op op_sub (C8.pe_gc (by rfl) T.g_MOST) pe_int) pa_nil))))) pa_nil)) pa_nil)))) (pss_one (ps_asg (M.pe_mX (ok_Assembler_number T) hr (by decide) M.takesN0 (pv 0) (pa_cons (pv 1) (pa_cons (pe_ix ix_list (pe_fld (pv 1) rfl) (pv 6) (fun _ _ => rfl)) (pa_cons (pv 2) pa_nil)))) (pg_sub (pv 4) pe_int set_list)))))))) (pss_one (ps_ret (pe_op op_cat (pe_lst (pa_cons (M.pe_cX (ok_encode T) hr (by decide) (by rfl) M.takesN0 (pa_cons (pe_fld (pv 1) rfl) (pa_cons (pe_ix ix_list (pv 4) pe_int (fun _ _ => rfl)) (pa_cons (pe_ix ix_list (pv 4) pe_int (fun _ _ => rfl)) (pa_cons (pe_ix ix_list (pv 4) pe_int (fun _ _ => rfl)) pa_nil))))) pa_nil)) (pe_slice sl_list (pv 5) po_none (po_some (pe_op op_sub (C8.pe_c (ok_size_of T) hr (by decide) (by rfl) (pa_cons (pe_fld (pv 1) rfl) pa_nil)) pe_int)))))))))), ?_⟩
  refine M.x_st (σ0 := [some _, some _, some _, none, none, none, none]) rfl ?_
  walk_at "kk"
  obtain ⟨dxl, ol, _, hln, xs, g1, g2, g3⟩ := hl.ex
  unfold lnF at hln
  obtain ⟨_, f, hf, fl, ff⟩ := io.f.resolve_left (fun z => io.w z.1)
  have ol3 := io.l
  walk_at "go"
  refine M.x_kd (frm_kd T hf) ?_
  walk_at "go"
  intro fa H1 nfa e1 h1
  walk_at "go"
  intro la H2 nla e2 h2
  have fa2 := e2 _ _ h1
  walk_at "go"
  have fala : fa ≠ la := fun z => by rw [← z, h1] at nla; cases nla
  refine M.x_isForR (n := (f.length : Int)) ⟨by omega, by omega⟩ (fun i σ' H' => ∃ (la' : Addr) (v6 : Option V), σ' = [some (.ref a), some (.ref ln), some (.int ad), some (.str (S f)), some (.ref fa), some (.ref la'), v6] ∧ Same H H' ∧ H' fa = some (.lst ((insF op ad os i).1.map V.int)) ∧ H' la' = some (.lst [.int (insF op ad os i).2]) ∧ fa ≠ la')
    ⟨la, _, rfl, e1.trans e2, fa2, h2, fala⟩ ?_ ?_
  · rintro i σ' H' hi ⟨la', v6, rfl, ex, hfa, hla, fal⟩
    have il : i < os.length := by omega
    have ho : os[i]? = some os[i] := List.getElem?_eq_getElem il
    have hc : f[i]? = some (f[i]'(by omega)) := List.getElem?_eq_getElem _
    have hx : xs[i]? = some (xs[i]'(by omega)) := List.getElem?_eq_getElem _
    have fm := ff i _ _ hc ho
    have od := (g3 i _ _ hx ho).same ex
    have h' := h.same ex
    have hl' := hl.same ex
    have hln' := ex _ _ hln
    have g1' := ex _ _ g1
    have ax : atI xs (i : Int) = some (xs[i]'(by omega)) := M.atI_of (by omega) (by rw [Int.toNat_natCast]; exact hx)
    have hs : insF op ad os (i + 1) = stepF op ad i os[i] (insF op ad os i) := by show (match os[i]? with | some o => _ | none => _) = _; rw [ho]
    have l3 := insF_len op ad os i
    cases hoi : os[i] with
    | reg r =>
      rw [hoi] at fm od hs
      have fm : Str.ofString "r" = S [f[i]'(by omega)] := fm
      have ex' : xs[i]'(by omega) = V.int r := od
      rw [ex'] at ax
      walk_at "go"
      rw [← fm]
      walk_at "go"
      intro H3 e3 h3
      refine ⟨la', _, rfl, fun b o hb => e3.at1 (fun z => by rw [z, nfa] at hb; cases hb) (ex _ _ hb), ?_, ?_, fal⟩
      · rw [h3, hs, Int.toNat_natCast]
        rfl
      · rw [hs]
        exact e3.at1 fal.symm hla
    | num n v =>
      rw [hoi] at fm od hs ho
      have fm : Str.ofString "e" = S [f[i]'(by omega)] := fm
      have nn := io.n i n v ho
      walk_at "go"
      rw [← fm]
      walk_at "go"
      refine M.x_ifD (fun c1 => ?_) (fun c1 => ?_)
      · rw [if_pos c1] at nn
        walk_at "go"
        refine go_within h' od ⟨nn.1, nn.2⟩ ?_
        walk_at "go"
        refine go_wrap ?_
        walk_at "go"
        intro lb H3 nlb e3 h3
        walk_at "go"
        have hst : stepF op ad i (.num n v) (insF op ad os i) = ((insF op ad os i).1, (Opd.num n v).val % 65536) := by show (if op = "set" then _ else _) = _; rw [if_pos c1]
        refine ⟨lb, _, rfl, ex.trans e3, ?_, ?_, fun z => by rw [← z, hfa] at nlb; cases nlb⟩
        · rw [hs, hst]; exact e3 _ _ hfa
        · rw [hs, hst]; exact h3
      · rw [if_neg c1] at nn
        walk_at "go"
        refine go_anumber h' hl' od nn ?_
        walk_at "go"
        intro H3 e3 h3
        have hst : stepF op ad i (.num n v) (insF op ad os i) = ((insF op ad os i).1.set 2 (numF op (Opd.num n v).val ad), (insF op ad os i).2) := by show (if op = "set" then _ else _) = _; rw [if_neg c1]
        refine ⟨la', _, rfl, fun b o hb => e3.at1 (fun z => by rw [z, nfa] at hb; cases hb) (ex _ _ hb), ?_, ?_, fal⟩
        · rw [h3, hs, hst]; rfl
        · rw [hs, hst]; exact e3.at1 fal.symm hla
  rintro σ' H' ⟨la', v6, rfl, ex, hfa, hla, fal⟩
  rw [Int.toNat_natCast, fl] at hfa hla
  have l3 := insF_len op ad os os.length
  have ixs : ∀ j : Nat, j < 3 → atI ((insF op ad os os.length).1.map V.int) (j : Int) = some (.int (fld3 op ad os j)) := fun j hj => M.atI_of (v := V.int _) (by omega) (by
    rw [Int.toNat_natCast, List.getElem?_map, List.getElem?_eq_getElem (by omega)]
    unfold fld3
    rw [List.getD_eq_getElem?_getD, List.getElem?_eq_getElem (by omega)]
    rfl)
  have i0 := ixs 0 (by omega)
  have i1 := ixs 1 (by omega)
  have i2 := ixs 2 (by omega)
  have hln' := ex _ _ hln
  obtain ⟨b1, b2, b3⟩ := fits_bounds io.e
  walk_at "go"
  refine ⟨op, fld3 op ad os 0, fld3 op ad os 1, fld3 op ad os 2, rfl, io.sz, by omega, by omega, by omega, fun _ => ?_, fun z => absurd ⟨io.o, io.e⟩ z⟩
  walk_at "go"
  intro lc H3 nlc e3 h3
  have hln3 := e3 _ _ hln'
  have hla3 := e3 _ _ hla
  walk_at "go"
  refine go_size_of ?_
  by_cases hset : op = "set"
  · rw [if_pos hset]
    walk_at "go"
    intro ld H4 nld e4 h4
    have h34 := e4 _ _ h3
    have h4 : H4 ld = some (.lst [.int (insF op ad os os.length).2]) := h4
    walk_at "go"
    intro r H5 nr e5 h5
    have e05 := ((ex.trans e3).trans e4).trans e5
    refine k r H5 (((ex.trans e3).trans e4).free nr) e05 ?_
    rw [h5]
    unfold insW
    rw [if_pos hset]
    rfl
  · rw [if_neg hset]
    walk_at "go"
    intro ld H4 nld e4 h4
    have h34 := e4 _ _ h3
    have h4 : H4 ld = some (.lst []) := h4
    walk_at "go"
    intro r H5 nr e5 h5
    have e05 := ((ex.trans e3).trans e4).trans e5
    refine k r H5 (((ex.trans e3).trans e4).free nr) e05 ?_
    rw [h5]
    unfold insW
    rw [if_neg hset]
    rfl
end asm10

end
section
section asm11
open SX
variable {P : Program} {w : World} {K : PySem.W.Frag} {mg : Str → Option Value} {base : Heap}
local macro_rules | `(tactic| walk_at "hp") => `(tactic| exact AsAt.o (by assumption))
/-- the words of a line -/
def lwF (op : Str) (ad : Int) (os : List Opd) : List Int := if op = "word" then os.map fun o => o.val % 65536 else insW op ad os
def LwOk (op : Str) (ad : Int) (os : List Opd) : Prop := InsOk op ad os ∨ (op = "word" ∧ ∃ n v, os = [.num n v] ∧ -32768 ≤ (Opd.num n v).val ∧ (Opd.num n v).val ≤ 65535)
theorem LwOk.op {op : Str} {ad : Int} {os : List Opd} (h : LwOk op ad os) : OpWord op := by
  rcases h with h | ⟨h, _⟩
  · exact .inl h.o
  · exact .inr h
theorem LwOk.len {op : Str} {ad : Int} {os : List Opd} (h : LwOk op ad os) : (lwF op ad os).length = lenF op os ∧ lenF op os ≤ 3 := by
  unfold lwF lenF
  rcases h with h | ⟨rfl, n, v, rfl, _⟩
  · rw [if_neg h.w, if_neg h.w]
    unfold insW
    by_cases c : op = "set"
    · rw [if_pos c, if_pos c]; exact ⟨rfl, by decide⟩
    · rw [if_neg c, if_neg c]; exact ⟨rfl, by decide⟩
  · rw [if_pos rfl, if_pos rfl]
    exact ⟨rfl, by show 1 ≤ 3; decide⟩
theorem lc_L' {σ : L2.St} {H : Hp} {Q : VK} {g : TG} {te : TE} {vs : List Nat} {x : V} (h : M.isLcL K g tYes te vs σ Q x H) : M.isLc K g te vs σ x H Q := h
theorem x_extL {H : Hp} {Q : VK} {p q : Addr} {xs ys : List V} (h1 : H p = some (.lst xs)) (h2 : H q = some (.lst ys)) (hl : xs.length + ys.length ≤ 50000) (k : ∀ H2, M.Ext [p] H H2 → H2 p = some (.lst (xs ++ ys)) → Q .non H2) : rExtend (.ref p) [.ref q] H Q := ⟨p, q, xs, ys, rfl, rfl, h1, h2, by have := sizeLine_eq; omega, k _ M.ext_upd upd_same⟩
def sp_line_words (K : PySem.W.Frag) : Sp := fun vs H Q _ => ∃ (a dx nd wl ln : Addr) (b u ad : Int) (N : Addr → Prop) (op : Str) (os : List Opd), vs = [.ref a, .ref ln, .int ad] ∧ AsAt K H a dx nd wl b ∧ LnAt K N H ln u op os ∧ LwOk op ad os ∧ ∀ r H', H r = none → Same H H' → H' r = some (.lst ((lwF op ad os).map V.int)) → Q (.ref r) H'
theorem go_line_words {a dx nd wl ln : Addr} {b u ad : Int} {N : Addr → Prop} {op : Str} {os : List Opd} {H : Hp} {Q : VK} {E : XK} (h : AsAt K H a dx nd wl b) (hl : LnAt K N H ln u op os) (io : LwOk op ad os) (k : ∀ r H', H r = none → Same H H' → H' r = some (.lst ((lwF op ad os).map V.int)) → Q (.ref r) H') : sp_line_words K [.ref a, .ref ln, .int ad] H Q E := ⟨a, dx, nd, wl, ln, b, u, ad, N, op, os, rfl, h, hl, io, k⟩
abbrev M.N_Assembler_line_words : List Str := ["self", "line", "address", "one"]
theorem sc_Assembler_line_words : FnScope M.N_Assembler_line_words ["self", "line", "address"] (defScope s_Assembler_line_words) := ⟨rfl, rfl, rfl, by decide +kernel, rfl, by decide +kernel, by decide +kernel⟩
theorem ok_Assembler_line_words (T : Tx P w K mg) : C8.Met P w K mg base 8 (He.ga K "Assembler") "line_words" (sp_line_words K) [] := by
  refine M.met_mk T.f_Assembler_line_words T.c_Assembler T.m_Assembler_line_words sc_Assembler_line_words (fun _ _ _ _ _ _ us hl => match us, hl with | [_, _, _], _ => rfl) (by rintro vs H Q E ⟨a, dx, nd, wl, ln, b, u, ad, N, op, os, rfl, _⟩; rfl) fun cdv Ar outer s0 H vs Q E hr h => ?_
  obtain ⟨a, dx, nd, wl, ln, b, u, ad, N, op, os, rfl, h, hl, io, k⟩ := h
  refine ⟨_, (pss_cons (ps_if (pt_val (C8.pe_c (ok_is_instruction T) hr (by decide) (by rfl) (pa_cons (pe_fld (pv 1) rfl) pa_nil))) (pss_one (ps_ret (C8.pe_mt (ok_Assembler_instruction T) hr (by decide) (pv 0) (pa_cons (pv 1) (pa_cons (pv 2) pa_nil))))) pss_nil) (pss_cons (ps_if (pt_cmpR op_eq (pe_fld (pv 1) rfl) pe_str (nomark _)) (pss_one (ps_ret (pe_lc (own := [("one", 3)]) rfl sc_Assembler_line_words.nd (pi_list (pe_fld (pv 1) rfl)) (blkOk_by (own := [("one", 3)]) (N := M.N_Assembler_line_words) (sc := defScope s_Assembler_line_words) (by decide +kernel)) (fun _ _ _ _ _ => (pg_name (i := 3) sc_Assembler_line_words.nd rfl (Or.inl rfl))) (fun _ _ _ _ _ => pts_nil) (fun _ _ _ _ _ => (C8.pe_c (ok_wrap T) hr (by decide) (by rfl) (pa_cons (M.pe_mX (ok_Assembler_within T) hr (by decide) M.takesN0 (pv 0) (pa_cons (pv 3) (pa_cons (pv 1) (pa_cons (C8.pe_gc (by rfl) T.g_LEAST) (pa_cons (pe_op op_sub (C8.pe_gc (by rfl) T.g_MOST) pe_int) pa_nil))))) pa_nil)))))) pss_nil) (pss_one (ps_ret (pe_op op_rep (pe_lst (pa_cons pe_int pa_nil)) (C8.pe_mt (ok_Assembler_length T) hr (by decide) (pv 0) (pa_cons (pv 1) (pa_cons (pv 2) pa_nil)))))))), ?_⟩
  refine M.x_st (σ0 := [some _, some _, some _, none]) rfl ?_
  walk_at "kk"
  obtain ⟨dxl, ol, _, hln, xs, g1, g2, g3⟩ := hl.ex
  unfold lnF at hln
  unfold lwF at k
  walk_at "go"
  refine go_is_instruction ?_
  walk_at "go"
  rcases io with io | ⟨rfl, n, v, rfl, hv⟩
  · refine M.x_ifTD io.o ?_
    rw [if_neg io.w] at k
    walk_at "go"
    exact go_instruction h hl io k
  · refine M.x_ifFD (by decide) ?_
    rw [if_pos rfl] at k
    walk_at "go"
    refine lc_L' (M.x_isLcL (fun D i acc H' => H D = none ∧ Same H H' ∧ acc = (([Opd.num n v].take i).map fun o => V.int (o.val % 65536))) (SqL.of g1) (by rw [g2]; show 1 ≤ 100000; decide) (fun D H' hD e h => ⟨hD, e, rfl⟩) (fun D i acc H' hD hi hq hp => SqL.of (hp.2.1 _ _ g1)) ?_ ?_)
    · rintro D i x acc H' hD hx hll hq ⟨_, e, rfl⟩
      have i0 : i = 0 := by have := (List.getElem?_eq_some_iff.mp hx).1; rw [g2] at this; simp at this; exact this
      subst i0
      have od := (g3 0 _ _ hx rfl).same e
      unfold M.LcTurn
      walk_at "go"
      refine ⟨rfl, ?_⟩
      walk_at "go"
      refine go_within (h.same e) od ⟨hv.1, hv.2⟩ ?_
      walk_at "go"
      refine go_wrap ?_
      exact M.x_lcPut hq hll (by omega) (fun Ha ea ha => ⟨hD, fun b o hb => ea.at1 (fun z => by rw [z, hD] at hb; cases hb) (e _ _ hb), rfl⟩)
    rintro D acc Ha hD hll hq ⟨_, ea, rfl⟩
    rw [g2] at hq
    walk_at "go"
    exact k D Ha hD ea hq
def sp_Assembly_init (K : PySem.W.Frag) : Sp := fun vs H Q _ => ∃ (m dx q d : Addr) (ws : List Int), vs = [.ref m, .ref q, .ref d] ∧ H m = some (.ins (He.ga K "Assembly") dx []) ∧ H q = some (.lst (ws.map V.int)) ∧ H d = some (.dK []) ∧ ∀ q2 d2 H', M.Ext [m] H H' → H' m = some (.ins (He.ga K "Assembly") dx [("words", .ref q2), ("names", .ref d2)]) → H' q2 = some (.lst (ws.map V.int)) → H' d2 = some (.dK []) → Q .non H'
abbrev M.N_Assembly___init__ : List Str := ["self", "words", "names"]
theorem sc_Assembly___init__ : FnScope M.N_Assembly___init__ ["self", "words", "names"] (defScope s_Assembly___init__) := ⟨rfl, rfl, rfl, by decide +kernel, rfl, by decide +kernel, by decide +kernel⟩
theorem ok_Assembly___init__ (T : Tx P w K mg) : C8.Mak P w K mg base 1 "Assembly" (He.ga K "Assembly") (sp_Assembly_init K) [] := by
  refine M.mak_mk T.f_Assembly___init__ T.k_Assembly T.g_Assembly sc_Assembly___init__ (fun _ _ _ _ _ _ us hl => match us, hl with | [_, _, _], _ => rfl) (by rintro vs H Q E ⟨m, dx, q, d, ws, rfl, _⟩; rfl) fun cdv Ar outer s0 H vs Q E hr h => ?_
  obtain ⟨m, dx, q, d, ws, rfl, hm, hq, hd, k⟩ := h
  refine ⟨_, (pss_cons (ps_fld (pv 0) (pe_callTy M.call_list (by rfl) T.b_list (by decide +kernel) (pa_cons (pv 1) pa_nil)) rfl) (pss_one (ps_fld (pv 0) (pe_callTy M.call_dictC (by rfl) T.b_dict (by decide +kernel) (pa_cons (pv 2) pa_nil)) rfl))), ?_⟩
  refine M.x_st (σ0 := [some _, some _, some _]) rfl ?_
  walk_at "kk"
  walk_at "go"
  intro q2 H1 nq e1 h1
  have hm1 := e1 _ _ hm
  walk_at "go"
  refine M.x_isSF hm1 T.c_Assembly T.n_Assembly_words (by decide) rfl (fun H2 e2 h2 => ?_)
  have dm : d ≠ m := fun z => by rw [z, hm] at hd; cases hd
  have q2m : q2 ≠ m := fun z => by rw [z, hm] at nq; cases nq
  have hd2 := e2.at1 dm (e1 _ _ hd)
  have hq2 := e2.at1 q2m h1
  walk_at "go"
  refine M.x_dictC hd2 (fun d2 H3 nd e3 h3 => ?_)
  have hm3 := e3 _ _ h2
  walk_at "go"
  refine M.x_isSF hm3 T.c_Assembly T.n_Assembly_names (by show 1 < 1000; decide) rfl (fun H4 e4 h4 => ?_)
  have d2m : d2 ≠ m := fun z => by rw [z, h2] at nd; cases nd
  walk_at "go"
  exact k q2 d2 H4 (fun b o hb h => e4 b o hb (e3 _ _ (e2 b o hb (e1 _ _ h)))) h4 (e4.at1 q2m (e3 _ _ hq2)) (e4.at1 d2m h3)
structure AyAt (K : PySem.W.Frag) (H : Hp) (r : Addr) (ws : List Int) : Prop where
  ex : ∃ dx q d, H r = some (.ins (He.ga K "Assembly") dx [("words", .ref q), ("names", .ref d)]) ∧ H q = some (.lst (ws.map V.int)) ∧ H d = some (.dK [])
def allW (b : Int) (ds : List LData) (i : Nat) : List Int := (List.range i).flatMap fun j => match ds[j]? with | some d => lwF (S d.op) (adF b ds j) d.os | none => []
theorem allW_succ {b : Int} {ds : List LData} {i : Nat} {d : LData} (h : ds[i]? = some d) : allW b ds (i + 1) = allW b ds i ++ lwF (S d.op) (adF b ds i) d.os := by
  unfold allW
  rw [List.range_succ, List.flatMap_append, List.flatMap_singleton, h]
structure TextOk (b : Int) (ds : List LData) : Prop where
  ne : ds ≠ []
  l : (TL.joinL [10] (ds.map LData.tx)).length ≤ 50000
  d : ∀ d ∈ ds, LOk d ∧ 10 ∉ d.tx
  w : ∀ (i : Nat) d, ds[i]? = some d → LwOk (S d.op) (adF b ds i) d.os
  a : ∀ i, i ≤ ds.length → adF b ds i ≤ 65536
  n : ds.length ≤ 1000
theorem allW_len {b : Int} {ds : List LData} (h : TextOk b ds) : ∀ i, i ≤ ds.length → (allW b ds i).length ≤ 3 * i
  | 0, _ => by simp [allW]
  | i + 1, hi => by
    have hd : ds[i]? = some ds[i] := List.getElem?_eq_getElem (by omega)
    have := allW_len h i (by omega)
    have l := (h.w i _ hd).len
    rw [allW_succ hd, List.length_append]
    omega
def sp_assemble (K : PySem.W.Frag) : Sp := fun vs H Q _ => ∃ (ds : List LData) (b : Int), vs = [.str (S (TL.joinL [10] (ds.map LData.tx))), .int b] ∧ TextOk b ds ∧ ∀ r H', H r = none → Same H H' → AyAt K H' r (allW b ds ds.length) → Q (.ref r) H'
theorem go_assemble {ds : List LData} {b : Int} {H : Hp} {Q : VK} {E : XK} (t : TextOk b ds) (k : ∀ r H', H r = none → Same H H' → AyAt K H' r (allW b ds ds.length) → Q (.ref r) H') : sp_assemble K [.str (S (TL.joinL [10] (ds.map LData.tx))), .int b] H Q E := ⟨ds, b, rfl, t, k⟩
abbrev M.N_assemble : List Str := ["text", "base", "lines", "assembler", "addresses", "words", "k"]
theorem sc_assemble : FnScope M.N_assemble ["text", "base"] (defScope s_assemble) := ⟨rfl, rfl, rfl, by decide +kernel, rfl, by decide +kernel, by decide +kernel⟩
theorem ok_assemble (T : Tx P w K mg) : C8.Cal P w K mg base 12 "assemble" (sp_assemble K) [] := by
  refine cal_mkD 2 1 rfl T.f_assemble T.g_assemble sc_assemble (fun _ _ _ _ _ _ _ us its hl hi => match us, hl, its, hi with | [_, _], _, [_], _ => ⟨_, rfl, rfl⟩) (by rintro vs H Q E ⟨ds, b, rfl, _⟩; rfl) fun cdv A outer s H vs Q E hr h => ?_
  obtain ⟨ds, b, rfl, t, k⟩ := h
  refine ⟨_, (pss_cons (ps_set (i := 2) sc_assemble.nd rfl (Or.inl rfl) (C8.pe_c (ok_read_lines T) hr (by decide) (by rfl) (pa_cons (pv 0) pa_nil))) (pss_cons (ps_set (i := 3) sc_assemble.nd rfl (Or.inl rfl) (C8.pe_mk (ok_Assembler___init__ T) hr (by decide) (by rfl) (pa_cons (pv 1) pa_nil))) (pss_cons (ps_set (i := 4) sc_assemble.nd rfl (Or.inl rfl) (M.pe_mX (ok_Assembler_lay_out T) hr (by decide) M.takesN0 (pv 3) (pa_cons (pv 2) pa_nil))) (pss_cons (ps_set (i := 5) sc_assemble.nd rfl (Or.inl rfl) (pe_lst pa_nil)) (pss_cons (ps_for PassesOwn.never rfl (pi_range1 (by rfl) T.b_range (pa_cons (pe_callB M.call_len (by rfl) T.b_len (by decide +kernel) (pa_cons (pv 2) pa_nil)) pa_nil)) (pg_name (i := 6) sc_assemble.nd rfl (Or.inl rfl)) (pss_one (ps_expr (pe_bm PySem.F.plainAttrs_list PySem.F.slot_list_extend PySem.F.type_list_extend mt_extend (pv 5) (pa_cons (C8.pe_mt (ok_Assembler_line_words T) hr (by decide) (pv 3) (pa_cons (pe_ix ix_list (pv 2) (pv 6) (fun _ _ => rfl)) (pa_cons (pe_ix ix_list (pv 4) (pv 6) (fun _ _ => rfl)) pa_nil))) pa_nil))))) (pss_one (ps_ret (C8.pe_mk (ok_Assembly___init__ T) hr (by decide) (by rfl) (pa_cons (pv 5) (pa_cons (pe_fld (pv 3) rfl) pa_nil)))))))))), ?_⟩
  refine M.x_st (σ0 := [some _, some _, none, none, none, none, none]) rfl ?_
  walk_at "kk"
  have tn := t.n
  walk_at "go"
  refine ⟨ds, rfl, t.ne, t.l, t.d, fun q H1 nq e1 l1 => ?_⟩
  walk_at "go"
  refine M.x_isNew (fun a dx H2 na e2 h2 => ⟨a, dx, b, rfl, h2, fun nd wl H3 e3 a3 => ⟨rfl, ?_⟩⟩)
  have e23 : Same H1 H3 := fun c o hb => e3.at1 (fun z => by rw [z, na] at hb; cases hb) (e2 _ _ hb)
  have l3 := l1.same e23
  walk_at "go"
  refine ⟨a, dx, nd, wl, q, b, ds, rfl, a3, l3, by omega, fun d hd => ?_, t.a, fun r H4 nr e4 h4 => ?_⟩
  · obtain ⟨i, hi, rfl⟩ := List.getElem_of_mem hd
    exact (t.w i _ (List.getElem?_eq_getElem hi)).op
  have l4 := l3.same e4
  have a4 := a3.same e4
  walk_at "go"
  intro wd H5 nw e5 h5
  have l5 := l4.same e5
  have a5 := a4.same e5
  have h45 := e5 _ _ h4
  obtain ⟨ps, g1, g2, g3⟩ := l5.ex
  walk_at "go"
  rw [List.length_map, g2]
  refine M.x_isForR (n := (ds.length : Int)) ⟨by omega, by omega⟩ (fun i σ' H' => ∃ v6 : Option V, σ' = [some (.str (S (TL.joinL [10] (ds.map LData.tx)))), some (.int b), some (.ref q), some (.ref a), some (.ref r), some (.ref wd), v6] ∧ (∀ c o, c ≠ wd → H5 c = some o → H' c = some o) ∧ Same H4 H' ∧ H' wd = some (.lst ((allW b ds i).map V.int)))
    ⟨_, rfl, fun c o _ h => h, e5, h5⟩ ?_ ?_
  · rintro i σ' H' hi ⟨v6, rfl, ec, e4', hwd⟩
    have il : i < ds.length := by omega
    have hd : ds[i]? = some ds[i] := List.getElem?_eq_getElem il
    have hp : ps[i]? = some (ps[i]'(by omega)) := List.getElem?_eq_getElem _
    obtain ⟨ps4, k1, k2, k3⟩ := l4.ex
    have pe : ps4 = ps := by
      have := e5 _ _ k1
      rw [g1] at this
      injection this with this
      injection this with this
      exact List.map_inj_right (f := V.ref) (fun x y h => by injection h) |>.mp this.symm
    subst pe
    obtain ⟨u, hu⟩ := k3 i _ _ hp hd
    have hu' := hu.same e4'
    have k1' := e4' _ _ k1
    have h4' := e4' _ _ h4
    have a' := a4.same e4'
    have ap : atI (ps4.map V.ref) (i : Int) = some (.ref (ps4[i]'(by omega))) := M.atI_get (f := V.ref) (by omega) (by rw [Int.toNat_natCast]; exact hp)
    have aa : atI (adL b ds ds.length) (i : Int) = some (.int (adF b ds i)) := M.atI_of (v := V.int _) (by omega) (by rw [Int.toNat_natCast]; unfold adL; rw [List.getElem?_map, List.getElem?_range il]; rfl)
    walk_at "go"
    refine go_line_words a' hu' (t.w i _ hd) (fun lw H6 nlw e6 h6 => ?_)
    have hwd6 := e6 _ _ hwd
    have wl1 := allW_len t i (by omega)
    have wl2 := (t.w i _ hd).len
    walk_at "go"
    refine x_extL hwd6 h6 (by rw [List.length_map, List.length_map]; omega) (fun H7 e7 h7 => ?_)
    have nwd4 : H4 wd = none := nw
    refine ⟨_, rfl, fun c o hc hb => e7.at1 hc (e6 _ _ (ec c o hc hb)), fun c o hb => e7.at1 (fun z => by rw [z, nwd4] at hb; cases hb) (e6 _ _ (e4' _ _ hb)), ?_⟩
    rw [h7, allW_succ hd, List.map_append]
  rintro σ' H' ⟨v6, rfl, ec, e4', hwd⟩
  rw [Int.toNat_natCast] at hwd
  have a' := a4.same e4'
  have an := a'.n
  walk_at "go"
  refine M.x_isNew (fun m dxm H7 hm e7 h7 => ⟨m, dxm, wd, nd, _, rfl, h7, e7 _ _ hwd, e7 _ _ an, fun q2 d2 H8 e8 g8 w8 n8 => ⟨rfl, ?_⟩⟩)
  have e14 : Same H H4 := e1.trans (e23.trans e4)
  have e17 : Same H H7 := e14.trans (e4'.trans e7)
  have nm : H m = none := (e14.trans e4').free hm
  exact k m H8 nm (fun c o hb => e8.at1 (fun z => by rw [z, nm] at hb; cases hb) (e17 _ _ hb)) ⟨dxm, q2, d2, g8, w8, n8⟩
end asm11

end
section
section asm12
open SX
variable {P : Program} {w : World} {K : PySem.W.Frag} {mg : Str → Option Value} {base : Heap}
/-! ## listings -/
def numS (n : Int) : List Nat := if 0 ≤ n then TL.numL n.toNat else 45 :: TL.numL (-n).toNat
theorem x_strZ {n : Int} {H : Hp} {Q : VK} (h : -1000000000 < n ∧ n < 1000000000) (k : Q (.str (S (numS n))) H) : M.rStrI [.int n] H Q := by
  unfold numS at k
  by_cases c : 0 ≤ n
  · obtain ⟨m, rfl⟩ := Int.eq_ofNat_of_zero_le c
    rw [if_pos c, Int.toNat_natCast] at k
    exact M.x_strN (by omega) k
  · obtain ⟨m, rfl⟩ : ∃ m : Nat, n = -((m + 1 : Nat) : Int) := ⟨(-n).toNat - 1, by omega⟩
    rw [if_neg c, Int.neg_neg, Int.toNat_natCast] at k
    refine ⟨_, rfl, ?_, ?_⟩
    · rw [Int.natAbs_neg, Int.natAbs_natCast]
      have := (Nat.log2_lt (by omega : m + 1 ≠ 0)).mpr (show m + 1 < 2 ^ 60 by omega)
      omega
    · rw [M.strNeg]; exact k
def fieldT (op : Str) (c ad : Int) : Int := if op ∈ brsL then (ad + c - 7) % 65536 else if op = "addi" ∧ c > 7 then c - 16 else c
def sp_field_text : Sp := fun vs H Q _ => ∃ (op : Str) (c ad : Int), vs = [.str op, .int c, .int ad] ∧ (0 ≤ c ∧ c < 16) ∧ Q (.str (S (numS (fieldT op c ad)))) H
theorem go_field_text {op : Str} {c ad : Int} {H : Hp} {Q : VK} {E : XK} (hc : 0 ≤ c ∧ c < 16) (k : Q (.str (S (numS (fieldT op c ad)))) H) : sp_field_text [.str op, .int c, .int ad] H Q E := ⟨op, c, ad, rfl, hc, k⟩
abbrev M.N_field_text : List Str := ["op", "c", "address"]
theorem sc_field_text : FnScope M.N_field_text ["op", "c", "address"] (defScope s_field_text) := ⟨rfl, rfl, rfl, by decide +kernel, rfl, by decide +kernel, by decide +kernel⟩
theorem ok_field_text (T : Tx P w K mg) : C8.Cal P w K mg base 2 "field_text" sp_field_text [] := by
  refine M.cal_mk T.f_field_text T.g_field_text sc_field_text (fun _ _ _ _ _ _ us hl => match us, hl with | [_, _, _], _ => rfl) (by rintro vs H Q E ⟨op, c, ad, rfl, _⟩; rfl) fun cdv A outer s0 H vs Q E hr h => ?_
  obtain ⟨op, c, ad, rfl, hc, k⟩ := h
  refine ⟨_, (pss_cons (ps_if (pt_cmpR op_in_seq (pv 0) (C8.pe_gc (by rfl) T.g_BRANCHES_listing) (by rfl)) (pss_one (ps_ret (pe_callTy M.call_strI (by rfl) T.b_str (by decide +kernel) (pa_cons (C8.pe_c (ok_wrap T) hr (by decide) (by rfl) (pa_cons (pe_op op_sub (pe_op op_add (pv 2) (pv 1)) pe_int) pa_nil)) pa_nil)))) pss_nil) (pss_one (ps_ret (pe_ifExp (PW.pt (pw_and (pt_cmpR op_eq (pv 0) pe_str (nomark _)) (pw_and1 (pt_cmpR op_gt (pv 1) pe_int (nomark _))))) (pe_callTy M.call_strI (by rfl) T.b_str (by decide +kernel) (pa_cons (pe_op op_sub (pv 1) pe_int) pa_nil)) (pe_callTy M.call_strI (by rfl) T.b_str (by decide +kernel) (pa_cons (pv 1) pa_nil)))))), ?_⟩
  refine M.x_st (σ0 := [some _, some _, some _]) rfl ?_
  walk_at "kk"
  unfold fieldT at k
  walk_at "go"
  rw [show inV (.str op) [.str "beq", .str "bne", .str "blt"] = decide (op ∈ brsL) by rw [show ([.str "beq", .str "bne", .str "blt"] : List V) = brsL.map V.str from rfl, M.inV_strs]]
  refine M.x_ifD (fun h1 => ?_) (fun h1 => ?_)
  · rw [if_pos h1] at k
    walk_at "go"
    refine go_wrap ?_
    walk_at "go"
    exact x_strZ (by omega) k
  · rw [if_neg h1] at k
    walk_at "go"
    refine M.x_ifD (fun h2 => ?_) (fun h2 => ?_)
    · walk_at "go"
      refine M.x_ifD (fun h3 => ?_) (fun h3 => ?_)
      · rw [if_pos ⟨h2, h3⟩] at k
        walk_at "go"
        exact x_strZ (by omega) k
      · rw [if_neg (fun z => h3 z.2)] at k
        walk_at "go"
        exact x_strZ (by omega) k
    · rw [if_neg (fun z => h2 z.1)] at k
      walk_at "go"
      exact x_strZ (by omega) k
def opdS : Opd → List Nat
  | .reg r => regS r
  | .num neg v => (if neg then [45] else []) ++ TL.numL v
def numO (n : Int) : Opd := if 0 ≤ n then .num false n.toNat else .num true (-n).toNat
theorem numO_S (n : Int) : opdS (numO n) = numS n := by
  unfold numO numS
  split <;> rfl
def opdF (op : Str) (f : List Nat) (a b c sec ad : Int) (k : Nat) : Opd := if f[k]? = some 114 then .reg (([a, b, c] : List Int).getD k 0).toNat else if op = "set" then numO sec else numO (fieldT op c ad)
def opdsF (op : Str) (f : List Nat) (a b c sec ad : Int) : List Opd := (List.range f.length).map (opdF op f a b c sec ad)
def txtF (op : List Nat) (os : List Opd) : List Nat := op ++ ((if os = [] then [] else [32]) ++ TL.joinL [44, 32] (os.map opdS))
theorem opdS_len {o : Opd} (h : o.ok) : (opdS o).length ≤ 6 := by
  cases o with
  | reg r => show 2 ≤ 6; decide
  | num n v =>
    have := numL_le (show v ≤ 65535 from h)
    show ((if n then [45] else []) ++ TL.numL v).length ≤ 6
    rw [List.length_append]
    cases n
    · show 0 + _ ≤ 6; omega
    · show 1 + _ ≤ 6; omega
def sp_instruction_text (K : PySem.W.Frag) : Sp := fun vs H Q _ => ∃ (p : Addr) (op f : List Nat) (a b c ad sec : Int), vs = [.ref p, .int ad, .int sec] ∧ SqT K H p [.str (S op), .int a, .int b, .int c] ∧ (S op, S f) ∈ frmL ∧ f.length ≤ 3 ∧ op.length ≤ 10 ∧ ((0 ≤ a ∧ a < 8) ∧ (0 ≤ b ∧ b < 8) ∧ (0 ≤ c ∧ c < 16)) ∧ (f[2]? = some 114 → c < 8) ∧ (0 ≤ sec ∧ sec < 65536) ∧ ∀ H', Same H H' → Q (.str (S (txtF op (opdsF (S op) f a b c sec ad)))) H'
theorem go_instruction_text {p : Addr} {op f : List Nat} {a b c ad sec : Int} {H : Hp} {Q : VK} {E : XK} (hp : SqT K H p [.str (S op), .int a, .int b, .int c]) (hf : (S op, S f) ∈ frmL) (fl : f.length ≤ 3) (ol : op.length ≤ 10) (hb : (0 ≤ a ∧ a < 8) ∧ (0 ≤ b ∧ b < 8) ∧ (0 ≤ c ∧ c < 16)) (hc : f[2]? = some 114 → c < 8) (hs : 0 ≤ sec ∧ sec < 65536) (k : ∀ H', Same H H' → Q (.str (S (txtF op (opdsF (S op) f a b c sec ad)))) H') : sp_instruction_text K [.ref p, .int ad, .int sec] H Q E := ⟨p, op, f, a, b, c, ad, sec, rfl, hp, hf, fl, ol, hb, hc, hs, k⟩
theorem fieldT_b {op : Str} {c ad : Int} (hc : 0 ≤ c ∧ c < 16) : -16 ≤ fieldT op c ad ∧ fieldT op c ad ≤ 65535 := by
  unfold fieldT
  split
  · omega
  · split <;> omega
theorem numO_ok {n : Int} (h : -16 ≤ n ∧ n ≤ 65535) : (numO n).ok := by
  unfold numO
  split
  · show n.toNat ≤ 65535; omega
  · show (-n).toNat ≤ 65535; omega
theorem opdF_ok {op : Str} {f : List Nat} {a b c sec ad : Int} (hb : (0 ≤ a ∧ a < 8) ∧ (0 ≤ b ∧ b < 8) ∧ (0 ≤ c ∧ c < 16)) (hc : f[2]? = some 114 → c < 8) (hs : 0 ≤ sec ∧ sec < 65536) {k : Nat} (hk : k < 3) : (opdF op f a b c sec ad k).ok := by
  unfold opdF
  split
  · rename_i h
    match k, hk with
    | 0, _ => show a.toNat < 8; omega
    | 1, _ => show b.toNat < 8; omega
    | 2, _ => have := hc h; show c.toNat < 8; omega
  · split
    · exact numO_ok ⟨by omega, by omega⟩
    · exact numO_ok (fieldT_b hb.2.2)
theorem S_one {c d : Nat} : (S [c] = S [d]) ↔ c = d := ⟨fun h => by have := S_inj h; injection this, fun h => by rw [h]⟩
theorem M.x_join2 {p : Addr} {ys : List (List Nat)} {H : Hp} {Q : VK} (h : H p = some (.lst (ys.map fun y => V.str (S y)))) (hl : (ys.map List.length).sum + ys.length * 2 ≤ 1000000) (q : Q (.str (S (TL.joinL [44, 32] ys))) H) :
    ∃ a p', ∃ ys' : List Str, V.str (Str.ofString ", ") = V.str a ∧ [V.ref p] = [V.ref p'] ∧ (SqL K H p' (List.map V.str ys') ∨ SqT K H p' (List.map V.str ys')) ∧
      (List.map (fun x => x.length) ys').sum + ys'.length * a.length ≤ 16777216 ∧ Q (V.str (Txt.join a ys')) H := by
  refine ⟨Str.ofString ", ", p, ys.map S, rfl, rfl, .inl (.inl (.inl ?_)), ?_, ?_⟩
  · rw [List.map_map]; exact h
  · rw [SX.lens, List.length_map]; exact Nat.le_trans hl (by decide)
  · rw [show Str.ofString ", " = S [44, 32] from rfl, SX.join_S]
    exact q
abbrev M.N_instruction_text : List Str := ["parts", "address", "second", "op", "a", "b", "c", "fields", "form", "texts", "k"]
theorem sc_instruction_text : FnScope M.N_instruction_text ["parts", "address", "second"] (defScope s_instruction_text) := ⟨rfl, rfl, rfl, by decide +kernel, rfl, by decide +kernel, by decide +kernel⟩
theorem ok_instruction_text (T : Tx P w K mg) : C8.Cal P w K mg base 3 "instruction_text" (sp_instruction_text K) [] := by
  refine M.cal_mk T.f_instruction_text T.g_instruction_text sc_instruction_text (fun _ _ _ _ _ _ us hl => match us, hl with | [_, _, _], _ => rfl) (by rintro vs H Q E ⟨p, op, f, a, b, c, ad, sec, rfl, _⟩; rfl) fun cdv A outer s0 H vs Q E hr h => ?_
  obtain ⟨p, op, f, a, b, c, ad, sec, rfl, hp, hf, fl, ol, hb, hc, hs, k⟩ := h
  refine ⟨_, (pss_cons (ps_asg (pv 0) (pg_tup rfl (pgs_cons (pg_name (i := 3) sc_instruction_text.nd rfl (Or.inl rfl)) (pgs_cons (pg_name (i := 4) sc_instruction_text.nd rfl (Or.inl rfl)) (pgs_cons (pg_name (i := 5) sc_instruction_text.nd rfl (Or.inl rfl)) (pgs_cons (pg_name (i := 6) sc_instruction_text.nd rfl (Or.inl rfl)) pgs_nil)))))) (pss_cons (ps_set (i := 7) sc_instruction_text.nd rfl (Or.inl rfl) (pe_lst (pa_cons (pv 4) (pa_cons (pv 5) (pa_cons (pv 6) pa_nil))))) (pss_cons (ps_set (i := 8) sc_instruction_text.nd rfl (Or.inl rfl) (pe_ix ix_kdict (C8.pe_gc (by rfl) T.g_FORMS) (pv 3) (fun _ _ => rfl))) (pss_cons (ps_set (i := 9) sc_instruction_text.nd rfl (Or.inl rfl) (pe_lst pa_nil)) (pss_cons (ps_for PassesOwn.never rfl (pi_range1 (by rfl) T.b_range (pa_cons (pe_callB M.call_lenS (by rfl) T.b_len (by decide +kernel) (pa_cons (pv 8) pa_nil)) pa_nil)) (pg_name (i := 10) sc_instruction_text.nd rfl (Or.inl rfl)) (pss_one (ps_if (pt_cmpR op_eq (pe_ix ix_str (pv 8) (pv 10) (fun _ _ => rfl)) pe_str (nomark _)) (pss_one (ps_expr (pe_bm PySem.F.plainAttrs_list PySem.F.slot_list_append PySem.F.type_list_append mt_append (pv 9) (pa_cons (pe_op M.op_addS pe_str (pe_callTy M.call_strI (by rfl) T.b_str (by decide +kernel) (pa_cons (pe_ix ix_list (pv 7) (pv 10) (fun _ _ => rfl)) pa_nil))) pa_nil)))) (pss_one (ps_if (pt_cmpR op_eq (pv 3) pe_str (nomark _)) (pss_one (ps_expr (pe_bm PySem.F.plainAttrs_list PySem.F.slot_list_append PySem.F.type_list_append mt_append (pv 9) (pa_cons (pe_callTy M.call_strI (by rfl) T.b_str (by decide +kernel) (pa_cons (pv 2) pa_nil)) pa_nil)))) (pss_one (ps_expr (pe_bm PySem.F.plainAttrs_list PySem.F.slot_list_append PySem.F.type_list_append mt_append (pv 9) (pa_cons (C8.pe_c (ok_field_text T) hr (by decide) (by rfl) (pa_cons (pv 3) (pa_cons (pv 6) (pa_cons (pv 1) pa_nil)))) pa_nil))))))))) (pss_one (ps_ret (pe_op M.op_addS (pe_op M.op_addS (pv 3) (pe_op M.op_mulZ pe_str (pe_callB (M.call_min2 rfl) (by rfl) T.b_min (by decide +kernel) (pa_cons pe_int (pa_cons (pe_callB M.call_len (by rfl) T.b_len (by decide +kernel) (pa_cons (pv 9) pa_nil)) pa_nil))))) (pe_join pe_str (pv 9)))))))))), ?_⟩
  refine M.x_st (σ0 := [some _, some _, some _, none, none, none, none, none, none, none, none]) rfl ?_
  walk_at "kk"
  walk_at "go"
  intro fl' H1 nfl e1 h1
  walk_at "go"
  refine M.x_kd (frm_kd T hf) ?_
  walk_at "go"
  intro q H2 nq e2 h2
  have hf2 := e2 _ _ h1
  walk_at "go"
  refine M.x_isForR (n := (f.length : Int)) ⟨by omega, by omega⟩ (fun i σ' H' => ∃ v9 : Option V, σ' = [some (.ref p), some (.int ad), some (.int sec), some (.str (S op)), some (.int a), some (.int b), some (.int c), some (.ref fl'), some (.str (S f)), some (.ref q), v9] ∧ Same H H' ∧ H' fl' = some (.lst [.int a, .int b, .int c]) ∧ H' q = some (.lst ((List.range i).map fun j => V.str (S (opdS (opdF (S op) f a b c sec ad j))))))
    ⟨_, rfl, e1.trans e2, hf2, h2⟩ ?_ ?_
  · rintro i σ' H' hi ⟨v9, rfl, ex, hfl, hq⟩
    have il : i < f.length := by omega
    have hx : f[i]? = some f[i] := List.getElem?_eq_getElem il
    have fq : fl' ≠ q := fun z => by rw [← z, h1] at nq; cases nq
    have more : ∀ H3 (o : Opd), Same H' H3 → opdF (S op) f a b c sec ad i = o → rAppend (.ref q) [.str (S (opdS o))] H3 fun _ H4 => ∃ v9 : Option V, [some (.ref p), some (.int ad), some (.int sec), some (.str (S op)), some (.int a), some (.int b), some (.int c), some (.ref fl'), some (.str (S f)), some (.ref q), some (.int (i : Int))] = [some (.ref p), some (.int ad), some (.int sec), some (.str (S op)), some (.int a), some (.int b), some (.int c), some (.ref fl'), some (.str (S f)), some (.ref q), v9] ∧ Same H H4 ∧ H4 fl' = some (.lst [.int a, .int b, .int c]) ∧ H4 q = some (.lst ((List.range (i + 1)).map fun j => V.str (S (opdS (opdF (S op) f a b c sec ad j))))) := fun H3 o e3 ho => by
      have nqH : H q = none := e1.free nq
      refine M.x_append (e3 _ _ hq) (by rw [List.length_map, List.length_range]; omega) (fun H4 e4 h4 => ⟨_, rfl, fun x y hb => e4.at1 (fun z => by rw [z, nqH] at hb; cases hb) (e3 _ _ (ex _ _ hb)), e4.at1 fq (e3 _ _ hfl), ?_⟩)
      rw [h4, List.range_succ, List.map_append, ← ho]
      rfl
    have ai : atI [V.int a, V.int b, V.int c] (i : Int) = some (.int (([a, b, c] : List Int).getD i 0)) := by
      refine M.atI_of (v := V.int _) (by omega) ?_
      rw [Int.toNat_natCast]
      match i, il with
      | 0, _ => rfl
      | 1, _ => rfl
      | 2, _ => rfl
      | n + 3, h => omega
    walk_at "go"
    refine M.x_ifD (fun c1 => ?_) (fun c1 => ?_)
    · have e114 : f[i] = 114 := S_one.mp (show S [f[i]] = S [114] from c1)
      have hoF : opdF (S op) f a b c sec ad i = .reg (([a, b, c] : List Int).getD i 0).toNat := by unfold opdF; rw [if_pos (by rw [hx, e114])]
      have gb : 0 ≤ (([a, b, c] : List Int).getD i 0) ∧ (([a, b, c] : List Int).getD i 0) < 8 := by
        have ok := opdF_ok (op := S op) (sec := sec) (ad := ad) hb hc hs (k := i) (by omega)
        rw [hoF] at ok
        have ok : (([a, b, c] : List Int).getD i 0).toNat < 8 := ok
        refine ⟨?_, by omega⟩
        match i, il with
        | 0, _ => exact hb.1.1
        | 1, _ => exact hb.2.1.1
        | 2, _ => exact hb.2.2.1
        | n + 3, h => omega
      walk_at "go"
      refine x_strZ (by omega) ?_
      walk_at "go"
      have eS : ∀ x : Int, 0 ≤ x → x < 8 → numS x = [48 + x.toNat] := fun x x0 x8 => by
        unfold numS
        rw [if_pos x0, TL.numL_lt (by omega)]
      rw [eS _ gb.1 gb.2]
      refine M.x_addS (a := [114]) (by show 1 + 1 ≤ _; decide) ?_
      walk_at "go"
      exact more H' _ (Same.refl _) hoF
    · have n114 : f[i]? ≠ some 114 := fun z => c1 (by rw [hx] at z; rw [Option.some.inj z]; rfl)
      walk_at "go"
      refine M.x_ifD (fun c2 => ?_) (fun c2 => ?_)
      · walk_at "go"
        refine x_strZ (by omega) ?_
        rw [← numO_S]
        walk_at "go"
        exact more H' _ (Same.refl _) (by unfold opdF; rw [if_neg n114, if_pos c2])
      · walk_at "go"
        refine go_field_text hb.2.2 ?_
        rw [← numO_S]
        walk_at "go"
        exact more H' _ (Same.refl _) (by unfold opdF; rw [if_neg n114, if_neg c2])
  rintro σ' H' ⟨v9, rfl, ex, hfl, hq⟩
  rw [Int.toNat_natCast] at hq
  have eL : ((List.range f.length).map fun j => V.str (S (opdS (opdF (S op) f a b c sec ad j)))) = ((opdsF (S op) f a b c sec ad).map opdS).map fun y => V.str (S y) := by
    unfold opdsF
    rw [List.map_map, List.map_map]
    rfl
  have lO : (opdsF (S op) f a b c sec ad).length = f.length := by unfold opdsF; rw [List.length_map, List.length_range]
  rw [eL] at hq
  have lsum : (((opdsF (S op) f a b c sec ad).map opdS).map List.length).sum ≤ 6 * f.length := by
    have : ∀ (ys : List (List Nat)), (∀ y ∈ ys, y.length ≤ 6) → (ys.map List.length).sum ≤ 6 * ys.length := fun ys => by
      induction ys with
      | nil => intro _; exact Nat.le_refl _
      | cons y ys ih => intro h; rw [List.map_cons, List.sum_cons, List.length_cons]; have := ih fun z m => h z (List.mem_cons_of_mem _ m); have := h y (List.mem_cons_self ..); omega
    have r := this ((opdsF (S op) f a b c sec ad).map opdS) fun y m => by
      obtain ⟨o, mo, rfl⟩ := List.mem_map.mp m
      unfold opdsF at mo
      obtain ⟨j, mj, rfl⟩ := List.mem_map.mp mo
      exact opdS_len (opdF_ok hb hc hs (by have := List.mem_range.mp mj; omega))
    rw [List.length_map, lO] at r
    exact r
  have jl : (TL.joinL [44, 32] ((opdsF (S op) f a b c sec ad).map opdS)).length ≤ 100 := by
    have : ∀ (ys : List (List Nat)), (TL.joinL [44, 32] ys).length ≤ (ys.map List.length).sum + ys.length * 2 := fun ys => by
      induction ys with
      | nil => exact Nat.le_refl _
      | cons y ys ih =>
        cases ys with
        | nil => show y.length ≤ _; rw [List.map_cons, List.sum_cons, List.length_cons]; omega
        | cons z zs =>
          have e1 : (TL.joinL [44, 32] (y :: z :: zs)).length = y.length + (2 + (TL.joinL [44, 32] (z :: zs)).length) := by show (y ++ ([44, 32] ++ TL.joinL [44, 32] (z :: zs))).length = _; rw [List.length_append, List.length_append]; rfl
          have e2 : ((y :: z :: zs).map List.length).sum = y.length + ((z :: zs).map List.length).sum := by rw [List.map_cons, List.sum_cons]
          have e3 : (y :: z :: zs).length = (z :: zs).length + 1 := rfl
          omega
    have := this ((opdsF (S op) f a b c sec ad).map opdS)
    rw [List.length_map, lO] at this
    omega
  walk_at "go"
  rw [List.length_map, List.length_map, lO]
  refine M.x_mulZ (by split <;> omega) ?_
  have eM : (if (if (f.length : Int) < 1 then (f.length : Int) else 1) < 1 then Str.empty else Str.ofString " ") = S (if opdsF (S op) f a b c sec ad = [] then [] else [32]) := by
    by_cases z : f.length = 0
    · rw [if_pos (by rw [if_pos (by omega)]; omega), if_pos (List.eq_nil_of_length_eq_zero (by rw [lO, z]))]; rfl
    · rw [if_neg (by split <;> omega), if_neg (fun q => z (by rw [← lO, q]; rfl))]; rfl
  rw [eM]
  have l1 : (if opdsF (S op) f a b c sec ad = [] then ([] : List Nat) else [32]).length ≤ 1 := by split <;> decide
  refine M.x_addS (by omega) ?_
  walk_at "go"
  refine M.x_join2 (K := K) (Q := fun y H2 => M.rAddZ (V.str (S (op ++ if opdsF (S op) f a b c sec ad = [] then [] else [32]))) y H2 Q) hq (by rw [List.length_map, lO]; omega) ?_
  refine M.x_addS (by rw [List.length_append]; omega) ?_
  walk_at "go"
  rw [List.append_assoc]
  exact k H' ex
end asm12

end
section
section asm13
open SX
variable {P : Program} {w : World} {K : PySem.W.Frag} {mg : Str → Option Value} {base : Heap}
/-- the codes of each op, of its form here and of its form in the law -/
def opT : List (List Nat × List Nat × List Nat) := [([104, 97, 108, 116], [], []), ([115, 101, 116], [114, 101], [114, 50]), ([99, 111, 112, 121], [114, 114], [114, 114]), ([97, 100, 100], [114, 114, 114], [114, 114, 114]), ([115, 117, 98], [114, 114, 114], [114, 114, 114]), ([109, 117, 108], [114, 114, 114], [114, 114, 114]), ([97, 110, 100], [114, 114, 114], [114, 114, 114]), ([111, 114], [114, 114, 114], [114, 114, 114]), ([120, 111, 114], [114, 114, 114], [114, 114, 114]), ([115, 104, 108], [114, 114, 101], [114, 114, 99]), ([115, 104, 114], [114, 114, 101], [114, 114, 99]), ([97, 100, 100, 105], [114, 114, 101], [114, 114, 115]), ([108, 111, 97, 100], [114, 114, 101], [114, 114, 99]), ([115, 116, 111, 114, 101], [114, 114, 101], [114, 114, 99]), ([106, 117, 109, 112], [114], [114]), ([106, 97, 108], [114, 114], [114, 114]), ([98, 101, 113], [114, 114, 101], [114, 114, 116]), ([98, 110, 101], [114, 114, 101], [114, 114, 116]), ([98, 108, 116], [114, 114, 101], [114, 114, 116]), ([99, 97, 108, 108], [101], [99]), ([103, 101, 116, 117], [114, 114], [114, 114]), ([112, 117, 116, 117], [114, 114], [114, 114]), ([103, 101, 116, 115], [114, 101], [114, 55]), ([112, 117, 116, 115], [114, 101], [114, 53]), ([117, 110, 116, 105, 108], [], []), ([114, 101, 115, 116], [], [])]
def opE (i : Nat) : List Nat × List Nat × List Nat := opT.getD i ([], [], [])
def ixO (x : Int) : Nat := (x / 1024).toNat
def opL (x : Int) : List Nat := (opE (ixO x)).1
def fmL (x : Int) : List Nat := (opE (ixO x)).2.1
def wordL : List Nat := [119, 111, 114, 100]
theorem opT_ok : ∀ i : Nat, i < 26 → S (opE i).1 = opsl.getD i "" ∧ (S (opE i).1, S (opE i).2.1) ∈ frmL ∧ (opE i).2.1.length ≤ 3 ∧ (opE i).1.length ≤ 10 ∧ ((opE i).2.1[2]? = some 114 → (opE i).2.2 = [114, 114, 114]) := by decide
theorem ixO_lt {x : Int} (h : decOk x) : ixO x < 26 := by have := h.1; unfold ixO; omega
theorem opL_S {x : Int} (h : decOk x) : S (opL x) = opOf x := (opT_ok _ (ixO_lt h)).1
/-- which class a word's fields must be of -/
def clsO (op : Str) : Nat :=
  if inV (.str op) [.str "halt", .str "until", .str "rest"] = true then 0
  else if inV (.str op) [.str "set", .str "jump"] = true then 1
  else if inV (.str op) [.str "copy", .str "jal", .str "getu", .str "putu"] = true then 2
  else if inV (.str op) [.str "add", .str "sub", .str "mul", .str "and", .str "or", .str "xor"] = true then 3
  else if op = "call" then 4
  else if op = "gets" then 5
  else if op = "puts" then 6
  else 7
def clsF (k : Nat) (a b c : Int) : Bool := match k with
  | 0 => decide (a = 0) && (decide (b = 0) && decide (c = 0))
  | 1 => decide (b = 0) && decide (c = 0)
  | 2 => decide (c = 0)
  | 3 => decide (c < 8)
  | 4 => decide (a = 0) && decide (b = 0)
  | 5 => decide (b = 0) && decide (c < 7)
  | 6 => decide (b = 0) && decide (c < 5)
  | _ => true
theorem fitsM_cls {op : Str} {a b c : Int} (h : (0 ≤ a ∧ a < 8) ∧ (0 ≤ b ∧ b < 8) ∧ (0 ≤ c ∧ c < 16)) : fitsM op a b c = clsF (clsO op) a b c := by
  unfold fitsM clsO
  rw [if_pos h]
  repeat' split
  all_goals rfl
def clsL : List Nat := [0, 1, 2, 3, 3, 3, 3, 3, 3, 7, 7, 7, 7, 7, 1, 2, 7, 7, 7, 4, 2, 2, 5, 6, 0, 0]
theorem clsO_ix : ∀ i : Nat, i < 26 → clsO (opsl.getD i "") = clsL.getD i 7 := by decide
theorem flds_b (x : Int) : (0 ≤ x / 128 % 8 ∧ x / 128 % 8 < 8) ∧ (0 ≤ x / 16 % 8 ∧ x / 16 % 8 < 8) ∧ (0 ≤ x % 16 ∧ x % 16 < 16) := by omega
theorem decOk_cls {x : Int} (h0 : 0 ≤ x) : decOk x ↔ ixO x < 26 ∧ clsF (clsL.getD (ixO x) 7) (x / 128 % 8) (x / 16 % 8) (x % 16) = true := by
  unfold decOk
  rw [fitsM_cls (flds_b x)]
  constructor
  · rintro ⟨h1, h2⟩
    have hi : ixO x < 26 := by unfold ixO; omega
    refine ⟨hi, ?_⟩
    rw [← clsO_ix _ hi]
    exact h2
  · rintro ⟨h1, h2⟩
    rw [← clsO_ix _ h1] at h2
    exact ⟨by unfold ixO at h1; omega, h2⟩
theorem cls_c8 : ∀ i : Nat, i < 26 → (opE i).2.1[2]? = some 114 → clsL.getD i 7 = 3 := by decide
theorem dec_c8 {x : Int} (h0 : 0 ≤ x) (h : decOk x) (hf : (fmL x)[2]? = some 114) : x % 16 < 8 := by
  obtain ⟨h1, h2⟩ := (decOk_cls h0).mp h
  rw [cls_c8 _ h1 hf] at h2
  exact of_decide_eq_true h2
/-! ## what is listed -/
def szW (x : Int) : Nat := if opOf x = "set" then 2 else 1
def wat (ws : List Int) (i : Nat) : Int := ws.getD i 0
def isI (ws : List Int) (i : Nat) : Prop := decOk (wat ws i) ∧ i + szW (wat ws i) ≤ ws.length
instance (ws : List Int) (i : Nat) : Decidable (isI ws i) := inferInstanceAs (Decidable (_ ∧ _))
def lnSz (ws : List Int) (i : Nat) : Nat := if isI ws i then szW (wat ws i) else 1
theorem lnSz_pos (ws : List Int) (i : Nat) : 1 ≤ lnSz ws i ∧ lnSz ws i ≤ 2 := by
  unfold lnSz szW
  split
  · split <;> omega
  · omega
def lnOp (ws : List Int) (i : Nat) : List Nat := if isI ws i then opL (wat ws i) else wordL
def lnOs (ws : List Int) (b : Int) (i : Nat) : List Opd := if isI ws i then opdsF (S (opL (wat ws i))) (fmL (wat ws i)) (wat ws i / 128 % 8) (wat ws i / 16 % 8) (wat ws i % 16) (wat ws (i + szW (wat ws i) - 1)) (b + i) else [numO (wat ws i)]
def lnTx (ws : List Int) (b : Int) (i : Nat) : List Nat := txtF (lnOp ws i) (lnOs ws b i)
def atsF (ws : List Int) (i : Nat) : List Nat := if h : i < ws.length then i :: atsF ws (i + lnSz ws i) else []
termination_by ws.length - i
decreasing_by have := lnSz_pos ws i; omega
theorem atsF_go {ws : List Int} {i : Nat} (h : i < ws.length) : atsF ws i = i :: atsF ws (i + lnSz ws i) := by rw [atsF, dif_pos h]
theorem atsF_end {ws : List Int} {i : Nat} (h : ¬ i < ws.length) : atsF ws i = [] := by rw [atsF, dif_neg h]
def lnsL (ws : List Int) (b : Int) : List (List Nat) := (atsF ws 0).map (lnTx ws b)
theorem lnTx_word {ws : List Int} {b : Int} {i : Nat} (h : ¬ isI ws i) : lnTx ws b i = wordL ++ ([32] ++ numS (wat ws i)) := by
  unfold lnTx txtF lnOp lnOs
  rw [if_neg h, if_neg h, if_neg (List.cons_ne_nil _ _)]
  show wordL ++ ([32] ++ opdS (numO _)) = _
  rw [numO_S]
theorem wat_ix {ws : List Int} {i : Nat} (h : i < ws.length) : ws[i]? = some (wat ws i) := by
  unfold wat
  rw [List.getD_eq_getElem?_getD, List.getElem?_eq_getElem h]; rfl
theorem wat_at {ws : List Int} {i : Nat} (h : i < ws.length) : atI (ws.map V.int) (i : Int) = some (.int (wat ws i)) := M.atI_get (f := V.int) (by omega) (by rw [Int.toNat_natCast]; exact wat_ix h)
theorem go_decode {x : Int} {H : Hp} {Q : VK} {E : XK} (h : 0 ≤ x ∧ x < 65536) (k1 : ¬ decOk x → Q .non H) (k2 : decOk x → ∀ p H', H p = none → Same H H' → H' p = some (.tup (decV x)) → Q (.ref p) H') : sp_decode [.int x] H Q E := ⟨x, rfl, h, k1, k2⟩
def sp_listing : Sp := fun vs H Q _ => ∃ (q : Addr) (b : Int) (ws : List Int), vs = [.ref q, .int b] ∧ H q = some (.lst (ws.map V.int)) ∧ ws.length ≤ 1000 ∧ (∀ i < ws.length, 0 ≤ wat ws i ∧ wat ws i < 65536) ∧ ∀ r H', H r = none → Same H H' → H' r = some (.lst ((lnsL ws b).map fun y => V.str (S y))) → Q (.ref r) H'
theorem go_listing {q : Addr} {b : Int} {ws : List Int} {H : Hp} {Q : VK} {E : XK} (h : H q = some (.lst (ws.map V.int))) (hl : ws.length ≤ 1000) (hw : ∀ i < ws.length, 0 ≤ wat ws i ∧ wat ws i < 65536) (k : ∀ r H', H r = none → Same H H' → H' r = some (.lst ((lnsL ws b).map fun y => V.str (S y))) → Q (.ref r) H') : sp_listing [.ref q, .int b] H Q E := ⟨q, b, ws, rfl, h, hl, hw, k⟩
abbrev M.N_listing : List Str := ["words", "base", "lines", "at", "parts", "second"]
theorem sc_listing : FnScope M.N_listing ["words", "base"] (defScope s_listing) := ⟨rfl, rfl, rfl, by decide +kernel, rfl, by decide +kernel, by decide +kernel⟩
theorem ok_listingJ (T : Tx P w K mg) (j : Nat) (hj : j ≤ 1) : C8.Cal P w K mg base 4 "listing" sp_listing ([V.int 0].drop j) := by
  refine cal_mkD (1 + j) j (by show 1 + j + (1 - j) = 2; omega) T.f_listing T.g_listing sc_listing (fun _ _ _ _ _ _ _ us its hl hi => match j, hj, us, hl, its, hi with | 0, _, [_], _, [_], _ => ⟨_, rfl, rfl⟩ | 1, _, [_, _], _, [_], _ => ⟨_, rfl, rfl⟩) (by rintro vs H Q E ⟨q, b, ws, rfl, _⟩; rfl) fun cdv A outer s H vs Q E hr h => ?_
  obtain ⟨q, b, ws, rfl, hq, hl, hw, k⟩ := h
  refine ⟨_, (pss_cons (ps_set (i := 2) sc_listing.nd rfl (Or.inl rfl) (pe_lst pa_nil)) (pss_cons (ps_set (i := 3) sc_listing.nd rfl (Or.inl rfl) pe_int) (pss_cons (ps_while PassesOwn.never (pt_cmpR op_lt (pv 3) (pe_callB M.call_len (by rfl) T.b_len (by decide +kernel) (pa_cons (pv 0) pa_nil)) (nomark _)) (pss_cons (ps_set (i := 4) sc_listing.nd rfl (Or.inl rfl) (C8.pe_c (ok_decode T) hr (by decide) (by rfl) (pa_cons (pe_ix ix_list (pv 0) (pv 3) (fun _ _ => rfl)) pa_nil))) (pss_one (ps_if (PW.pt (pw_or (pt_cmpR op_isN1 (pv 4) pe_non (nomark _)) (pw_or1 (pt_cmpR op_gt (pe_op op_add (pv 3) (C8.pe_c (ok_size_of T) hr (by decide) (by rfl) (pa_cons (pe_ix ix_tup (pv 4) pe_int (fun _ _ => rfl)) pa_nil))) (pe_callB M.call_len (by rfl) T.b_len (by decide +kernel) (pa_cons (pv 0) pa_nil)) (nomark _))))) (pss_cons (ps_expr (pe_bm PySem.F.plainAttrs_list PySem.F.slot_list_append PySem.F.type_list_append mt_append (pv 2) (pa_cons (pe_op M.op_addS pe_str (pe_callTy M.call_strI (by rfl) T.b_str (by decide +kernel) (pa_cons (pe_ix ix_list (pv 0) (pv 3) (fun _ _ => rfl)) pa_nil))) pa_nil))) (pss_one (ps_aug (i := 3) sc_listing.nd rfl (Or.inl rfl) pe_int ip_add))) (pss_cons (ps_set (i := 5) sc_listing.nd rfl (Or.inl rfl) (pe_ix ix_list (pv 0) (pe_op op_sub (pe_op op_add (pv 3) (C8.pe_c (ok_size_of T) hr (by decide) (by rfl) (pa_cons (pe_ix ix_tup (pv 4) pe_int (fun _ _ => rfl)) pa_nil))) pe_int) (fun _ _ => rfl))) (pss_cons (ps_expr (pe_bm PySem.F.plainAttrs_list PySem.F.slot_list_append PySem.F.type_list_append mt_append (pv 2) (pa_cons (C8.pe_c (ok_instruction_text T) hr (by decide) (by rfl) (pa_cons (pv 4) (pa_cons (pe_op op_add (pv 1) (pv 3)) (pa_cons (pv 5) pa_nil)))) pa_nil))) (pss_one (ps_aug (i := 3) sc_listing.nd rfl (Or.inl rfl) (C8.pe_c (ok_size_of T) hr (by decide) (by rfl) (pa_cons (pe_ix ix_tup (pv 4) pe_int (fun _ _ => rfl)) pa_nil)) ip_add)))))))) (pss_one (ps_ret (pv 2)))))), ?_⟩
  refine M.x_st (σ0 := [some _, some _, none, none, none, none]) rfl ?_
  walk_at "kk"
  walk_at "go"
  intro r H1 nr e1 h1
  walk_at "go"
  refine M.x_while (fun m σ' H' => ∃ (i : Nat) (v4 v5 : Option V) (pre : List Nat), σ' = [some (.ref q), some (.int b), some (.ref r), some (.int i), v4, v5] ∧ Same H H' ∧ H' r = some (.lst (pre.map fun j => V.str (S (lnTx ws b j)))) ∧ pre.length ≤ i ∧ i ≤ ws.length + 1 ∧ pre ++ atsF ws i = atsF ws 0 ∧ m = ws.length + 2 - i)
    (ws.length + 2) ⟨0, _, _, [], rfl, e1, h1, Nat.le_refl _, Nat.zero_le _, rfl, rfl⟩ ?_
  rintro m σ' H' ⟨i, v4, v5, pre, rfl, ex, hr, pl, il, hp, hm⟩
  have hq' := ex _ _ hq
  walk_at "go"
  refine M.x_ifD (fun c1 => ?_) (fun c1 => ?_)
  · have c1 : i < ws.length := by omega
    have hx := wat_at c1
    have hp' : (pre ++ [i]) ++ atsF ws (i + lnSz ws i) = atsF ws 0 := by rw [← hp, atsF_go c1, List.append_assoc]; rfl
    have ls := lnSz_pos ws i
    have put : ∀ (H2 : Hp) (R : V → Hp → Prop), Same H H2 → H2 r = some (.lst (pre.map fun j => V.str (S (lnTx ws b j)))) → (∀ H3, M.Ext [r] H2 H3 → Same H H3 → H3 r = some (.lst ((pre ++ [i]).map fun j => V.str (S (lnTx ws b j)))) → R .non H3) → rAppend (.ref r) [.str (S (lnTx ws b i))] H2 R := fun H2 R ex2 hr2 kR =>
      M.x_append hr2 (by rw [List.length_map]; omega) (fun H3 e3 h3 => kR H3 e3 (fun b o hb => e3.at1 (fun z => by rw [z, nr] at hb; cases hb) (ex2 _ _ hb)) (by rw [h3, List.map_append]; rfl))
    have hwi := hw i c1
    have wput : ∀ (σ : L2.St) (H2 : Hp) (R : V → Hp → Prop), ¬ isI ws i → Same H H2 → H2 r = some (.lst (pre.map fun j => V.str (S (lnTx ws b j)))) → (∀ H3, M.Ext [r] H2 H3 → Same H H3 → H3 r = some (.lst ((pre ++ [i]).map fun j => V.str (S (lnTx ws b j)))) → R .non H3) → M.rStrI [V.int (wat ws i)] H2 fun y H2 =>
        M.rAddZ (V.str (Str.ofString "word ")) y H2 fun x H1 => tNil σ H1 fun xs H2 => rAppend (V.ref r) (x :: xs) H2 R := fun σ H2 R ni ex2 hr2 kR => by
      refine x_strZ (by omega) ?_
      have nl : (numS (wat ws i)).length ≤ 5 := by unfold numS; rw [if_pos hwi.1]; exact numL_le (by omega)
      refine M.x_addS (a := [119, 111, 114, 100, 32]) (by show 5 + _ ≤ _; omega) ?_
      walk_at "go"
      have := put H2 R ex2 hr2 kR
      rw [lnTx_word ni] at this
      exact this
    have i1 : (i : Int) + 1 = ((i + 1 : Nat) : Int) := by omega
    walk_at "go"
    refine go_decode hwi (fun nd => ?_) (fun yd p H2 np e2 h2 => ?_)
    · have ni : ¬ isI ws i := fun z => nd z.1
      have l1 : lnSz ws i = 1 := by unfold lnSz; rw [if_neg ni]
      rw [l1] at hp'
      walk_at "go"
      refine wput _ _ _ ni ex hr (fun H3 _ ex3 hr3 => ?_)
      walk_at "go"
      rw [i1]
      exact ⟨_, by omega, i + 1, _, _, _, rfl, ex3, hr3, by rw [List.length_append]; show _ + 1 ≤ _; omega, by omega, hp', rfl⟩
    · have ex2 := ex.trans e2
      have hr2 := e2 _ _ hr
      have hq2 := e2 _ _ hq'
      have z1 : (if opOf (wat ws i) = "set" then (2 : Int) else 1) = (szW (wat ws i) : Nat) := by unfold szW; split <;> rfl
      have z2 : 1 ≤ szW (wat ws i) ∧ szW (wat ws i) ≤ 2 := by unfold szW; split <;> omega
      walk_at "go"
      refine go_size_of ?_
      rw [z1]
      walk_at "go"
      refine M.x_ifD (fun c2 => ?_) (fun c2 => ?_)
      · have ni : ¬ isI ws i := fun z => by have := z.2; omega
        have l1 : lnSz ws i = 1 := by unfold lnSz; rw [if_neg ni]
        rw [l1] at hp'
        walk_at "go"
        refine wput _ _ _ ni ex2 hr2 (fun H3 _ ex3 hr3 => ?_)
        walk_at "go"
        rw [i1]
        exact ⟨_, by omega, i + 1, _, _, _, rfl, ex3, hr3, by rw [List.length_append]; show _ + 1 ≤ _; omega, by omega, hp', rfl⟩
      · have yi : isI ws i := ⟨yd, by omega⟩
        have ls2 : lnSz ws i = szW (wat ws i) := by unfold lnSz; rw [if_pos yi]
        obtain ⟨-, y2⟩ := yi
        walk_at "go"
        refine go_size_of ?_
        rw [z1]
        have ea : atI (ws.map V.int) ((i : Int) + (szW (wat ws i) : Nat) - 1) = some (.int (wat ws (i + szW (wat ws i) - 1))) := by
          rw [show (i : Int) + (szW (wat ws i) : Nat) - 1 = ((i + szW (wat ws i) - 1 : Nat) : Int) by omega]
          exact wat_at (by omega)
        walk_at "go"
        have ot := opT_ok _ (ixO_lt yd)
        have hop : SqT K H2 p [.str (S (opL (wat ws i))), .int (wat ws i / 128 % 8), .int (wat ws i / 16 % 8), .int (wat ws i % 16)] := SqT.of (by rw [h2, opL_S yd]; rfl)
        refine go_instruction_text hop ot.2.1 ot.2.2.1 ot.2.2.2.1 (flds_b _) (dec_c8 hwi.1 yd) (hw _ (by omega)) (fun H3 e3 => ?_)
        have ex3 := ex2.trans e3
        have hr3 := e3 _ _ hr2
        have h3 := e3 _ _ h2
        have etx : txtF (opL (wat ws i)) (opdsF (S (opL (wat ws i))) (opE (ixO (wat ws i))).2.1 (wat ws i / 128 % 8) (wat ws i / 16 % 8) (wat ws i % 16) (wat ws (i + szW (wat ws i) - 1)) (b + i)) = lnTx ws b i := by
          unfold lnTx lnOp lnOs
          rw [if_pos ⟨yd, y2⟩, if_pos ⟨yd, y2⟩]
          rfl
        rw [etx]
        walk_at "go"
        refine put _ _ ex3 hr3 (fun H4 e4 ex4 hr4 => ?_)
        have h4 : H4 p = some (.tup (decV (wat ws i))) := e4.at1 (fun z => by rw [z, hr] at np; cases np) h3
        walk_at "go"
        refine go_size_of ?_
        rw [z1]
        walk_at "go"
        rw [ls2] at hp'
        exact ⟨_, by omega, i + szW (wat ws i), _, _, _, rfl, ex4, hr4, by rw [List.length_append]; show _ + 1 ≤ _; omega, by omega, hp', rfl⟩
  · walk_at "go"
    rw [atsF_end (by omega), List.append_nil] at hp
    rw [hp] at hr
    exact k r H' nr ex (by rw [hr]; unfold lnsL; rw [List.map_map]; rfl)
theorem ok_listing (T : Tx P w K mg) : C8.Cal P w K mg base 4 "listing" sp_listing [] := ok_listingJ T 1 (by decide)
theorem ok0_listing (T : Tx P w K mg) : C8.Cal P w K mg base 4 "listing" sp_listing [V.int 0] := ok_listingJ T 0 (by decide)
end asm13

end
section
section asm14
open SX
variable {P : Program} {w : World} {K : PySem.W.Frag} {mg : Str → Option Value} {base : Heap}
def sp_lnum : Sp := fun vs H Q _ => ∃ c k : Int, vs = [.int c, .int k] ∧ (∀ n : Int, Q (.int n) H)
abbrev M.N__law_number : List Str := ["cell", "k", "mixed"]
theorem sc__law_number : FnScope M.N__law_number ["cell", "k"] (defScope s__law_number) := ⟨rfl, rfl, rfl, by decide +kernel, rfl, by decide +kernel, by decide +kernel⟩
theorem ok__law_number (T : Tx P w K mg) : C8.Cal P w K mg base 1 "_law_number" sp_lnum [] := by
  refine M.cal_mk T.f__law_number T.g__law_number sc__law_number (fun _ _ _ _ _ _ us hl => match us, hl with | [_, _], _ => rfl) (by rintro vs H Q E ⟨c, k, rfl, _⟩; rfl) fun cdv A outer s H vs Q E hr h => ?_
  obtain ⟨c, k, rfl, q⟩ := h
  refine ⟨_, (pss_cons (ps_if (pt_cmpR op_ge (pv 0) (pe_op op_pow pe_int pe_int) (nomark _)) (pss_one (ps_ret (pv 0))) pss_nil) (pss_cons (ps_set (i := 2) sc__law_number.nd rfl (Or.inl rfl) (pe_op op_mod (pe_callTy M.call_int (by rfl) T.b_int (by decide +kernel) (pa_cons (pe_op op_add (pe_op op_add (pe_op op_mul (pv 0) pe_int) (pe_op op_mul (pv 1) pe_int)) pe_int) pa_nil)) pe_int)) (pss_one (ps_ret (pe_op op_mod (pe_callTy M.call_int (by rfl) T.b_int (by decide +kernel) (pa_cons (pe_op op_add (pe_op op_mul (pv 2) (pv 2)) (pe_op op_mul (pv 1) pe_int)) pa_nil)) pe_int))))), ?_⟩
  walk_at "kk"
  walk_at "split"
  all_goals exact q _
def PrsB (H : Hp) : List Addr → List (List Nat × List Nat × List Nat) → Prop
  | p :: ps, t :: ts => H p = some (.tup [.str (S t.1), .str (S t.2.2)]) ∧ PrsB H ps ts
  | [], [] => True
  | _, _ => False
structure FrmAt (H : Hp) (q : Addr) : Prop where
  ex : ∃ ps : List Addr, H q = some (.lst (ps.map V.ref)) ∧ ps.length = 26 ∧ PrsB H ps opT
theorem PrsB.at {H : Hp} : ∀ {ps : List Addr} {ts : List (List Nat × List Nat × List Nat)} (i : Nat), PrsB H ps ts → i < ts.length → ∃ p, ps[i]? = some p ∧ H p = some (.tup [.str (S (ts.getD i ([], [], [])).1), .str (S (ts.getD i ([], [], [])).2.2)])
  | [], [], i, _, hi => absurd hi (Nat.not_lt_zero i)
  | p :: ps, t :: ts, 0, h, _ => ⟨p, rfl, h.1⟩
  | p :: ps, t :: ts, i + 1, h, hi => PrsB.at (ps := ps) (ts := ts) i h.2 (Nat.lt_of_succ_lt_succ hi)
theorem FrmAt.at {H : Hp} {q : Addr} {i : Int} (h : FrmAt H q) (hi : 0 ≤ i ∧ i < 26) : ∃ xs p, H q = some (.lst xs) ∧ atI xs i = some (.ref p) ∧ H p = some (.tup [.str (S (opE i.toNat).1), .str (S (opE i.toNat).2.2)]) := by
  obtain ⟨ps, h1, h2, h3⟩ := h.ex
  obtain ⟨p, k1, k2⟩ := h3.at i.toNat (by show i.toNat < 26; omega)
  exact ⟨_, p, h1, M.atI_get (f := V.ref) hi.1 k1, k2⟩
def sp_lforms : Sp := fun vs H Q _ => vs = [] ∧ ∀ p H', Same H H' → FrmAt H' p → Q (.ref p) H'
abbrev M.N__law_forms : List Str := ["forms"]
theorem sc__law_forms : FnScope M.N__law_forms [] (defScope s__law_forms) := ⟨rfl, rfl, rfl, by decide +kernel, rfl, by decide +kernel, by decide +kernel⟩
theorem ok__law_forms (T : Tx P w K mg) : C8.Cal P w K mg base 1 "_law_forms" sp_lforms [] := by
  refine M.cal_mk T.f__law_forms T.g__law_forms sc__law_forms (fun _ _ _ _ _ _ us hl => match us, hl with | [], _ => rfl) (by rintro vs H Q E ⟨rfl, _⟩; rfl) fun cdv A outer s H vs Q E hr h => ?_
  obtain ⟨rfl, k⟩ := h
  refine ⟨_, (pss_cons (ps_set (i := 0) sc__law_forms.nd rfl (Or.inl rfl) (pe_lst (pa_cons (pe_tup (pa_cons pe_str (pa_cons pe_str pa_nil))) (pa_cons (pe_tup (pa_cons pe_str (pa_cons pe_str pa_nil))) (pa_cons (pe_tup (pa_cons pe_str (pa_cons pe_str pa_nil))) (pa_cons (pe_tup (pa_cons pe_str (pa_cons pe_str pa_nil))) (pa_cons (pe_tup (pa_cons pe_str (pa_cons pe_str pa_nil))) (pa_cons (pe_tup (pa_cons pe_str (pa_cons pe_str pa_nil))) (pa_cons (pe_tup (pa_cons pe_str (pa_cons pe_str pa_nil))) pa_nil))))))))) (pss_cons (ps_set (i := 0) sc__law_forms.nd rfl (Or.inl rfl) (pe_op op_cat (pv 0) (pe_lst (pa_cons (pe_tup (pa_cons pe_str (pa_cons pe_str pa_nil))) (pa_cons (pe_tup (pa_cons pe_str (pa_cons pe_str pa_nil))) (pa_cons (pe_tup (pa_cons pe_str (pa_cons pe_str pa_nil))) (pa_cons (pe_tup (pa_cons pe_str (pa_cons pe_str pa_nil))) (pa_cons (pe_tup (pa_cons pe_str (pa_cons pe_str pa_nil))) (pa_cons (pe_tup (pa_cons pe_str (pa_cons pe_str pa_nil))) pa_nil))))))))) (pss_cons (ps_set (i := 0) sc__law_forms.nd rfl (Or.inl rfl) (pe_op op_cat (pv 0) (pe_lst (pa_cons (pe_tup (pa_cons pe_str (pa_cons pe_str pa_nil))) (pa_cons (pe_tup (pa_cons pe_str (pa_cons pe_str pa_nil))) (pa_cons (pe_tup (pa_cons pe_str (pa_cons pe_str pa_nil))) (pa_cons (pe_tup (pa_cons pe_str (pa_cons pe_str pa_nil))) (pa_cons (pe_tup (pa_cons pe_str (pa_cons pe_str pa_nil))) (pa_cons (pe_tup (pa_cons pe_str (pa_cons pe_str pa_nil))) pa_nil))))))))) (pss_one (ps_ret (pe_op op_cat (pv 0) (pe_lst (pa_cons (pe_tup (pa_cons pe_str (pa_cons pe_str pa_nil))) (pa_cons (pe_tup (pa_cons pe_str (pa_cons pe_str pa_nil))) (pa_cons (pe_tup (pa_cons pe_str (pa_cons pe_str pa_nil))) (pa_cons (pe_tup (pa_cons pe_str (pa_cons pe_str pa_nil))) (pa_cons (pe_tup (pa_cons pe_str (pa_cons pe_str pa_nil))) (pa_cons (pe_tup (pa_cons pe_str (pa_cons pe_str pa_nil))) (pa_cons (pe_tup (pa_cons pe_str (pa_cons pe_str pa_nil))) pa_nil)))))))))))))), ?_⟩
  walk_at "kk"
  walk_at "go"
  intro p0 H1 n0 e0 h0
  walk_at "go"
  intro p1 H2 n1 e1 h1
  walk_at "go"
  intro p2 H3 n2 e2 h2
  walk_at "go"
  intro p3 H4 n3 e3 h3
  walk_at "go"
  intro p4 H5 n4 e4 h4
  walk_at "go"
  intro p5 H6 n5 e5 h5
  walk_at "go"
  intro p6 H7 n6 e6 h6
  walk_at "go"
  intro p7 H8 n7 e7 h7
  walk_at "go"
  intro p8 H9 n8 e8 h8
  walk_at "go"
  intro p9 H10 n9 e9 h9
  walk_at "go"
  intro p10 H11 n10 e10 h10
  walk_at "go"
  intro p11 H12 n11 e11 h11
  walk_at "go"
  intro p12 H13 n12 e12 h12
  walk_at "go"
  intro p13 H14 n13 e13 h13
  walk_at "go"
  intro p14 H15 n14 e14 h14
  walk_at "go"
  intro p15 H16 n15 e15 h15
  walk_at "go"
  intro p16 H17 n16 e16 h16
  walk_at "go"
  intro p17 H18 n17 e17 h17
  walk_at "go"
  intro p18 H19 n18 e18 h18
  walk_at "go"
  intro p19 H20 n19 e19 h19
  walk_at "go"
  intro p20 H21 n20 e20 h20
  walk_at "go"
  intro p21 H22 n21 e21 h21
  walk_at "go"
  intro p22 H23 n22 e22 h22
  walk_at "go"
  intro p23 H24 n23 e23 h23
  walk_at "go"
  intro p24 H25 n24 e24 h24
  walk_at "go"
  intro p25 H26 n25 e25 h25
  walk_at "go"
  intro p26 H27 n26 e26 h26
  walk_at "go"
  intro p27 H28 n27 e27 h27
  walk_at "go"
  intro p28 H29 n28 e28 h28
  walk_at "go"
  intro p29 H30 n29 e29 h29
  walk_at "go"
  intro p30 H31 n30 e30 h30
  walk_at "go"
  intro p31 H32 n31 e31 h31
  walk_at "go"
  intro p32 H33 n32 e32 h32
  walk_at "go"
  have E33 : Same H33 H33 := Same.refl _
  have E32 : Same H32 H33 := e32.trans E33
  have E31 : Same H31 H33 := e31.trans E32
  have E30 : Same H30 H33 := e30.trans E31
  have E29 : Same H29 H33 := e29.trans E30
  have E28 : Same H28 H33 := e28.trans E29
  have E27 : Same H27 H33 := e27.trans E28
  have E26 : Same H26 H33 := e26.trans E27
  have E25 : Same H25 H33 := e25.trans E26
  have E24 : Same H24 H33 := e24.trans E25
  have E23 : Same H23 H33 := e23.trans E24
  have E22 : Same H22 H33 := e22.trans E23
  have E21 : Same H21 H33 := e21.trans E22
  have E20 : Same H20 H33 := e20.trans E21
  have E19 : Same H19 H33 := e19.trans E20
  have E18 : Same H18 H33 := e18.trans E19
  have E17 : Same H17 H33 := e17.trans E18
  have E16 : Same H16 H33 := e16.trans E17
  have E15 : Same H15 H33 := e15.trans E16
  have E14 : Same H14 H33 := e14.trans E15
  have E13 : Same H13 H33 := e13.trans E14
  have E12 : Same H12 H33 := e12.trans E13
  have E11 : Same H11 H33 := e11.trans E12
  have E10 : Same H10 H33 := e10.trans E11
  have E9 : Same H9 H33 := e9.trans E10
  have E8 : Same H8 H33 := e8.trans E9
  have E7 : Same H7 H33 := e7.trans E8
  have E6 : Same H6 H33 := e6.trans E7
  have E5 : Same H5 H33 := e5.trans E6
  have E4 : Same H4 H33 := e4.trans E5
  have E3 : Same H3 H33 := e3.trans E4
  have E2 : Same H2 H33 := e2.trans E3
  have E1 : Same H1 H33 := e1.trans E2
  exact k p32 H33 (e0.trans E1) ⟨[p0, p1, p2, p3, p4, p5, p6, p8, p9, p10, p11, p12, p13, p16, p17, p18, p19, p20, p21, p24, p25, p26, p27, p28, p29, p30], h32, rfl, ⟨E1 _ _ h0, E2 _ _ h1, E3 _ _ h2, E4 _ _ h3, E5 _ _ h4, E6 _ _ h5, E7 _ _ h6, E9 _ _ h8, E10 _ _ h9, E11 _ _ h10, E12 _ _ h11, E13 _ _ h12, E14 _ _ h13, E17 _ _ h16, E18 _ _ h17, E19 _ _ h18, E20 _ _ h19, E21 _ _ h20, E22 _ _ h21, E25 _ _ h24, E26 _ _ h25, E27 _ _ h26, E28 _ _ h27, E29 _ _ h28, E30 _ _ h29, E31 _ _ h30, trivial⟩⟩
theorem go_lforms {H : Hp} {Q : VK} {E : XK} (k : ∀ p H', Same H H' → FrmAt H' p → Q (.ref p) H') : sp_lforms [] H Q E := ⟨rfl, k⟩
theorem opE_len : ∀ i : Nat, i < 26 → (opE i).2.2.length ≤ 3 := by decide
theorem mem_S {x : List Nat} {l : List (List Nat)} : S x ∈ l.map S ↔ x ∈ l := ⟨fun h => by obtain ⟨y, hy, e⟩ := List.mem_map.mp h; rw [← S_inj e]; exact hy, fun h => List.mem_map.mpr ⟨x, h, rfl⟩⟩
theorem inV_S {x : List Nat} {l : List (List Nat)} : inV (.str (S x)) (l.map fun y => V.str (S y)) = decide (x ∈ l) := by
  have := M.inV_strs (z := S x) (l := l.map S)
  rw [List.map_map] at this
  rw [show (l.map fun y => V.str (S y)) = l.map (V.str ∘ S) from rfl, this, decide_eq_decide]
  exact mem_S
theorem S_ne {x y : List Nat} : S x ≠ S y ↔ x ≠ y := ⟨fun h z => h (by rw [z]), fun h z => h (S_inj z)⟩
def sp_lany : Sp := fun vs H Q _ => ∃ y : Int, vs = [.int y] ∧ ∀ n H', 0 ≤ n → n < 65536 → Same H H' → Q (.int n) H'
theorem go_lany {y : Int} {H : Hp} {Q : VK} {E : XK} (k : ∀ n H', 0 ≤ n → n < 65536 → Same H H' → Q (.int n) H') : sp_lany [.int y] H Q E := ⟨y, rfl, k⟩
abbrev M.N__law_any : List Str := ["y", "kind", "rest", "op", "form", "a", "b", "c"]
theorem sc__law_any : FnScope M.N__law_any ["y"] (defScope s__law_any) := ⟨rfl, rfl, rfl, by decide +kernel, rfl, by decide +kernel, by decide +kernel⟩
theorem ok__law_any (T : Tx P w K mg) : C8.Cal P w K mg base 2 "_law_any" sp_lany [] := by
  refine M.cal_mk T.f__law_any T.g__law_any sc__law_any (fun _ _ _ _ _ _ us hl => match us, hl with | [_], _ => rfl) (by rintro vs H Q E ⟨y, rfl, _⟩; rfl) fun cdv A outer s H vs Q E hr h => ?_
  obtain ⟨y, rfl, k⟩ := h
  refine ⟨_, (pss_cons (ps_set (i := 1) sc__law_any.nd rfl (Or.inl rfl) (pe_op op_mod (pe_callTy M.call_int (by rfl) T.b_int (by decide +kernel) (pa_cons (pv 0) pa_nil)) pe_int)) (pss_cons (ps_set (i := 2) sc__law_any.nd rfl (Or.inl rfl) (pe_op op_fdiv (pv 0) pe_int)) (pss_cons (ps_if (pt_cmpR op_eq (pv 1) pe_int (nomark _)) (pss_one (ps_ret (pe_op op_mod (pe_callTy M.call_int (by rfl) T.b_int (by decide +kernel) (pa_cons (pv 2) pa_nil)) pe_int))) pss_nil) (pss_cons (ps_set (i := 3) sc__law_any.nd rfl (Or.inl rfl) (pe_op op_mod (pe_callTy M.call_int (by rfl) T.b_int (by decide +kernel) (pa_cons (pv 2) pa_nil)) pe_int)) (pss_cons (ps_set (i := 4) sc__law_any.nd rfl (Or.inl rfl) (pe_ix ix_tup (pe_ix ix_list (M.pe_c0 (ok__law_forms T) hr (by decide) (by rfl)) (pv 3) (fun _ _ => rfl)) pe_int (fun _ _ => rfl))) (pss_cons (ps_set (i := 5) sc__law_any.nd rfl (Or.inl rfl) (pe_op op_mul (pe_op op_mod (pe_op op_fdiv (pv 2) pe_int) pe_int) (pe_callTy M.call_int (by rfl) T.b_int (by decide +kernel) (pa_cons (pe_cmpR op_eq (pe_slice M.sl_str (pv 4) po_none (po_some pe_int)) pe_str (nomark _)) pa_nil)))) (pss_cons (ps_set (i := 6) sc__law_any.nd rfl (Or.inl rfl) (pe_op op_mul (pe_op op_mod (pe_op op_fdiv (pv 2) pe_int) pe_int) (pe_callTy M.call_int (by rfl) T.b_int (by decide +kernel) (pa_cons (pe_cmpR op_eq (pe_slice M.sl_str (pv 4) po_none (po_some pe_int)) pe_str (nomark _)) pa_nil)))) (pss_cons (ps_set (i := 7) sc__law_any.nd rfl (Or.inl rfl) (pe_op op_mod (pe_op op_fdiv (pv 2) pe_int) pe_int)) (C8.pss_cut (ps_if (pt_cmpR op_in_seq (pv 4) (pe_lst (pa_cons pe_str (pa_cons pe_str (pa_cons pe_str (pa_cons pe_str pa_nil))))) (by rfl)) (pss_one (ps_set (i := 7) sc__law_any.nd rfl (Or.inl rfl) pe_int)) pss_nil) (pss_cons (ps_if (pt_cmpR op_in_seq (pv 4) (pe_lst (pa_cons pe_str (pa_cons pe_str (pa_cons pe_str pa_nil)))) (by rfl)) (pss_one (ps_set (i := 7) sc__law_any.nd rfl (Or.inl rfl) (pe_op op_mod (pe_callTy M.call_int (by rfl) T.b_int (by decide +kernel) (pa_cons (pv 7) pa_nil)) (pe_ix ix_list (pe_lst (pa_cons pe_int (pa_cons pe_int (pa_cons pe_int pa_nil)))) (pe_bm PySem.F.plainAttrs_list PySem.F.slot_list_index PySem.F.type_list_index mt_index (pe_lst (pa_cons pe_str (pa_cons pe_str (pa_cons pe_str pa_nil)))) (pa_cons (pv 4) pa_nil)) (fun _ _ => rfl))))) pss_nil) (pss_one (ps_ret (pe_op op_add (pe_op op_add (pe_op op_add (pe_op op_mul (pv 3) pe_int) (pe_op op_mul (pv 5) pe_int)) (pe_op op_mul (pv 6) pe_int)) (pv 7)))))))))))))), ?_⟩
  refine M.x_st (σ0 := [some _, none, none, none, none, none, none, none]) rfl ?_
  walk_at "kk"
  walk_at "go"
  refine M.x_ifD (fun c1 => ?_) (fun c1 => ?_)
  · walk_at "go"
    exact k _ H (by omega) (by omega) (Same.refl _)
  · walk_at "go"
    refine go_lforms (fun p H1 e1 f1 => ?_)
    walk_at "go"
    obtain ⟨xs, p1, g1, g2, g3⟩ := f1.at (i := y / 4 % 26) (by omega)
    have fl := opE_len (y / 4 % 26).toNat (by omega)
    obtain ⟨fm, hfm⟩ : ∃ fm, (opE (y / 4 % 26).toNat).2.2 = fm := ⟨_, rfl⟩
    rw [hfm] at g3 fl
    walk_at "go"
    refine M.x_slTo (j := 1) (by omega) ?_
    have b1 : ∀ q : Bool, 0 ≤ (if q = true then (1 : Int) else 0) ∧ (if q = true then (1 : Int) else 0) ≤ 1 := fun q => by cases q <;> decide
    have b2 : ∀ u v : Int, 0 ≤ u ∧ u < 8 → 0 ≤ v ∧ v ≤ 1 → 0 ≤ u * v ∧ u * v < 8 := fun u v hu hv => by
      rcases (show v = 0 ∨ v = 1 by omega) with e | e <;> subst e <;> omega
    walk_at "go"
    have hb1 := b2 (y / 4 / 26 % 8) _ (by omega) (b1 (decide (S (fm.take 1) = Str.ofString "r")))
    refine M.x_slTo (j := 2) (by omega) ?_
    walk_at "go"
    have hb2 := b2 (y / 4 / 208 % 8) _ (by omega) (b1 (decide (S (fm.take 2) = Str.ofString "rr")))
    refine M.x_cut (fun σ2 H2 => ∃ z z1 z2 : Int, σ2 = [some (.int y), some (.int (y % 4)), some (.int (y / 4)), some (.int (y / 4 % 26)), some (.str (S fm)), some (.int z1), some (.int z2), some (.int z)] ∧ Same H1 H2 ∧ (0 ≤ z1 ∧ z1 < 8) ∧ (0 ≤ z2 ∧ z2 < 8) ∧ (0 ≤ z ∧ z < 16)) ?_ ?_
    · walk_at "go"
      intro q H2 nq e2 h2
      refine M.x_inL (.inl (.inl h2)) rfl rfl ?_
      refine M.x_isB ?_
      refine M.x_if (fun c3 => ?_) (fun c3 => ?_)
      · walk_at "go"
        exact ⟨_, _, _, rfl, e2, hb1, hb2, by omega, by omega⟩
      · walk_at "go"
        exact ⟨_, _, _, rfl, e2, hb1, hb2, by omega, by omega⟩
    · rintro σ2 H2 ⟨z, z1, z2, rfl, e2, k1, k2, k3⟩
      walk_at "go"
      intro q H3 nq e3 h3
      refine M.x_inL (.inl (.inl h3)) rfl rfl ?_
      rw [show [V.str (Str.ofString "rrr"), V.str (Str.ofString "r7"), V.str (Str.ofString "r5")] = ([[114, 114, 114], [114, 55], [114, 53]] : List (List Nat)).map fun y => V.str (S y) from rfl, inV_S]
      refine M.x_isB ?_
      refine M.x_ifD (fun c3 => ?_) (fun c3 => ?_)
      · walk_at "go"
        intro q4 H4 n4 e4 h4
        walk_at "go"
        intro q5 H5 n5 e5 h5
        have h45 := e5 _ _ h4
        walk_at "go"
        refine M.x_lidx (l := [[114, 114, 114], [114, 55], [114, 53]].map S) (.inl (.inl h5)) (mem_S.mpr c3) ?_
        obtain ⟨v, hv, v1⟩ : ∃ v : Int, atI [V.int 8, V.int 7, V.int 5] ((([[114, 114, 114], [114, 55], [114, 53]].map S).idxOf (S fm) : Nat) : Int) = some (.int v) ∧ 0 < v ∧ v ≤ 8 := by
          simp only [List.mem_cons, List.not_mem_nil, or_false] at c3
          rcases c3 with e | e | e
          · rw [e]; exact ⟨8, by decide, by decide⟩
          · rw [e]; exact ⟨7, by decide, by decide⟩
          · rw [e]; exact ⟨5, by decide, by decide⟩
        walk_at "go"
        have m1 := Int.emod_nonneg z (show v ≠ 0 by omega)
        have m2 := Int.emod_lt_of_pos z v1.1
        obtain ⟨r, hr⟩ : ∃ r, z % v = r := ⟨_, rfl⟩
        rw [hr] at m1 m2 ⊢
        exact k _ H5 (by omega) (by omega) (e1.trans (e2.trans (e3.trans (e4.trans e5))))
      · walk_at "go"
        exact k _ H3 (by omega) (by omega) (e1.trans (e2.trans e3))
def lgM (i : Nat) (a b c : Int) : Bool := decide (i < 26) && (decide ((opE i).2.2.take 1 = [114] ∨ a ≤ 0) && (decide ((opE i).2.2.take 2 = [114, 114] ∨ b ≤ 0) &&
  if (opE i).2.2 ∈ ([[], [114], [114, 114], [114, 50]] : List (List Nat)) then decide (c = 0) else decide (c < (if (opE i).2.2 = [114, 114, 114] then 8 else if (opE i).2.2 = [114, 55] then 7 else if (opE i).2.2 = [114, 53] then 5 else 16))))
theorem same_but {H Ha Hb : Hp} {p : Addr} (n : H p = none) (ea : Same H Ha) (eb : M.Ext [p] Ha Hb) : Same H Hb := fun b o hb => eb.at1 (fun z => by rw [z, n] at hb; cases hb) (ea _ _ hb)
theorem vd_get {fm : List Nat} : (valV [((.inr "rrr" : Key), V.int 8), (.inr "r7", .int 7), (.inr "r5", .int 5)] (.inr (S fm))).getD (.int 16) = .int (if fm = [114, 114, 114] then 8 else if fm = [114, 55] then 7 else if fm = [114, 53] then 5 else 16) := by
  have key : ∀ (x : List Nat), decide ((.inr (S x) : Key) = .inr (S fm)) = decide (fm = x) := fun x => by
    rw [decide_eq_decide]
    exact ⟨fun h => by injection h with h; exact (S_inj h).symm, fun h => by rw [h]⟩
  have e : ([((.inr "rrr" : Key), V.int 8), (.inr "r7", .int 7), (.inr "r5", .int 5)] : List (Key × V)) = [((.inr (S [114, 114, 114]) : Key), V.int 8), (.inr (S [114, 55]), .int 7), (.inr (S [114, 53]), .int 5)] := rfl
  rw [e]
  unfold valV
  rw [List.find?_cons, key]
  by_cases c : fm = [114, 114, 114]
  · rw [decide_eq_true c, if_pos c]; rfl
  · rw [decide_eq_false c, if_neg c, List.find?_cons, key]
    by_cases c : fm = [114, 55]
    · rw [decide_eq_true c, if_pos c]; rfl
    · rw [decide_eq_false c, if_neg c, List.find?_cons, key]
      by_cases c : fm = [114, 53]
      · rw [decide_eq_true c, if_pos c]; rfl
      · rw [decide_eq_false c, if_neg c]; rfl
def sp_llegal : Sp := fun vs H Q _ => ∃ o a b c : Int, vs = [.int o, .int a, .int b, .int c] ∧ 0 ≤ o ∧ ∀ H', Same H H' → Q (.bl (lgM o.toNat a b c)) H'
theorem go_llegal {o a b c : Int} {H : Hp} {Q : VK} {E : XK} (h : 0 ≤ o) (k : ∀ H', Same H H' → Q (.bl (lgM o.toNat a b c)) H') : sp_llegal [.int o, .int a, .int b, .int c] H Q E := ⟨o, a, b, c, rfl, h, k⟩
abbrev M.N__law_legal : List Str := ["op", "a", "b", "c", "form"]
theorem sc__law_legal : FnScope M.N__law_legal ["op", "a", "b", "c"] (defScope s__law_legal) := ⟨rfl, rfl, rfl, by decide +kernel, rfl, by decide +kernel, by decide +kernel⟩
theorem ok__law_legal (T : Tx P w K mg) : C8.Cal P w K mg base 2 "_law_legal" sp_llegal [] := by
  refine M.cal_mk T.f__law_legal T.g__law_legal sc__law_legal (fun _ _ _ _ _ _ us hl => match us, hl with | [_, _, _, _], _ => rfl) (by rintro vs H Q E ⟨o, a, b, c, rfl, _⟩; rfl) fun cdv A outer s H vs Q E hr h => ?_
  obtain ⟨o, a, b, c, rfl, ho, k⟩ := h
  refine ⟨_, (pss_cons (ps_if (pt_cmpR op_gt (pv 0) pe_int (nomark _)) (pss_one (ps_ret pe_bl)) pss_nil) (pss_cons (ps_set (i := 4) sc__law_legal.nd rfl (Or.inl rfl) (pe_ix ix_tup (pe_ix ix_list (M.pe_c0 (ok__law_forms T) hr (by decide) (by rfl)) (pv 0) (fun _ _ => rfl)) pe_int (fun _ _ => rfl))) (C8.pss_cut (ps_if (PW.pt (pw_or (PW.pt (pw_and (pt_cmpR op_ne (pe_slice M.sl_str (pv 4) po_none (po_some pe_int)) pe_str (nomark _)) (pw_and1 (pt_cmpR op_gt (pv 1) pe_int (nomark _))))) (pw_or1 (PW.pt (pw_and (pt_cmpR op_ne (pe_slice M.sl_str (pv 4) po_none (po_some pe_int)) pe_str (nomark _)) (pw_and1 (pt_cmpR op_gt (pv 2) pe_int (nomark _)))))))) (pss_one (ps_ret pe_bl)) pss_nil) (pss_cons (ps_if (pt_cmpR op_in_seq (pv 4) (pe_lst (pa_cons pe_str (pa_cons pe_str (pa_cons pe_str (pa_cons pe_str pa_nil))))) (by rfl)) (pss_one (ps_ret (pe_cmpR op_eq (pv 3) pe_int (nomark _)))) pss_nil) (pss_one (ps_ret (pe_cmpR op_lt (pv 3) (pe_dget2 (Nat.lt_of_le_of_lt (Nat.add_le_add_left (show 1 ≤ 64 by decide) _) (M.hu64 hr)) (pe_disp (pps_cons pe_str pe_int (pps_cons pe_str pe_int (pps_cons pe_str pe_int pps_nil))) (by rfl) (by rfl) (fun z => by cases z) (by decide)) (pv 4) pe_int ⟨by rfl, by rfl, by rfl, by rfl⟩) (nomark _)))))))), ?_⟩
  refine M.x_st (σ0 := [some _, some _, some _, some _, none]) rfl ?_
  walk_at "kk"
  walk_at "go"
  refine M.x_ifD (fun c1 => ?_) (fun c1 => ?_)
  · walk_at "go"
    have : lgM o.toNat a b c = false := by unfold lgM; rw [decide_eq_false (by omega)]; rfl
    rw [this] at k
    exact k H (Same.refl _)
  · walk_at "go"
    refine go_lforms (fun p H1 e1 f1 => ?_)
    walk_at "go"
    obtain ⟨xs, p1, g1, g2, g3⟩ := f1.at (i := o) (by omega)
    have fl := opE_len o.toNat (by omega)
    obtain ⟨fm, hfm⟩ : ∃ fm, (opE o.toNat).2.2 = fm := ⟨_, rfl⟩
    unfold lgM at k
    rw [hfm] at g3 fl k
    rw [decide_eq_true (show o.toNat < 26 by omega), Bool.true_and] at k
    walk_at "go"
    refine M.x_cut (fun σ2 H2 => σ2 = [some (.int o), some (.int a), some (.int b), some (.int c), some (.str (S fm))] ∧ H2 = H1 ∧ (fm.take 1 = [114] ∨ a ≤ 0) ∧ (fm.take 2 = [114, 114] ∨ b ≤ 0)) ?_ ?_
    · walk_at "go"
      refine M.x_slTo (j := 1) (by omega) ?_
      walk_at "go"
      have out : ¬ ((fm.take 1 = [114] ∨ a ≤ 0) ∧ (fm.take 2 = [114, 114] ∨ b ≤ 0)) → Q (.bl false) H1 := fun hn => by
        have := k H1 e1
        rw [← Bool.and_assoc, ← Bool.decide_and, decide_eq_false hn] at this
        exact this
      have bb : (fm.take 1 = [114] ∨ a ≤ 0) → M.ifB (decide (S (fm.take 1) ≠ Str.ofString "r")) True True → True := fun _ _ => trivial
      refine M.x_ifD (fun c2 => ?_) (fun c2 => ?_)
      · have c2 : fm.take 1 ≠ [114] := S_ne.mp c2
        walk_at "go"
        refine M.x_ifD (fun c3 => ?_) (fun c3 => ?_)
        · walk_at "go"
          exact out (fun z => z.1.elim (fun z => c2 z) (fun z => by omega))
        · walk_at "go"
          refine M.x_slTo (j := 2) (by omega) ?_
          walk_at "go"
          refine M.x_ifD (fun c4 => ?_) (fun c4 => ?_)
          · have c4 : fm.take 2 ≠ [114, 114] := S_ne.mp c4
            walk_at "go"
            refine M.x_ifD (fun c5 => ?_) (fun c5 => ?_)
            · walk_at "go"
              exact out (fun z => z.2.elim (fun z => c4 z) (fun z => by omega))
            · walk_at "go"
              exact ⟨rfl, rfl, .inr (by omega), .inr (by omega)⟩
          · have c4 : fm.take 2 = [114, 114] := S_inj (Decidable.not_not.mp c4)
            walk_at "go"
            exact ⟨rfl, rfl, .inr (by omega), .inl c4⟩
      · have c2 : fm.take 1 = [114] := S_inj (Decidable.not_not.mp c2)
        walk_at "go"
        refine M.x_slTo (j := 2) (by omega) ?_
        walk_at "go"
        refine M.x_ifD (fun c4 => ?_) (fun c4 => ?_)
        · have c4 : fm.take 2 ≠ [114, 114] := S_ne.mp c4
          walk_at "go"
          refine M.x_ifD (fun c5 => ?_) (fun c5 => ?_)
          · walk_at "go"
            exact out (fun z => z.2.elim (fun z => c4 z) (fun z => by omega))
          · walk_at "go"
            exact ⟨rfl, rfl, .inl c2, .inr (by omega)⟩
        · have c4 : fm.take 2 = [114, 114] := S_inj (Decidable.not_not.mp c4)
          walk_at "go"
          exact ⟨rfl, rfl, .inl c2, .inl c4⟩
    · rintro σ2 H2 ⟨rfl, rfl, k1, k2⟩
      rw [decide_eq_true k1, decide_eq_true k2, Bool.true_and, Bool.true_and] at k
      walk_at "go"
      intro q H3 nq e3 h3
      refine M.x_inL (.inl (.inl h3)) rfl rfl ?_
      rw [show [V.str (Str.ofString ""), V.str (Str.ofString "r"), V.str (Str.ofString "rr"), V.str (Str.ofString "r2")] = ([[], [114], [114, 114], [114, 50]] : List (List Nat)).map fun y => V.str (S y) from rfl, inV_S]
      refine M.x_isB ?_
      refine M.x_ifD (fun c3 => ?_) (fun c3 => ?_)
      · rw [if_pos c3] at k
        walk_at "go"
        exact k H3 (e1.trans e3)
      · rw [if_neg c3] at k
        walk_at "go"
        unfold tDGet2
        refine M.x_disp (fun p Ha np ea ha => ?_)
        walk_at "go"
        refine M.x_isDisp [(.inr "rrr", .int 8), (.inr "r7", .int 7), (.inr "r5", .int 5)] ha rfl (Nat.le_of_ble_eq_true rfl) (fun Hb eb hb => ?_)
        have hb : Hb p = some (.dK [(.inr "rrr", .int 8), (.inr "r7", .int 7), (.inr "r5", .int 5)]) := hb
        refine ⟨p, rfl, .inl ⟨_, .inl hb⟩, ?_⟩
        walk_at "go"
        have sab : Same H3 Hb := same_but np ea eb
        refine ⟨_, .inl ⟨_, .inr (S fm), .inl hb, rfl, rfl⟩, ?_⟩
        rw [vd_get]
        walk_at "go"
        exact k _ (e1.trans (e3.trans sab))
end asm14

end
section
section asm15
open SX
variable {P : Program} {w : World} {K : PySem.W.Frag} {mg : Str → Option Value} {base : Heap}
/-! ## the law's own line -/
theorem lg_tab : ∀ i : Nat, i < 26 →
    ((opE i).2.2.take 1 = [114] ↔ clsL.getD i 7 ≠ 0 ∧ clsL.getD i 7 ≠ 4) ∧
    ((opE i).2.2.take 2 = [114, 114] ↔ clsL.getD i 7 = 2 ∨ clsL.getD i 7 = 3 ∨ clsL.getD i 7 = 7) ∧
    ((opE i).2.2 ∈ ([[], [114], [114, 114], [114, 50]] : List (List Nat)) ↔ clsL.getD i 7 ≤ 2) ∧
    ((opE i).2.2 = [114, 114, 114] ↔ clsL.getD i 7 = 3) ∧ ((opE i).2.2 = [114, 55] ↔ clsL.getD i 7 = 5) ∧ ((opE i).2.2 = [114, 53] ↔ clsL.getD i 7 = 6) ∧ clsL.getD i 7 ≤ 7 := by decide
theorem lgM_cls {i : Nat} {a b c : Int} (hi : i < 26) (h : (0 ≤ a ∧ a < 8) ∧ (0 ≤ b ∧ b < 8) ∧ (0 ≤ c ∧ c < 16)) : lgM i a b c = clsF (clsL.getD i 7) a b c := by
  obtain ⟨t1, t2, t3, t4, t5, t6, t7⟩ := lg_tab i hi
  unfold lgM
  simp only [t1, t2, t3, t4, t5, t6, decide_eq_true hi]
  generalize clsL.getD i 7 = k at t7
  rw [Bool.eq_iff_iff]
  unfold clsF
  rcases (show k = 0 ∨ k = 1 ∨ k = 2 ∨ k = 3 ∨ k = 4 ∨ k = 5 ∨ k = 6 ∨ k = 7 by omega) with e | e | e | e | e | e | e | e <;> subst e <;> simp <;> omega
theorem legal_dec {x : Int} (h : 0 ≤ x ∧ x < 65536) : lgM (ixO x) (x / 128 % 8) (x / 16 % 8) (x % 16) = decide (decOk x) := by
  by_cases hi : ixO x < 26
  · rw [lgM_cls hi (flds_b x)]
    have := decOk_cls h.1
    by_cases c : clsF (clsL.getD (ixO x) 7) (x / 128 % 8) (x / 16 % 8) (x % 16) = true
    · rw [c, decide_eq_true (this.mpr ⟨hi, c⟩)]
    · rw [decide_eq_false (fun z => c (this.mp z).2)]
      exact (Bool.not_eq_true _).mp c
  · have : lgM (ixO x) (x / 128 % 8) (x / 16 % 8) (x % 16) = false := by unfold lgM; rw [decide_eq_false hi]; rfl
    rw [this, decide_eq_false (fun z => hi (ixO_lt z))]
def chk (i k : Nat) : Bool := match (opE i).2.2[k]? with
  | none => true
  | some c => if c = 114 then decide ((opE i).2.1[k]? = some 114) else decide ((opE i).2.1[k]? ≠ some 114) && (if c = 50 then decide (S (opE i).1 = "set") else decide (S (opE i).1 ≠ "set") && (if c = 116 then decide (S (opE i).1 ∈ brsL) else decide (S (opE i).1 ∉ brsL) && (decide (c = 115) == decide (S (opE i).1 = "addi"))))
theorem chk_ok : ∀ i : Nat, i < 26 → (opE i).2.2.length = (opE i).2.1.length ∧ chk i 0 = true ∧ chk i 1 = true ∧ chk i 2 = true ∧ (i = 1 ↔ S (opE i).1 = "set") := by decide
theorem chk_at {i k : Nat} (h : i < 26) (hk : k < 3) : chk i k = true := by
  obtain ⟨_, h0, h1, h2, _⟩ := chk_ok i h
  match k, hk with
  | 0, _ => exact h0
  | 1, _ => exact h1
  | 2, _ => exact h2
theorem szW_b (x : Int) : 1 ≤ szW x ∧ szW x ≤ 2 := by unfold szW; split <;> omega
theorem sum_le6 : ∀ (ys : List (List Nat)), (∀ y ∈ ys, y.length ≤ 6) → (ys.map List.length).sum ≤ 6 * ys.length
  | [], _ => Nat.le_refl _
  | y :: ys, h => by
    have ih := sum_le6 ys fun z m => h z (List.mem_cons_of_mem _ m)
    have := h y (List.mem_cons_self ..)
    rw [List.map_cons, List.sum_cons, List.length_cons]
    omega
theorem joinL_le : ∀ (ys : List (List Nat)), (TL.joinL [44, 32] ys).length ≤ (ys.map List.length).sum + ys.length * 2
  | [] => Nat.le_refl _
  | [y] => by show y.length ≤ _; rw [List.map_cons, List.sum_cons]; omega
  | y :: z :: zs => by
    have ih := joinL_le (z :: zs)
    have e1 : (TL.joinL [44, 32] (y :: z :: zs)).length = y.length + (2 + (TL.joinL [44, 32] (z :: zs)).length) := by show (y ++ ([44, 32] ++ TL.joinL [44, 32] (z :: zs))).length = _; rw [List.length_append, List.length_append]; rfl
    have e2 : ((y :: z :: zs).map List.length).sum = y.length + ((z :: zs).map List.length).sum := by rw [List.map_cons, List.sum_cons]
    have e3 : (y :: z :: zs).length = (z :: zs).length + 1 := rfl
    omega
theorem lnOs_ok {ws : List Int} {b : Int} {i : Nat} (hi : i < ws.length) (hw : ∀ i < ws.length, 0 ≤ wat ws i ∧ wat ws i < 65536) : (lnOs ws b i).length ≤ 3 ∧ ∀ o ∈ lnOs ws b i, o.ok := by
  unfold lnOs
  by_cases c : isI ws i
  · rw [if_pos c]
    unfold opdsF
    have ot := opT_ok _ (ixO_lt c.1)
    have y2 := c.2
    have sb := szW_b (wat ws i)
    refine ⟨by rw [List.length_map, List.length_range]; exact ot.2.2.1, fun o ho => ?_⟩
    obtain ⟨j, mj, rfl⟩ := List.mem_map.mp ho
    have mj := List.mem_range.mp mj
    exact opdF_ok (flds_b _) (dec_c8 (hw i hi).1 c.1) (hw _ (by omega)) (Nat.lt_of_lt_of_le mj ot.2.2.1)
  · rw [if_neg c]
    have := hw i hi
    refine ⟨by show 1 ≤ 3; decide, fun o ho => ?_⟩
    rw [List.mem_singleton] at ho
    subst ho
    exact numO_ok (by omega)
theorem lnOs_len {ws : List Int} {b : Int} {i : Nat} (hi : i < ws.length) (hw : ∀ i < ws.length, 0 ≤ wat ws i ∧ wat ws i < 65536) : (((lnOs ws b i).map opdS).map List.length).sum ≤ 18 ∧ (TL.joinL [44, 32] ((lnOs ws b i).map opdS)).length ≤ 24 := by
  obtain ⟨h1, h2⟩ := lnOs_ok (b := b) hi hw
  have s1 := sum_le6 ((lnOs ws b i).map opdS) fun y hy => by
    obtain ⟨o, ho, rfl⟩ := List.mem_map.mp hy
    exact opdS_len (h2 o ho)
  have s2 := joinL_le ((lnOs ws b i).map opdS)
  rw [List.length_map] at s1 s2
  omega
def sp_lline : Sp := fun vs H Q _ => ∃ (q : Addr) (i : Nat) (b : Int) (ws : List Int), vs = [.ref q, .int i, .int b] ∧ H q = some (.lst (ws.map V.int)) ∧ ws.length ≤ 1000 ∧ i < ws.length ∧ (∀ i < ws.length, 0 ≤ wat ws i ∧ wat ws i < 65536) ∧ ∀ H', Same H H' → Q (.str (S (lnTx ws b i))) H'
theorem go_lline {q : Addr} {i : Nat} {b : Int} {ws : List Int} {H : Hp} {Q : VK} {E : XK} (h : H q = some (.lst (ws.map V.int))) (hl : ws.length ≤ 1000) (hi : i < ws.length) (hw : ∀ i < ws.length, 0 ≤ wat ws i ∧ wat ws i < 65536) (k : ∀ H', Same H H' → Q (.str (S (lnTx ws b i))) H') : sp_lline [.ref q, .int i, .int b] H Q E := ⟨q, i, b, ws, rfl, h, hl, hi, hw, k⟩
abbrev M.N__law_line : List Str := ["words", "at", "base", "word", "op", "fields", "name", "form", "texts", "k"]
theorem sc__law_line : FnScope M.N__law_line ["words", "at", "base"] (defScope s__law_line) := ⟨rfl, rfl, rfl, by decide +kernel, rfl, by decide +kernel, by decide +kernel⟩
theorem ok__law_line (T : Tx P w K mg) : C8.Cal P w K mg base 3 "_law_line" sp_lline [] := by
  refine M.cal_mk T.f__law_line T.g__law_line sc__law_line (fun _ _ _ _ _ _ us hl => match us, hl with | [_, _, _], _ => rfl) (by rintro vs H Q E ⟨q, i, b, ws, rfl, _⟩; rfl) fun cdv A outer s H vs Q E hr h => ?_
  obtain ⟨q, i, b, ws, rfl, hq, hl, hi, hw, k⟩ := h
  refine ⟨_, (pss_cons (ps_set (i := 3) sc__law_line.nd rfl (Or.inl rfl) (pe_ix ix_list (pv 0) (pv 1) (fun _ _ => rfl))) (pss_cons (ps_set (i := 4) sc__law_line.nd rfl (Or.inl rfl) (pe_op op_fdiv (pv 3) pe_int)) (pss_cons (ps_set (i := 5) sc__law_line.nd rfl (Or.inl rfl) (pe_lst (pa_cons (pe_op op_mod (pe_op op_fdiv (pv 3) pe_int) pe_int) (pa_cons (pe_op op_mod (pe_op op_fdiv (pv 3) pe_int) pe_int) (pa_cons (pe_op op_mod (pe_callTy M.call_int (by rfl) T.b_int (by decide +kernel) (pa_cons (pv 3) pa_nil)) pe_int) pa_nil))))) (C8.pss_cut (ps_if (PW.pt (pw_or (pt_not (pt_val (C8.pe_c (ok__law_legal T) hr (by decide) (by rfl) (pa_cons (pv 4) (pa_cons (pe_ix ix_list (pv 5) pe_int (fun _ _ => rfl)) (pa_cons (pe_ix ix_list (pv 5) pe_int (fun _ _ => rfl)) (pa_cons (pe_ix ix_list (pv 5) pe_int (fun _ _ => rfl)) pa_nil))))))) (pw_or1 (PW.pt (pw_and (pt_cmpR op_eq (pv 4) pe_int (nomark _)) (pw_and1 (pt_cmpR op_eq (pe_op op_add (pv 1) pe_int) (pe_callB M.call_len (by rfl) T.b_len (by decide +kernel) (pa_cons (pv 0) pa_nil)) (nomark _)))))))) (pss_one (ps_ret (pe_op M.op_addS pe_str (pe_callTy M.call_strI (by rfl) T.b_str (by decide +kernel) (pa_cons (pv 3) pa_nil))))) pss_nil) (pss_cons (ps_asg (pe_ix ix_list (M.pe_c0 (ok__law_forms T) hr (by decide) (by rfl)) (pv 4) (fun _ _ => rfl)) (pg_tup rfl (pgs_cons (pg_name (i := 6) sc__law_line.nd rfl (Or.inl rfl)) (pgs_cons (pg_name (i := 7) sc__law_line.nd rfl (Or.inl rfl)) pgs_nil)))) (pss_cons (ps_set (i := 8) sc__law_line.nd rfl (Or.inl rfl) (pe_lst pa_nil)) (pss_cons (ps_for PassesOwn.never rfl (pi_range1 (by rfl) T.b_range (pa_cons (pe_callB M.call_lenS (by rfl) T.b_len (by decide +kernel) (pa_cons (pv 7) pa_nil)) pa_nil)) (pg_name (i := 9) sc__law_line.nd rfl (Or.inl rfl)) (pss_one (ps_if (pt_cmpR op_eq (pe_ix ix_str (pv 7) (pv 9) (fun _ _ => rfl)) pe_str (nomark _)) (pss_one (ps_expr (pe_bm PySem.F.plainAttrs_list PySem.F.slot_list_append PySem.F.type_list_append mt_append (pv 8) (pa_cons (pe_op M.op_addS pe_str (pe_callTy M.call_strI (by rfl) T.b_str (by decide +kernel) (pa_cons (pe_ix ix_list (pv 5) (pv 9) (fun _ _ => rfl)) pa_nil))) pa_nil)))) (pss_one (ps_if (pt_cmpR op_eq (pe_ix ix_str (pv 7) (pv 9) (fun _ _ => rfl)) pe_str (nomark _)) (pss_one (ps_expr (pe_bm PySem.F.plainAttrs_list PySem.F.slot_list_append PySem.F.type_list_append mt_append (pv 8) (pa_cons (pe_callTy M.call_strI (by rfl) T.b_str (by decide +kernel) (pa_cons (pe_ix ix_list (pv 0) (pe_op op_add (pv 1) pe_int) (fun _ _ => rfl)) pa_nil)) pa_nil)))) (pss_one (ps_if (pt_cmpR op_eq (pe_ix ix_str (pv 7) (pv 9) (fun _ _ => rfl)) pe_str (nomark _)) (pss_one (ps_expr (pe_bm PySem.F.plainAttrs_list PySem.F.slot_list_append PySem.F.type_list_append mt_append (pv 8) (pa_cons (pe_callTy M.call_strI (by rfl) T.b_str (by decide +kernel) (pa_cons (pe_op op_mod (pe_callTy M.call_int (by rfl) T.b_int (by decide +kernel) (pa_cons (pe_op op_sub (pe_op op_add (pe_op op_add (pv 2) (pv 1)) (pe_ix ix_list (pv 5) pe_int (fun _ _ => rfl))) pe_int) pa_nil)) pe_int) pa_nil)) pa_nil)))) (pss_one (ps_if (PW.pt (pw_and (pt_cmpR op_eq (pe_ix ix_str (pv 7) (pv 9) (fun _ _ => rfl)) pe_str (nomark _)) (pw_and1 (pt_cmpR op_gt (pe_ix ix_list (pv 5) pe_int (fun _ _ => rfl)) pe_int (nomark _))))) (pss_one (ps_expr (pe_bm PySem.F.plainAttrs_list PySem.F.slot_list_append PySem.F.type_list_append mt_append (pv 8) (pa_cons (pe_callTy M.call_strI (by rfl) T.b_str (by decide +kernel) (pa_cons (pe_op op_sub (pe_ix ix_list (pv 5) pe_int (fun _ _ => rfl)) pe_int) pa_nil)) pa_nil)))) (pss_one (ps_expr (pe_bm PySem.F.plainAttrs_list PySem.F.slot_list_append PySem.F.type_list_append mt_append (pv 8) (pa_cons (pe_callTy M.call_strI (by rfl) T.b_str (by decide +kernel) (pa_cons (pe_ix ix_list (pv 5) pe_int (fun _ _ => rfl)) pa_nil)) pa_nil))))))))))))) (pss_cons (ps_if (pt_not (M.pt_tru (pv 8))) (pss_one (ps_ret (pv 6))) pss_nil) (pss_one (ps_ret (pe_op M.op_addS (pe_op M.op_addS (pv 6) pe_str) (pe_join pe_str (pv 8))))))))))))), ?_⟩
  refine M.x_st (σ0 := [some _, some _, some _, none, none, none, none, none, none, none]) rfl ?_
  walk_at "kk"
  have hx := wat_at hi
  have hwi := hw i hi
  walk_at "go"
  intro fl H1 nfl e1 h1
  have eo : (wat ws i / 1024).toNat = ixO (wat ws i) := rfl
  have hq1 := e1 _ _ hq
  walk_at "go"
  have nl : (numS (wat ws i)).length ≤ 5 := by unfold numS; rw [if_pos hwi.1]; exact numL_le (by omega)
  have wout : ∀ H' : Hp, Same H H' → ¬ isI ws i → M.rStrI [V.int (wat ws i)] H' fun y H2 => M.rAddZ (V.str (Str.ofString "word ")) y H2 Q := fun H' e ni => by
    refine x_strZ (by omega) ?_
    refine M.x_addS (a := [119, 111, 114, 100, 32]) (by show 5 + _ ≤ _; omega) ?_
    have := k H' e
    rw [lnTx_word ni] at this
    exact this
  refine M.x_cut (fun σ2 H3 => σ2 = [some (.ref q), some (.int i), some (.int b), some (.int (wat ws i)), some (.int (wat ws i / 1024)), some (.ref fl), none, none, none, none] ∧ Same H1 H3 ∧ isI ws i) ?_ ?_
  · walk_at "go"
    refine go_llegal (by omega) (fun H2 e2 => ?_)
    rw [eo, legal_dec hwi]
    have hq2 := e2 _ _ hq1
    have e02 := e1.trans e2
    have hset : decOk (wat ws i) → ((wat ws i / 1024 = 1) ↔ opOf (wat ws i) = "set") := fun yd => by
      have := (chk_ok _ (ixO_lt yd)).2.2.2.2
      rw [← opL_S yd]
      refine Iff.trans ?_ this
      unfold ixO
      omega
    refine M.x_isB ?_
    refine M.x_ifN (fun c1 => ?_) (fun c1 => ?_)
    · walk_at "go"
      exact wout H2 e02 (fun z => c1 z.1)
    · walk_at "go"
      refine M.x_ifD (fun c2 => ?_) (fun c2 => ?_)
      · walk_at "go"
        refine M.x_ifD (fun c3 => ?_) (fun c3 => ?_)
        · walk_at "go"
          exact wout H2 e02 (fun z => by have := z.2; unfold szW at this; rw [if_pos ((hset c1).mp c2)] at this; omega)
        · walk_at "go"
          exact ⟨rfl, e2, c1, by unfold szW; split <;> omega⟩
      · walk_at "go"
        exact ⟨rfl, e2, c1, by unfold szW; rw [if_neg (fun z => c2 ((hset c1).mpr z))]; omega⟩
  · rintro σ2 H3 ⟨rfl, e3, yi⟩
    have yd := yi.1
    have y2 := yi.2
    have iL := ixO_lt yd
    obtain ⟨ck0, -, -, -, ck4⟩ := chk_ok _ iL
    have fl3 := opE_len _ iL
    have hck : ∀ j, j < 3 → chk (ixO (wat ws i)) j = true := fun j hj => chk_at iL hj
    walk_at "go"
    refine go_lforms (fun p H4 e4 f4 => ?_)
    walk_at "go"
    obtain ⟨xs, p1, g1, g2, g3⟩ := f4.at (i := wat ws i / 1024) (by unfold ixO at iL; omega)
    rw [eo] at g3
    obtain ⟨fm, hfm⟩ : ∃ fm, (opE (ixO (wat ws i))).2.2 = fm := ⟨_, rfl⟩
    rw [hfm] at g3 fl3 ck0
    walk_at "go"
    intro t H5 nt e5 h5
    have ex5 : Same H H5 := e1.trans (e3.trans (e4.trans e5))
    have tfl : t ≠ fl := fun z => by rw [z, e4 _ _ (e3 _ _ h1)] at nt; cases nt
    have tq : t ≠ q := fun z => by rw [z, e4 _ _ (e3 _ _ hq1)] at nt; cases nt
    have nt0 : H t = none := (e1.trans (e3.trans e4)).free nt
    have hfl5 := e5 _ _ (e4 _ _ (e3 _ _ h1))
    have hq5 := e5 _ _ (e4 _ _ (e3 _ _ hq1))
    have ot := opT_ok _ iL
    obtain ⟨F, hF⟩ : ∃ F, opdF (S (opL (wat ws i))) (fmL (wat ws i)) (wat ws i / 128 % 8) (wat ws i / 16 % 8) (wat ws i % 16) (wat ws (i + szW (wat ws i) - 1)) (b + i) = F := ⟨_, rfl⟩
    obtain ⟨opn, hopn⟩ : ∃ o, (opE (ixO (wat ws i))).1 = o := ⟨_, rfl⟩
    have hopL : opL (wat ws i) = opn := hopn
    have hset : opOf (wat ws i) = S opn := by rw [← opL_S yd, hopL]
    rw [hopn]
    have fb := flds_b (wat ws i)
    have hsec : 0 ≤ wat ws (i + szW (wat ws i) - 1) ∧ wat ws (i + szW (wat ws i) - 1) < 65536 := hw _ (by have sb := szW_b (wat ws i); omega)
    walk_at "go"
    refine M.x_isForR (n := (fm.length : Int)) ⟨by omega, by omega⟩ (fun j σ' H' => ∃ v9 : Option V, σ' = [some (.ref q), some (.int i), some (.int b), some (.int (wat ws i)), some (.int (wat ws i / 1024)), some (.ref fl), some (.str (S opn)), some (.str (S fm)), some (.ref t), v9] ∧ Same H H' ∧ H' fl = some (.lst [V.int (wat ws i / 128 % 8), V.int (wat ws i / 16 % 8), V.int (wat ws i % 16)]) ∧ H' q = some (.lst (ws.map V.int)) ∧ H' t = some (.lst ((List.range j).map fun n => V.str (S (opdS (F n))))))
      ⟨_, rfl, ex5, hfl5, hq5, h5⟩ ?_ ?_
    · rintro j σ' H' hj ⟨v9, rfl, ex, hfl, hqq, ht⟩
      have jl : j < fm.length := by omega
      have j3 : j < 3 := by omega
      have hx9 : fm[j]? = some fm[j] := List.getElem?_eq_getElem jl
      obtain ⟨cc, hcc⟩ : ∃ cc, fm[j] = cc := ⟨_, rfl⟩
      rw [hcc] at hx9
      have ck := hck j j3
      unfold chk at ck
      rw [hfm, hx9, hopn] at ck
      dsimp only at ck
      have more : ∀ (o : Opd), F j = o → rAppend (.ref t) [.str (S (opdS o))] H' fun _ H4 => ∃ v9 : Option V, [some (.ref q), some (.int i), some (.int b), some (.int (wat ws i)), some (.int (wat ws i / 1024)), some (.ref fl), some (.str (S opn)), some (.str (S fm)), some (.ref t), some (.int (j : Int))] = [some (.ref q), some (.int i), some (.int b), some (.int (wat ws i)), some (.int (wat ws i / 1024)), some (.ref fl), some (.str (S opn)), some (.str (S fm)), some (.ref t), v9] ∧ Same H H4 ∧ H4 fl = some (.lst [V.int (wat ws i / 128 % 8), V.int (wat ws i / 16 % 8), V.int (wat ws i % 16)]) ∧ H4 q = some (.lst (ws.map V.int)) ∧ H4 t = some (.lst ((List.range (j + 1)).map fun n => V.str (S (opdS (F n))))) := fun o ho => by
        refine M.x_append ht (by rw [List.length_map, List.length_range]; omega) (fun H4 e4 h4 => ⟨_, rfl, fun x y hb => e4.at1 (fun z => by rw [z, nt0] at hb; cases hb) (ex _ _ hb), e4.at1 tfl.symm hfl, e4.at1 tq.symm hqq, ?_⟩)
        rw [h4, List.range_succ, List.map_append, ← ho]
        rfl
      have num : ∀ (n : Int) (σ : L2.St) (R : V → List V → Hp → Prop), F j = numO n → True := fun _ _ _ _ => trivial
      have S1 : ∀ d : Nat, (S [cc] = S [d]) ↔ cc = d := fun d => S_one
      walk_at "go"
      refine M.x_ifD (fun c1 => ?_) (fun c1 => ?_)
      · have c1 : cc = 114 := S_one.mp c1
        rw [if_pos c1] at ck
        have hf : (fmL (wat ws i))[j]? = some 114 := of_decide_eq_true ck
        have hoF : F j = .reg (([wat ws i / 128 % 8, wat ws i / 16 % 8, wat ws i % 16] : List Int).getD j 0).toNat := by rw [← hF]; unfold opdF; rw [if_pos hf]
        have c8 : (fmL (wat ws i))[2]? = some 114 → wat ws i % 16 < 8 := dec_c8 hwi.1 yd
        have gb : 0 ≤ (([wat ws i / 128 % 8, wat ws i / 16 % 8, wat ws i % 16] : List Int).getD j 0) ∧ (([wat ws i / 128 % 8, wat ws i / 16 % 8, wat ws i % 16] : List Int).getD j 0) < 8 := by
          match j, j3, hf with
          | 0, _, _ => exact fb.1
          | 1, _, _ => exact fb.2.1
          | 2, _, hf => exact ⟨fb.2.2.1, c8 hf⟩
        have ai : atI [V.int (wat ws i / 128 % 8), V.int (wat ws i / 16 % 8), V.int (wat ws i % 16)] (j : Int) = some (.int (([wat ws i / 128 % 8, wat ws i / 16 % 8, wat ws i % 16] : List Int).getD j 0)) := by
          refine M.atI_of (v := V.int _) (by omega) ?_
          rw [Int.toNat_natCast]
          match j, j3 with
          | 0, _ => rfl
          | 1, _ => rfl
          | 2, _ => rfl
        walk_at "go"
        refine x_strZ (by omega) ?_
        have eS : ∀ x : Int, 0 ≤ x → x < 8 → numS x = [48 + x.toNat] := fun x x0 x8 => by
          unfold numS
          rw [if_pos x0, TL.numL_lt (by omega)]
        rw [eS _ gb.1 gb.2]
        refine M.x_addS (a := [114]) (by show 1 + 1 ≤ _; decide) ?_
        walk_at "go"
        exact more _ hoF
      · have c1 : cc ≠ 114 := fun z => c1 (by rw [z]; rfl)
        rw [if_neg c1, Bool.and_eq_true] at ck
        obtain ⟨ck1, ck⟩ := ck
        have hf : (fmL (wat ws i))[j]? ≠ some 114 := of_decide_eq_true ck1
        have hoF : F j = if S opn = "set" then numO (wat ws (i + szW (wat ws i) - 1)) else numO (fieldT (S opn) (wat ws i % 16) (b + i)) := by rw [← hF]; unfold opdF; rw [if_neg hf, hopL]
        walk_at "go"
        refine M.x_ifD (fun c2 => ?_) (fun c2 => ?_)
        · have c2 : cc = 50 := S_one.mp c2
          rw [if_pos c2] at ck
          have hs := of_decide_eq_true ck
          rw [if_pos hs] at hoF
          have sz : szW (wat ws i) = 2 := by unfold szW; rw [if_pos (by rw [hset]; exact hs)]
          rw [sz] at hoF y2 hsec
          have ea : atI (ws.map V.int) ((i : Int) + 1) = some (.int (wat ws (i + 2 - 1))) := by
            rw [show (i : Int) + 1 = ((i + 2 - 1 : Nat) : Int) by omega]
            exact wat_at (by omega)
          walk_at "go"
          refine x_strZ (by omega) ?_
          rw [← numO_S]
          walk_at "go"
          exact more _ hoF
        · have c2 : cc ≠ 50 := fun z => c2 (by rw [z]; rfl)
          rw [if_neg c2, Bool.and_eq_true] at ck
          obtain ⟨ck1, ck⟩ := ck
          rw [if_neg (of_decide_eq_true ck1)] at hoF
          unfold fieldT at hoF
          walk_at "go"
          refine M.x_ifD (fun c3 => ?_) (fun c3 => ?_)
          · have c3 : cc = 116 := S_one.mp c3
            rw [if_pos c3] at ck
            rw [if_pos (of_decide_eq_true ck)] at hoF
            walk_at "go"
            refine x_strZ (by omega) ?_
            rw [← numO_S]
            walk_at "go"
            exact more _ hoF
          · have c3 : cc ≠ 116 := fun z => c3 (by rw [z]; rfl)
            rw [if_neg c3, Bool.and_eq_true] at ck
            obtain ⟨ck1, ck⟩ := ck
            rw [if_neg (of_decide_eq_true ck1)] at hoF
            have ck : (cc = 115) ↔ (S opn = "addi") := by
              rw [beq_iff_eq, decide_eq_decide] at ck
              exact ck
            have fin2 : numO (wat ws i % 16) = numO (wat ws i % 16) := rfl
            walk_at "go"
            refine M.x_ifD (fun c4 => ?_) (fun c4 => ?_)
            · have c4 : cc = 115 := S_one.mp c4
              walk_at "go"
              refine M.x_ifD (fun c5 => ?_) (fun c5 => ?_)
              · rw [if_pos ⟨ck.mp c4, by omega⟩] at hoF
                walk_at "go"
                refine x_strZ (by omega) ?_
                rw [← numO_S]
                walk_at "go"
                exact more _ hoF
              · rw [if_neg (fun z => by omega)] at hoF
                walk_at "go"
                refine x_strZ (by omega) ?_
                rw [← numO_S]
                walk_at "go"
                exact more _ hoF
            · have c4 : cc ≠ 115 := fun z => c4 (by rw [z]; rfl)
              rw [if_neg (fun z => c4 (ck.mpr z.1))] at hoF
              walk_at "go"
              refine x_strZ (by omega) ?_
              rw [← numO_S]
              walk_at "go"
              exact more _ hoF
    · rintro σ' H' ⟨v9, rfl, ex, hfl, hqq, ht⟩
      rw [Int.toNat_natCast] at ht
      walk_at "go"
      have eL : ((List.range fm.length).map fun n => V.str (S (opdS (F n)))) = ((lnOs ws b i).map opdS).map fun y => V.str (S y) := by
        unfold lnOs
        rw [if_pos ⟨yd, y2⟩]
        unfold opdsF
        rw [hF, List.map_map, List.map_map, show (fmL (wat ws i)).length = fm.length from ck0.symm]
        rfl
      have lO : (lnOs ws b i).length = fm.length := by
        have := congrArg List.length eL
        rw [List.length_map, List.length_range, List.length_map, List.length_map] at this
        exact this.symm
      have kk := k H' ex
      have eT : lnTx ws b i = opn ++ ((if lnOs ws b i = [] then [] else [32]) ++ TL.joinL [44, 32] ((lnOs ws b i).map opdS)) := by
        unfold lnTx txtF lnOp
        rw [if_pos ⟨yd, y2⟩, hopL]
      rw [eL] at ht ⊢
      by_cases z : lnOs ws b i = []
      · rw [z] at ht ⊢
        refine M.x_ifT ?_
        walk_at "go"
        rw [eT, z] at kk
        have : opn ++ ((if ([] : List Opd) = [] then [] else [32]) ++ TL.joinL [44, 32] (([] : List Opd).map opdS)) = opn := by rw [if_pos rfl]; show opn ++ ([] ++ []) = opn; rw [List.append_nil, List.append_nil]
        rw [this] at kk
        exact kk
      · rw [eT, if_neg z] at kk
        have zz : (((lnOs ws b i).map opdS).map fun y => V.str (S y)).isEmpty = false := by
          cases hh : lnOs ws b i with
          | nil => exact absurd hh z
          | cons _ _ => rfl
        rw [zz]
        walk_at "go"
        have on10 := ot.2.2.2.1
        rw [hopn] at on10
        obtain ⟨s18, j24⟩ := lnOs_len (b := b) hi hw
        refine M.x_addS (b := [32]) (by show _ + 1 ≤ _; omega) ?_
        walk_at "go"
        refine M.x_join2 (K := K) (Q := fun y H2 => M.rAddZ (V.str (S (opn ++ [32]))) y H2 Q) ht (by rw [List.length_map, lO]; omega) ?_
        refine M.x_addS (by rw [List.length_append]; show _ + 1 + _ ≤ _; omega) ?_
        rw [List.append_assoc]
        exact kk
end asm15

end
section
section asm16
open SX
/-! ## plain: what is listed is read back -/
theorem chr_t1 : ∀ c : Nat, c < 128 → (97 ≤ c ∧ c ≤ 122 → inZ LETS c = true ∧ inZ NMS c = true ∧ inZ SPS c = false) := by decide
theorem chr_t2 : ∀ c : Nat, c < 128 → (48 ≤ c ∧ c ≤ 57 → inZ LETS c = false ∧ inZ DIGS c = true ∧ inZ NMS c = true ∧ inZ SPS c = false) := by decide
theorem chr_t3 : ∀ c : Nat, c < 128 → (c = 32 ∨ c = 44 → inZ NMS c = false ∧ inZ DIGS c = false ∧ inZ LUS c = false) := by decide
theorem chr_t4 : ∀ c : Nat, c < 128 → (c = 44 ∨ c = 45 → inZ LETS c = false ∧ inZ DIGS c = false ∧ inZ MRKS c = true ∧ inZ SPS c = false) := by decide
theorem chr_t5 : ∀ c : Nat, c < 128 → (c = 32 → inZ SPS c = true) := by decide
theorem chr_tab (c : Nat) (h : c < 128) :
    ((97 ≤ c ∧ c ≤ 122 → inZ LETS c = true ∧ inZ NMS c = true ∧ inZ SPS c = false) ∧
    (48 ≤ c ∧ c ≤ 57 → inZ LETS c = false ∧ inZ DIGS c = true ∧ inZ NMS c = true ∧ inZ SPS c = false) ∧
    (c = 32 ∨ c = 44 → inZ NMS c = false ∧ inZ DIGS c = false ∧ inZ LUS c = false) ∧
    (c = 44 ∨ c = 45 → inZ LETS c = false ∧ inZ DIGS c = false ∧ inZ MRKS c = true ∧ inZ SPS c = false) ∧ (c = 32 → inZ SPS c = true)) := ⟨chr_t1 c h, chr_t2 c h, chr_t3 c h, chr_t4 c h, chr_t5 c h⟩
theorem runF_all {z : Str} {rest : List Nat} (hr : ∀ c, rest.head? = some c → inZ z c = false) : ∀ {l : List Nat}, (∀ c ∈ l, inZ z c = true) → runF (l ++ rest) z = l.length
  | [], _ => by
    cases rest with
    | nil => rfl
    | cons c r => exact runF_stop (hr c rfl)
  | c :: l, h => by
    show runF (c :: (l ++ rest)) z = _
    rw [runF_cons (h c (List.mem_cons_self ..)), runF_all hr fun d hd => h d (List.mem_cons_of_mem _ hd)]
    rfl
def Sep (rest : List Nat) : Prop := ∀ c, rest.head? = some c → c = 32 ∨ c = 44
theorem Sep.nm {rest : List Nat} (h : Sep rest) : ∀ c, rest.head? = some c → inZ NMS c = false ∧ inZ DIGS c = false ∧ inZ LUS c = false := fun c hc => (chr_tab c (by rcases h c hc with e | e <;> omega)).2.2.1 (h c hc)
def Low (l : List Nat) : Prop := ∀ c ∈ l, 97 ≤ c ∧ c ≤ 122
theorem tk_name {c : Nat} {p rest : List Nat} (h0 : 97 ≤ c ∧ c ≤ 122) (hp : ∀ d ∈ p, (97 ≤ d ∧ d ≤ 122) ∨ (48 ≤ d ∧ d ≤ 57)) (hs : Sep rest) (hl : p.length ≤ 23) : Tok1 ((c :: p) ++ rest) "name" (c :: p).length := by
  refine Tok1.name ((chr_tab c (by omega)).1 h0).1 (runF_all (l := c :: p) (fun d hd => (hs.nm d hd).1) fun d hd => ?_) (by rw [List.length_cons]; omega)
  rcases List.mem_cons.mp hd with e | e
  · rw [e]; exact ((chr_tab c (by omega)).1 h0).2.1
  · rcases hp d e with q | q
    · exact ((chr_tab d (by omega)).1 q).2.1
    · exact ((chr_tab d (by omega)).2.1 q).2.2.1
theorem numL_head : ∀ v : Nat, (TL.numL v)[0]? = some 48 → v = 0 := fun v => by
  induction v using Nat.strongRecOn with
  | _ v ih =>
    intro h
    by_cases c : v < 10
    · rw [TL.numL_lt c] at h
      have : 48 + v = 48 := Option.some.inj h
      omega
    · rw [TL.numL_step (by omega)] at h
      have ne := TL.numL_ne (v / 10)
      rw [List.getElem?_append_left (List.length_pos_iff.mpr ne)] at h
      have := ih (v / 10) (by omega) h
      omega
theorem numL_d {v c : Nat} (h : c ∈ TL.numL v) : 48 ≤ c ∧ c ≤ 57 := by
  have := List.all_eq_true.mp (numL_all v) c h
  rw [Bool.and_eq_true] at this
  exact ⟨of_decide_eq_true this.1, of_decide_eq_true this.2⟩
theorem tk_numTok {v : Nat} {rest : List Nat} (hv : v ≤ 65535) (hs : Sep rest) : NumTok (TL.numL v ++ rest) (TL.numL v).length := by
  have ne := List.length_pos_iff.mpr (TL.numL_ne v)
  have et : (TL.numL v ++ rest).take (TL.numL v).length = TL.numL v := List.take_left
  refine ⟨runF_all (fun c hc => (hs.nm c hc).2.1) (fun c hc => ((chr_tab c (by have := numL_d hc; omega)).2.1 (numL_d hc)).2.1), ⟨ne, numL_le hv⟩, fun h => ?_, fun c hc => ?_, ?_, ?_⟩
  · rw [List.getElem?_append_left ne] at h
    have := numL_head v h
    subst this
    rfl
  · rw [List.getElem?_append_right (Nat.le_refl _), Nat.sub_self, ← List.head?_eq_getElem?] at hc
    exact (hs.nm c hc).2.2
  · rw [et, TL.numL_val]; exact hv
  · rw [et]; exact numL_all v
theorem tk_num {v : Nat} {rest : List Nat} (hv : v ≤ 65535) (hs : Sep rest) : Tok1 (TL.numL v ++ rest) "number" (TL.numL v).length := by
  have nt := tk_numTok hv hs
  cases hn : TL.numL v with
  | nil => exact absurd hn (TL.numL_ne v)
  | cons c p =>
    rw [hn] at nt
    have hc : 48 ≤ c ∧ c ≤ 57 := numL_d (by rw [hn]; exact List.mem_cons_self ..)
    have t := (chr_tab c (by omega)).2.1 hc
    exact Tok1.num t.1 t.2.1 nt
/-- one token at the head -/
theorem tk_put {p rest : List Nat} {k : Str} {i sp : Nat} {ts : List Tok} (ht : Tok1 (p ++ rest) k p.length) (h59 : ∀ c, p.head? = some c → c ≠ 59) (hsp : runF rest SPS = sp) (h : TkL (i + p.length + sp) (rest.drop sp) ts) : TkL i (p ++ rest) (⟨i + 1, k, p⟩ :: ts) := by
  cases p with
  | nil => exact absurd ht.le.1 (by decide)
  | cons c p =>
    have e1 : ((c :: p) ++ rest).drop (c :: p).length = rest := List.drop_left
    have e2 : ((c :: p) ++ rest).take (c :: p).length = c :: p := List.take_left
    have := TkL.tok (i := i) (c := c) (r := p ++ rest) (k := k) (n := (c :: p).length) (ts := ts) (h59 c rfl) ht (by
      show TkL (i + (c :: p).length + runF (((c :: p) ++ rest).drop (c :: p).length) SPS) (((c :: p) ++ rest).drop ((c :: p).length + runF (((c :: p) ++ rest).drop (c :: p).length) SPS)) ts
      rw [e1, hsp, ← List.drop_drop, e1]
      exact h)
    rw [show (c :: (p ++ rest)) = (c :: p) ++ rest from rfl, e2] at this
    exact this
def opdToks (i : Nat) : Opd → List Tok
  | .reg r => [⟨i + 1, "name", regS r⟩]
  | .num false v => [⟨i + 1, "number", TL.numL v⟩]
  | .num true v => [⟨i + 1, "mark", [45]⟩, ⟨i + 2, "number", TL.numL v⟩]
def opsToks : Nat → List Opd → List Tok
  | _, [] => []
  | i, [o] => opdToks i o
  | i, o :: p :: os => opdToks i o ++ ⟨i + (opdS o).length + 1, "mark", [44]⟩ :: opsToks (i + (opdS o).length + 2) (p :: os)
theorem opdToks_len (i : Nat) (o : Opd) : (opdToks i o).length = o.wid := by
  match o with
  | .reg _ => rfl
  | .num false _ => rfl
  | .num true _ => rfl
def Nxt (rest : List Nat) : Prop := ∀ c, rest.head? = some c → c = 44
theorem Nxt.sp {rest : List Nat} (h : Nxt rest) : runF rest SPS = 0 := runF_all (l := []) (fun c hc => ((chr_tab c (by rw [h c hc]; decide)).2.2.2.1 (.inl (h c hc))).2.2.2) (fun c hc => absurd hc List.not_mem_nil)
theorem tk_opd {o : Opd} (ok : o.ok) {i : Nat} {rest : List Nat} {ts : List Tok} (hn : Nxt rest) (h : TkL (i + (opdS o).length) rest ts) : TkL i (opdS o ++ rest) (opdToks i o ++ ts) := by
  have hs : Sep rest := fun c hc => .inr (hn c hc)
  have n59 : ∀ {v c : Nat}, (TL.numL v).head? = some c → c ≠ 59 := fun {v c} hc => by
    have : c ∈ TL.numL v := List.mem_of_head? hc
    have := numL_d this
    omega
  match o, ok, h with
  | .reg r, ok, h =>
    have ok : r < 8 := ok
    exact tk_put (p := regS r) (tk_name (p := [48 + r]) ⟨by decide, by decide⟩ (fun d hd => by rw [List.mem_singleton] at hd; omega) hs (by show 1 ≤ 23; decide)) (fun c hc => by have : 114 = c := Option.some.inj hc; omega) hn.sp h
  | .num false v, ok, h => exact tk_put (p := TL.numL v) (tk_num ok hs) (fun c hc => n59 hc) hn.sp h
  | .num true v, ok, h =>
    have hd : ∀ c, (TL.numL v ++ rest).head? = some c → 48 ≤ c ∧ c ≤ 57 := fun c hc => by
      cases hnv : TL.numL v with
      | nil => exact absurd hnv (TL.numL_ne v)
      | cons d p =>
        rw [hnv] at hc
        have : d = c := Option.some.inj hc
        subst this
        exact numL_d (v := v) (by rw [hnv]; exact List.mem_cons_self ..)
    have s0 : runF (TL.numL v ++ rest) SPS = 0 := runF_all (l := []) (fun c hc => ((chr_tab c (by have := hd c hc; omega)).2.1 (hd c hc)).2.2.2) (fun c hc => absurd hc List.not_mem_nil)
    have l1 : (opdS (.num true v)).length = 1 + (TL.numL v).length := by show ([45] ++ TL.numL v).length = _; rw [List.length_append]; rfl
    have t45 := (chr_tab 45 (by decide)).2.2.2.1 (.inr rfl)
    refine tk_put (p := [45]) (rest := TL.numL v ++ rest) (sp := 0) (Tok1.mark t45.1 t45.2.1 t45.2.2.1) (fun c hc => by have : 45 = c := Option.some.inj hc; omega) s0 ?_
    refine tk_put (p := TL.numL v) (sp := 0) (tk_num ok hs) (fun c hc => n59 hc) hn.sp ?_
    rw [l1, ← Nat.add_assoc] at h
    exact h
theorem opdS_head {o : Opd} (ok : o.ok) : ∃ c r, opdS o = c :: r ∧ c < 128 ∧ inZ SPS c = false := by
  match o, ok with
  | .reg r, _ => exact ⟨114, _, rfl, by decide, ((chr_tab 114 (by decide)).1 (by decide)).2.2⟩
  | .num true v, _ => exact ⟨45, _, rfl, by decide, ((chr_tab 45 (by decide)).2.2.2.1 (.inr rfl)).2.2.2⟩
  | .num false v, _ =>
    cases hnv : TL.numL v with
    | nil => exact absurd hnv (TL.numL_ne v)
    | cons d p =>
      have hd := numL_d (v := v) (c := d) (by rw [hnv]; exact List.mem_cons_self ..)
      exact ⟨d, p, hnv, by omega, ((chr_tab d (by omega)).2.1 hd).2.2.2⟩
theorem ops_sp {o : Opd} {os : List Opd} (ok : o.ok) : runF (TL.joinL [44, 32] ((o :: os).map opdS)) SPS = 0 := by
  obtain ⟨c, r, e, _, hc⟩ := opdS_head ok
  cases os with
  | nil => show runF (opdS o) SPS = 0; rw [e]; exact runF_stop hc
  | cons p os => show runF (opdS o ++ _) SPS = 0; rw [e]; exact runF_stop hc
theorem tk_ops : ∀ (os : List Opd), (∀ o ∈ os, o.ok) → ∀ i, TkL i (TL.joinL [44, 32] (os.map opdS)) (opsToks i os)
  | [], _, i => TkL.nil
  | [o], h, i => by
    have := tk_opd (h o (List.mem_cons_self ..)) (i := i) (rest := []) (ts := []) (fun c hc => by cases hc) TkL.nil
    rw [List.append_nil, List.append_nil] at this
    exact this
  | o :: p :: os, h, i => by
    have hp : p.ok := h p (List.mem_cons_of_mem _ (List.mem_cons_self ..))
    have ih := tk_ops (p :: os) (fun x hx => h x (List.mem_cons_of_mem _ hx)) (i + (opdS o).length + 2)
    refine tk_opd (h o (List.mem_cons_self ..)) (rest := [44, 32] ++ TL.joinL [44, 32] ((p :: os).map opdS)) (fun c hc => by have : 44 = c := Option.some.inj hc; omega) ?_
    have t44 := (chr_tab 44 (by decide)).2.2.2.1 (.inl rfl)
    have t32 := (chr_tab 32 (by decide)).2.2.2.2 rfl
    refine tk_put (p := [44]) (rest := 32 :: TL.joinL [44, 32] ((p :: os).map opdS)) (sp := 1) (Tok1.mark t44.1 t44.2.1 t44.2.2.1) (fun c hc => by have : 44 = c := Option.some.inj hc; omega) ?_ ih
    rw [runF_cons t32, ops_sp hp]
def lineToks (op : List Nat) (os : List Opd) : List Tok := ⟨1, "name", op⟩ :: opsToks (op.length + 1) os
theorem tk_line {op : List Nat} {os : List Opd} (lo : Low op) (ne : op ≠ []) (l : op.length ≤ 23) (ok : ∀ o ∈ os, o.ok) : toksOk (txtF op os) (lineToks op os) := by
  cases op with
  | nil => exact absurd rfl ne
  | cons c p =>
    have hc := lo c (List.mem_cons_self ..)
    have tc := (chr_tab c (by omega)).1 hc
    have e0 : runF (txtF (c :: p) os) SPS = 0 := runF_stop tc.2.2
    unfold toksOk
    rw [e0, List.drop_zero]
    have t1 : ∀ rest, Sep rest → Tok1 ((c :: p) ++ rest) "name" (c :: p).length := fun rest hs => tk_name hc (fun d hd => .inl (lo d (List.mem_cons_of_mem _ hd))) hs (by rw [List.length_cons] at l; omega)
    have h59 : ∀ d, (c :: p).head? = some d → d ≠ 59 := fun d hd => by have : c = d := Option.some.inj hd; omega
    unfold txtF lineToks
    cases os with
    | nil =>
      exact tk_put (i := 0) (p := c :: p) (sp := 0) (t1 _ (fun d hd => by cases hd)) h59 rfl TkL.nil
    | cons o os =>
      have t32 := (chr_tab 32 (by decide)).2.2.2.2 rfl
      have tk := tk_ops (o :: os) ok ((c :: p).length + 1)
      rw [if_neg (List.cons_ne_nil _ _)]
      refine tk_put (i := 0) (p := c :: p) (sp := 1) (t1 _ (fun d hd => by have : 32 = d := Option.some.inj hd; omega)) h59 ?_ ?_
      · show runF (32 :: TL.joinL [44, 32] ((o :: os).map opdS)) SPS = 1
        rw [runF_cons t32, ops_sp (ok o (List.mem_cons_self ..))]
      · rw [Nat.zero_add]
        exact tk
end asm16

end
section
section asm17
open SX
/-! ## the tokens of a printed line stand as read_line wants them -/
theorem posn_cons {o : Opd} {os : List Opd} {k : Nat} : posn (o :: os) (k + 1) = (o.wid + 1) + posn os k := by
  unfold posn
  rw [List.take_succ_cons, List.map_cons, List.sum_cons]
theorem opT_at {pre more : List Tok} {i : Nat} {o : Opd} : OpT (pre ++ (opdToks i o ++ more)) pre.length o := by
  have key : ∀ (k : Nat) (t : Tok), (opdToks i o)[k]? = some t → (pre ++ (opdToks i o ++ more))[pre.length + k]? = some t := fun k t h => by
    rw [List.getElem?_append_right (by omega), Nat.add_sub_cancel_left, List.getElem?_append_left (List.getElem?_eq_some_iff.mp h).1]
    exact h
  match o, key with
  | .reg r, key => exact ⟨_, key 0 _ rfl⟩
  | .num false v, key => exact ⟨_, key 0 _ rfl⟩
  | .num true v, key => exact ⟨_, _, key 0 _ rfl, key 1 _ rfl⟩
theorem lineT_ops : ∀ (os : List Opd), (∀ o ∈ os, o.ok) → ∀ (pre : List Tok) (i : Nat), LineT (pre ++ opsToks i os) pre.length os
  | [], _, pre, i => ⟨fun k o h => (by cases h), fun k o h => (by cases h), by rw [if_pos rfl]; show (pre ++ []).length = pre.length + 0 - 0; rw [List.append_nil]; rfl⟩
  | [o], h, pre, i => by
    have e : opsToks i [o] = opdToks i o ++ [] := (List.append_nil _).symm
    refine ⟨fun k q hq => ?_, fun k q hq hk => ?_, ?_⟩
    · match k, hq with
      | 0, hq =>
        cases hq
        rw [e]
        exact ⟨opT_at, h o (List.mem_cons_self ..)⟩
      | k + 1, hq => cases hq
    · match k, hq, hk with
      | 0, _, hk => omega
      | k + 1, hq, _ => cases hq
    · rw [if_neg (List.cons_ne_nil _ _)]
      have p1 : posn [o] [o].length = o.wid + 1 := posn_cons
      rw [p1, List.length_append, show (opsToks i [o]).length = o.wid from opdToks_len i o]
      omega
  | o :: p :: os, h, pre, i => by
    have hn : ((o :: p :: os : List Opd) = []) = False := by simp
    have ih := lineT_ops (p :: os) (fun x hx => h x (List.mem_cons_of_mem _ hx)) (pre ++ opdToks i o ++ [⟨i + (opdS o).length + 1, "mark", [44]⟩]) (i + (opdS o).length + 2)
    have eT : pre ++ opdToks i o ++ [⟨i + (opdS o).length + 1, "mark", [44]⟩] ++ opsToks (i + (opdS o).length + 2) (p :: os) = pre ++ opsToks i (o :: p :: os) := by
      show _ = pre ++ (opdToks i o ++ ⟨i + (opdS o).length + 1, "mark", [44]⟩ :: opsToks (i + (opdS o).length + 2) (p :: os))
      rw [List.append_assoc, List.append_assoc]
      rfl
    have el : (pre ++ opdToks i o ++ [(⟨i + (opdS o).length + 1, "mark", [44]⟩ : Tok)]).length = pre.length + (o.wid + 1) := by
      rw [List.length_append, List.length_append, opdToks_len]
      show pre.length + o.wid + 1 = _
      omega
    rw [eT, el] at ih
    refine ⟨fun k q hq => ?_, fun k q hq hk => ?_, ?_⟩
    · match k, hq with
      | 0, hq =>
        cases hq
        exact ⟨opT_at, h o (List.mem_cons_self ..)⟩
      | k + 1, hq =>
        rw [posn_cons, ← Nat.add_assoc]
        exact ih.o k q hq
    · match k, hq, hk with
      | 0, _, hk => omega
      | 1, hq, _ =>
        refine ⟨i + (opdS o).length + 1, ?_⟩
        have p1 : posn (o :: p :: os) 1 = o.wid + 1 := posn_cons
        rw [p1, show pre.length + (o.wid + 1) - 1 = pre.length + o.wid by omega, List.getElem?_append_right (by omega), Nat.add_sub_cancel_left]
        show (opdToks i o ++ ⟨i + (opdS o).length + 1, "mark", [44]⟩ :: opsToks (i + (opdS o).length + 2) (p :: os))[o.wid]? = _
        rw [List.getElem?_append_right (by rw [opdToks_len]; exact Nat.le_refl _), opdToks_len, Nat.sub_self]
        rfl
      | k + 2, hq, _ =>
        have := ih.c (k + 1) q hq (by omega)
        rw [posn_cons, ← Nat.add_assoc]
        exact this
    · have := ih.l
      rw [this, if_neg (List.cons_ne_nil _ _), if_neg (List.cons_ne_nil _ _)]
      have p1 : posn (o :: p :: os) (o :: p :: os).length = (o.wid + 1) + posn (p :: os) (p :: os).length := posn_cons
      rw [p1, Nat.add_assoc]
theorem opsToks_len : ∀ (os : List Opd) (i : Nat), (opsToks i os).length ≤ 3 * os.length
  | [], _ => Nat.le_refl _
  | [o], i => by
    show (opdToks i o).length ≤ 3 * 1
    rw [opdToks_len]
    match o with
    | .reg _ => show 1 ≤ 3; decide
    | .num false _ => show 1 ≤ 3; decide
    | .num true _ => show 2 ≤ 3; decide
  | o :: p :: os, i => by
    show (opdToks i o ++ ⟨i + (opdS o).length + 1, "mark", [44]⟩ :: opsToks (i + (opdS o).length + 2) (p :: os)).length ≤ _
    have ih := opsToks_len (p :: os) (i + (opdS o).length + 2)
    have hw : o.wid ≤ 2 := by
      match o with
      | .reg _ => show 1 ≤ 2; decide
      | .num false _ => show 1 ≤ 2; decide
      | .num true _ => show 2 ≤ 2; decide
    rw [List.length_append, opdToks_len, List.length_cons]
    rw [List.length_cons] at ih ⊢
    rw [List.length_cons]
    omega
theorem lineToks_ok {op : List Nat} {os : List Opd} (f : Fits (S op) os) (ok : ∀ o ∈ os, o.ok) (l : os.length ≤ 10) : LineToks (lineToks op os) op os := by
  refine ⟨⟨1, rfl⟩, ?_, f, l, ?_⟩
  · exact lineT_ops os ok [⟨1, "name", op⟩] (op.length + 1)
  · have := opsToks_len os (op.length + 1)
    unfold lineToks
    rw [List.length_cons]
    omega
/-! ## and make the words again -/
theorem numO_val (n : Int) : (numO n).val = n := by
  unfold numO
  split
  · show (if false = true then -((n.toNat : Nat) : Int) else ((n.toNat : Nat) : Int)) = n
    rw [if_neg (by decide)]; omega
  · show (if true = true then -(((-n).toNat : Nat) : Int) else (((-n).toNat : Nat) : Int)) = n
    rw [if_pos rfl]; omega
theorem numO_num (n : Int) : ∃ g v, numO n = .num g v := by
  unfold numO
  split
  · exact ⟨_, _, rfl⟩
  · exact ⟨_, _, rfl⟩
/-- the forms of the ops, with the class of each -/
def shN (op : Str) (hi : Int) : Prop := op ∉ brsL ∧ op ≠ "addi" ∧ (op, (0 : Int), hi) ∈ limL
instance (op : Str) (hi : Int) : Decidable (shN op hi) := inferInstanceAs (Decidable (_ ∧ _))
def shB (op : Str) : Prop := op ∈ brsL ∨ (op ∉ brsL ∧ op = "addi" ∧ (op, (-8 : Int), (7 : Int)) ∈ limL) ∨ shN op 15
instance (op : Str) : Decidable (shB op) := inferInstanceAs (Decidable (_ ∨ _))
def shA (op : Str) (f : List Nat) (k : Nat) : Prop := (f = [] ∧ k = 0 ∧ op ≠ "set") ∨ (f = [114] ∧ k = 1 ∧ op ≠ "set") ∨ (f = [114, 101] ∧ k = 1 ∧ op = "set") ∨ (f = [114, 114] ∧ k = 2 ∧ op ≠ "set") ∨ (f = [114, 114, 114] ∧ k = 3 ∧ op ≠ "set")
instance (op : Str) (f : List Nat) (k : Nat) : Decidable (shA op f k) := inferInstanceAs (Decidable (_ ∨ _))
def shC (op : Str) (f : List Nat) (k : Nat) : Prop := (f = [101] ∧ k = 4 ∧ op ≠ "set" ∧ shN op 15) ∨ (f = [114, 101] ∧ k = 5 ∧ op ≠ "set" ∧ shN op 6) ∨ (f = [114, 101] ∧ k = 6 ∧ op ≠ "set" ∧ shN op 4) ∨ (f = [114, 114, 101] ∧ k = 7 ∧ op ≠ "set" ∧ shB op)
instance (op : Str) (f : List Nat) (k : Nat) : Decidable (shC op f k) := inferInstanceAs (Decidable (_ ∨ _))
def shT (op : Str) (f : List Nat) (k : Nat) : Prop := shA op f k ∨ shC op f k
instance (op : Str) (f : List Nat) (k : Nat) : Decidable (shT op f k) := inferInstanceAs (Decidable (_ ∨ _))
theorem sh_ok : ∀ i : Nat, i < 26 → shT (S (opE i).1) (opE i).2.1 (clsL.getD i 7) := by decide
theorem op_ok : ∀ i : Nat, i < 26 → S (opE i).1 ∈ opsl ∧ opsl.idxOf (S (opE i).1) = i ∧ S (opE i).1 ≠ "word" ∧ (opE i).1 ≠ [] := by decide
theorem op_low : ∀ i : Nat, i < 26 → (opE i).1.all (fun c => decide (97 ≤ c) && decide (c ≤ 122)) = true := by decide
theorem nums_ok {op : Str} {c ad : Int} (hc : 0 ≤ c ∧ c < 16) (h : op ∈ brsL ∨ (op ∉ brsL ∧ op = "addi" ∧ (op, (-8 : Int), (7 : Int)) ∈ limL) ∨ (op ∉ brsL ∧ op ≠ "addi" ∧ ∃ hi : Int, (op, (0 : Int), hi) ∈ limL ∧ c ≤ hi)) :
    NumOk op (fieldT op c ad) ad ∧ numF op (fieldT op c ad) ad = c := by
  unfold NumOk numF fieldT
  rcases h with h | ⟨h, ha, hl⟩ | ⟨h, ha, hi, hl, hh⟩
  · rw [if_pos h, if_pos h]
    exact ⟨.inl ⟨h, by omega, by omega⟩, by omega⟩
  · rw [if_neg h, if_neg h]
    by_cases c7 : c > 7
    · rw [if_pos ⟨ha, c7⟩]
      exact ⟨.inr ⟨h, _, _, hl, by omega, by omega⟩, by omega⟩
    · rw [if_neg (fun z => c7 z.2)]
      exact ⟨.inr ⟨h, _, _, hl, by omega, by omega⟩, by omega⟩
  · rw [if_neg h, if_neg h, if_neg (fun z => ha z.1)]
    exact ⟨.inr ⟨h, _, _, hl, by omega, hh⟩, by omega⟩
theorem encM_x {x : Int} (h0 : 0 ≤ x) (h : decOk x) : encM (S (opL x)) (x / 128 % 8) (x / 16 % 8) (x % 16) = x := by
  have hi := ixO_lt h
  unfold encM opL
  rw [(op_ok _ hi).2.1]
  unfold ixO
  omega
theorem frm_opd {op : Str} {f : List Nat} {a b c s ad : Int} (h : ∀ d ∈ f, d = 114 ∨ d = 101) : ∀ (i d : Nat) (o : Opd), f[i]? = some d → (opdsF op f a b c s ad)[i]? = some o → o.form = S [d] := fun i d o hd ho => by
  unfold opdsF at ho
  have il := (List.getElem?_eq_some_iff.mp hd).1
  rw [List.getElem?_map, List.getElem?_range il] at ho
  have ho : opdF op f a b c s ad i = o := Option.some.inj ho
  subst ho
  unfold opdF
  rcases h d (List.mem_of_getElem? hd) with e | e
  · subst e; rw [if_pos hd]; rfl
  · subst e
    rw [if_neg (by rw [hd]; decide)]
    have : ∀ n, (numO n).form = S [101] := fun n => by obtain ⟨g, v, e⟩ := numO_num n; rw [e]; rfl
    split
    · exact this _
    · exact this _
theorem frm_114 : ∀ i : Nat, i < 26 → (opE i).2.1.all (fun d => decide (d = 114) || decide (d = 101)) = true := by decide
theorem fits_opd {x : Int} (h : decOk x) (a b c s ad : Int) : Fits (S (opL x)) (opdsF (S (opL x)) (fmL x) a b c s ad) := by
  have hi := ixO_lt h
  refine .inr ⟨(op_ok _ hi).2.2.1, fmL x, (opT_ok _ hi).2.1, by unfold opdsF; rw [List.length_map, List.length_range], frm_opd fun d hd => ?_⟩
  have := List.all_eq_true.mp (frm_114 _ hi) d hd
  rw [Bool.or_eq_true] at this
  exact this.imp of_decide_eq_true of_decide_eq_true
end asm17

end
section
section asm18
open SX
theorem nat_back {a : Int} (h : 0 ≤ a) : ((a.toNat : Nat) : Int) = a := by omega
theorem ins_reg {op : Str} {ad : Int} {i r : Nat} {st : List Int × Int} : stepF op ad i (.reg r) st = (st.1.set i r, st.2) := rfl
theorem ins_num {op : Str} {ad n : Int} {i : Nat} {st : List Int × Int} : stepF op ad i (numO n) st = if op = "set" then (st.1, n % 65536) else (st.1.set 2 (numF op n ad), st.2) := by
  obtain ⟨g, v, e⟩ := numO_num n
  have hv := numO_val n
  rw [e] at hv ⊢
  show (if op = "set" then (st.1, (Opd.num g v).val % 65536) else (st.1.set 2 (numF op (Opd.num g v).val ad), st.2)) = _
  rw [hv]
/-- an instruction's operands give its fields back -/
structure InsB (op : Str) (ad : Int) (os : List Opd) (a b c s : Int) : Prop where
  f : (insF op ad os os.length).1 = [a, b, c]
  s : op = "set" → (insF op ad os os.length).2 = s
  n : ∀ (i : Nat) (n : Bool) (v : Nat), os[i]? = some (.num n v) → if op = "set" then -32768 ≤ (Opd.num n v).val ∧ (Opd.num n v).val ≤ 65535 else NumOk op (Opd.num n v).val ad
theorem ins_b {op : Str} {f : List Nat} {k : Nat} {a b c s ad : Int} (h : shT op f k) (hb : (0 ≤ a ∧ a < 8) ∧ (0 ≤ b ∧ b < 8) ∧ (0 ≤ c ∧ c < 16)) (hk : clsF k a b c = true) (hs : 0 ≤ s ∧ s < 65536) : InsB op ad (opdsF op f a b c s ad) a b c s := by
  have ea := nat_back hb.1.1
  have eb := nat_back hb.2.1.1
  have ec := nat_back hb.2.2.1
  have nset : op ≠ "set" → ∀ (z : Int), NumOk op (numO z).val ad → ∀ (os : List Opd), (∀ o ∈ os, (∃ r, o = .reg r) ∨ o = numO z) → ∀ (i : Nat) (n : Bool) (v : Nat), os[i]? = some (.num n v) → if op = "set" then -32768 ≤ (Opd.num n v).val ∧ (Opd.num n v).val ≤ 65535 else NumOk op (Opd.num n v).val ad := fun ns z hz os ho i n v hi => by
    rw [if_neg ns]
    rcases ho _ (List.mem_of_getElem? hi) with ⟨r, e⟩ | e
    · cases e
    · rw [e]; exact hz
  have nreg : ∀ (os : List Opd), (∀ o ∈ os, (∃ r, o = .reg r)) → ∀ (i : Nat) (n : Bool) (v : Nat), os[i]? = some (.num n v) → if op = "set" then -32768 ≤ (Opd.num n v).val ∧ (Opd.num n v).val ≤ 65535 else NumOk op (Opd.num n v).val ad := fun os ho i n v hi => by
    obtain ⟨r, e⟩ := ho _ (List.mem_of_getElem? hi)
    cases e
  have num : op ≠ "set" → (op ∈ brsL ∨ (op ∉ brsL ∧ op = "addi" ∧ (op, (-8 : Int), (7 : Int)) ∈ limL) ∨ (op ∉ brsL ∧ op ≠ "addi" ∧ ∃ hi : Int, (op, (0 : Int), hi) ∈ limL ∧ c ≤ hi)) → NumOk op (numO (fieldT op c ad)).val ad ∧ numF op (fieldT op c ad) ad = c := fun _ h => by
    rw [numO_val]; exact nums_ok hb.2.2 h
  rcases h with (⟨ef, ek, ns⟩ | ⟨ef, ek, ns⟩ | ⟨ef, ek, ns⟩ | ⟨ef, ek, ns⟩ | ⟨ef, ek, ns⟩) | (⟨ef, ek, ns, hn⟩ | ⟨ef, ek, ns, hn⟩ | ⟨ef, ek, ns, hn⟩ | ⟨ef, ek, ns, hn⟩) <;> subst ef <;> subst ek
  · -- no operand
    have : a = 0 ∧ b = 0 ∧ c = 0 := by unfold clsF at hk; simpa using hk
    refine ⟨?_, fun z => absurd z ns, nreg _ (fun o ho => by cases ho)⟩
    rw [this.1, this.2.1, this.2.2]; rfl
  · have : b = 0 ∧ c = 0 := by unfold clsF at hk; simpa using hk
    have e : opdsF op [114] a b c s ad = [.reg a.toNat] := rfl
    rw [e]
    refine ⟨?_, fun z => absurd z ns, nreg _ (fun o ho => ⟨_, List.mem_singleton.mp ho⟩)⟩
    show [((a.toNat : Nat) : Int), 0, 0] = _
    rw [ea, this.1, this.2]
  · have : b = 0 ∧ c = 0 := by unfold clsF at hk; simpa using hk
    have e : opdsF op [114, 101] a b c s ad = [.reg a.toNat, if op = "set" then numO s else numO (fieldT op c ad)] := rfl
    rw [e, if_pos ns]
    have ei : insF op ad [.reg a.toNat, numO s] 2 = ([((a.toNat : Nat) : Int), 0, 0], s % 65536) := by
      show stepF op ad 1 (numO s) (stepF op ad 0 (.reg a.toNat) ([0, 0, 0], 0)) = _
      rw [ins_num, if_pos ns]; rfl
    refine ⟨?_, fun _ => ?_, fun i n v hi => ?_⟩
    · show (insF op ad [.reg a.toNat, numO s] 2).1 = _
      rw [ei, this.1, this.2]
      show [((a.toNat : Nat) : Int), 0, 0] = _
      rw [ea]
    · show (insF op ad [.reg a.toNat, numO s] 2).2 = _
      rw [ei]
      show s % 65536 = s
      omega
    · rw [if_pos ns]
      have hm := List.mem_of_getElem? hi
      simp only [List.mem_cons, List.not_mem_nil, or_false] at hm
      rcases hm with e | e
      · cases e
      · rw [e, numO_val]; omega
  · have : c = 0 := by unfold clsF at hk; simpa using hk
    have e : opdsF op [114, 114] a b c s ad = [.reg a.toNat, .reg b.toNat] := rfl
    rw [e]
    refine ⟨?_, fun z => absurd z ns, nreg _ (fun o ho => ?_)⟩
    · show [((a.toNat : Nat) : Int), ((b.toNat : Nat) : Int), 0] = _
      rw [ea, eb, this]
    · simp only [List.mem_cons, List.not_mem_nil, or_false] at ho
      exact ho.elim (fun e => ⟨_, e⟩) fun e => ⟨_, e⟩
  · have e : opdsF op [114, 114, 114] a b c s ad = [.reg a.toNat, .reg b.toNat, .reg c.toNat] := rfl
    rw [e]
    refine ⟨?_, fun z => absurd z ns, nreg _ (fun o ho => ?_)⟩
    · show [((a.toNat : Nat) : Int), ((b.toNat : Nat) : Int), ((c.toNat : Nat) : Int)] = _
      rw [ea, eb, ec]
    · simp only [List.mem_cons, List.not_mem_nil, or_false] at ho
      exact ho.elim (fun e => ⟨_, e⟩) fun e => e.elim (fun e => ⟨_, e⟩) fun e => ⟨_, e⟩
  · have : a = 0 ∧ b = 0 := by unfold clsF at hk; simpa using hk
    obtain ⟨m1, m2⟩ := num ns (.inr (.inr ⟨hn.1, hn.2.1, _, hn.2.2, by omega⟩))
    have e : opdsF op [101] a b c s ad = [if op = "set" then numO s else numO (fieldT op c ad)] := rfl
    rw [e, if_neg ns]
    refine ⟨?_, fun z => absurd z ns, nset ns _ m1 _ (fun o ho => .inr (List.mem_singleton.mp ho))⟩
    show (stepF op ad 0 (numO (fieldT op c ad)) ([0, 0, 0], 0)).1 = _
    rw [ins_num, if_neg ns, m2, this.1, this.2]; rfl
  · have : b = 0 ∧ c < 7 := by unfold clsF at hk; simpa using hk
    obtain ⟨m1, m2⟩ := num ns (.inr (.inr ⟨hn.1, hn.2.1, _, hn.2.2, by omega⟩))
    have e : opdsF op [114, 101] a b c s ad = [.reg a.toNat, if op = "set" then numO s else numO (fieldT op c ad)] := rfl
    rw [e, if_neg ns]
    refine ⟨?_, fun z => absurd z ns, nset ns _ m1 _ (fun o ho => ?_)⟩
    · show (stepF op ad 1 (numO (fieldT op c ad)) (stepF op ad 0 (.reg a.toNat) ([0, 0, 0], 0))).1 = _
      rw [ins_num, if_neg ns, m2, this.1]
      show [((a.toNat : Nat) : Int), 0, c] = _
      rw [ea]
    · simp only [List.mem_cons, List.not_mem_nil, or_false] at ho
      exact ho.elim (fun e => .inl ⟨_, e⟩) .inr
  · have : b = 0 ∧ c < 5 := by unfold clsF at hk; simpa using hk
    obtain ⟨m1, m2⟩ := num ns (.inr (.inr ⟨hn.1, hn.2.1, _, hn.2.2, by omega⟩))
    have e : opdsF op [114, 101] a b c s ad = [.reg a.toNat, if op = "set" then numO s else numO (fieldT op c ad)] := rfl
    rw [e, if_neg ns]
    refine ⟨?_, fun z => absurd z ns, nset ns _ m1 _ (fun o ho => ?_)⟩
    · show (stepF op ad 1 (numO (fieldT op c ad)) (stepF op ad 0 (.reg a.toNat) ([0, 0, 0], 0))).1 = _
      rw [ins_num, if_neg ns, m2, this.1]
      show [((a.toNat : Nat) : Int), 0, c] = _
      rw [ea]
    · simp only [List.mem_cons, List.not_mem_nil, or_false] at ho
      exact ho.elim (fun e => .inl ⟨_, e⟩) .inr
  · obtain ⟨m1, m2⟩ := num ns (hn.imp id fun h => h.imp id fun h => ⟨h.1, h.2.1, _, h.2.2, by omega⟩)
    have e : opdsF op [114, 114, 101] a b c s ad = [.reg a.toNat, .reg b.toNat, if op = "set" then numO s else numO (fieldT op c ad)] := rfl
    rw [e, if_neg ns]
    refine ⟨?_, fun z => absurd z ns, nset ns _ m1 _ (fun o ho => ?_)⟩
    · show (stepF op ad 2 (numO (fieldT op c ad)) (stepF op ad 1 (.reg b.toNat) (stepF op ad 0 (.reg a.toNat) ([0, 0, 0], 0)))).1 = _
      rw [ins_num, if_neg ns, m2]
      show [((a.toNat : Nat) : Int), ((b.toNat : Nat) : Int), c] = _
      rw [ea, eb]
    · simp only [List.mem_cons, List.not_mem_nil, or_false] at ho
      exact ho.elim (fun e => .inl ⟨_, e⟩) fun e => e.elim (fun e => .inl ⟨_, e⟩) .inr
theorem S_len' (l : List Nat) : (S l).length = l.length := S_len l
theorem ins_ok {x s ad : Int} (h0 : 0 ≤ x ∧ x < 65536) (h : decOk x) (hs : 0 ≤ s ∧ s < 65536) :
    InsOk (S (opL x)) ad (opdsF (S (opL x)) (fmL x) (x / 128 % 8) (x / 16 % 8) (x % 16) s ad) ∧
    insW (S (opL x)) ad (opdsF (S (opL x)) (fmL x) (x / 128 % 8) (x / 16 % 8) (x % 16) s ad) = x :: (if S (opL x) = "set" then [s] else []) := by
  have hi := ixO_lt h
  have ib := ins_b (ad := ad) (s := s) (sh_ok _ hi) (flds_b x) ((decOk_cls h0.1).mp h).2 hs
  have ib : InsB (S (opL x)) ad (opdsF (S (opL x)) (fmL x) (x / 128 % 8) (x / 16 % 8) (x % 16) s ad) (x / 128 % 8) (x / 16 % 8) (x % 16) s := ib
  have f0 : fld3 (S (opL x)) ad (opdsF (S (opL x)) (fmL x) (x / 128 % 8) (x / 16 % 8) (x % 16) s ad) 0 = x / 128 % 8 := by unfold fld3; rw [ib.f]; rfl
  have f1 : fld3 (S (opL x)) ad (opdsF (S (opL x)) (fmL x) (x / 128 % 8) (x / 16 % 8) (x % 16) s ad) 1 = x / 16 % 8 := by unfold fld3; rw [ib.f]; rfl
  have f2 : fld3 (S (opL x)) ad (opdsF (S (opL x)) (fmL x) (x / 128 % 8) (x / 16 % 8) (x % 16) s ad) 2 = x % 16 := by unfold fld3; rw [ib.f]; rfl
  have ot := opT_ok _ hi
  refine ⟨⟨fits_opd h _ _ _ _ _, (op_ok _ hi).2.2.1, (op_ok _ hi).1, by unfold opdsF; rw [List.length_map, List.length_range]; exact ot.2.2.1, ib.n, ?_, by rw [S_len']; exact Nat.le_trans ot.2.2.2.1 (by decide)⟩, ?_⟩
  · rw [f0, f1, f2, opL_S h]; exact h.2
  · unfold insW
    rw [f0, f1, f2, encM_x h0.1 h]
    by_cases z : S (opL x) = "set"
    · rw [if_pos z, if_pos z, ib.s z]
    · rw [if_neg z, if_neg z]
end asm18

end
section
section asm19
open SX
theorem drop1 {ws : List Int} {i : Nat} (h : i < ws.length) : ws.drop i = wat ws i :: ws.drop (i + 1) := by
  have := wat_ix h
  rw [List.getElem?_eq_getElem h] at this
  rw [List.drop_eq_getElem_cons h, Option.some.inj this]
theorem line_w {ws : List Int} {b : Int} {i : Nat} (hi : i < ws.length) (hw : ∀ i < ws.length, 0 ≤ wat ws i ∧ wat ws i < 65536) :
    LwOk (S (lnOp ws i)) (b + i) (lnOs ws b i) ∧ lwF (S (lnOp ws i)) (b + i) (lnOs ws b i) = (ws.drop i).take (lnSz ws i) ∧ lenF (S (lnOp ws i)) (lnOs ws b i) = lnSz ws i ∧ i + lnSz ws i ≤ ws.length := by
  unfold lnOp lnOs lnSz
  have hx := hw i hi
  by_cases c : isI ws i
  · rw [if_pos c, if_pos c, if_pos c]
    obtain ⟨c1, c2⟩ := c
    have sb := szW_b (wat ws i)
    have hs := hw (i + szW (wat ws i) - 1) (by omega)
    obtain ⟨io, iw⟩ := ins_ok (ad := b + i) hx c1 hs
    have nw : S (opL (wat ws i)) ≠ "word" := io.w
    have eo := opL_S c1
    refine ⟨.inl io, ?_, ?_, c2⟩
    · unfold lwF
      rw [if_neg nw, iw]
      by_cases z : S (opL (wat ws i)) = "set"
      · have sz : szW (wat ws i) = 2 := by unfold szW; rw [← eo, if_pos z]
        rw [if_pos z, sz, drop1 hi, show i + 2 - 1 = i + 1 from rfl, drop1 (show i + 1 < ws.length by omega)]
        rfl
      · have sz : szW (wat ws i) = 1 := by unfold szW; rw [← eo, if_neg z]
        rw [if_neg z, sz, drop1 hi]
        rfl
    · unfold lenF szW
      rw [if_neg nw, ← eo]
  · rw [if_neg c, if_neg c, if_neg c]
    have ew : S wordL = "word" := rfl
    obtain ⟨g, v, e⟩ := numO_num (wat ws i)
    have hv := numO_val (wat ws i)
    refine ⟨.inr ⟨ew, g, v, by rw [e], ?_, ?_⟩, ?_, ?_, by omega⟩
    · rw [← e, hv]; omega
    · rw [← e, hv]; omega
    · unfold lwF
      rw [if_pos ew, drop1 hi]
      show [(numO (wat ws i)).val % 65536] = [wat ws i]
      rw [hv, show wat ws i % 65536 = wat ws i by omega]
    · unfold lenF
      rw [if_pos ew]; rfl
def ldF (ws : List Int) (b : Int) (i : Nat) : LData := ⟨lnTx ws b i, lineToks (lnOp ws i) (lnOs ws b i), lnOp ws i, lnOs ws b i⟩
theorem ln_op {ws : List Int} {i : Nat} : Low (lnOp ws i) ∧ lnOp ws i ≠ [] ∧ (lnOp ws i).length ≤ 10 := by
  unfold lnOp
  by_cases c : isI ws i
  · rw [if_pos c]
    have hi := ixO_lt c.1
    refine ⟨fun d hd => ?_, (op_ok _ hi).2.2.2, (opT_ok _ hi).2.2.2.1⟩
    have := List.all_eq_true.mp (op_low _ hi) d hd
    rw [Bool.and_eq_true] at this
    exact ⟨of_decide_eq_true this.1, of_decide_eq_true this.2⟩
  · rw [if_neg c]
    exact ⟨by unfold Low wordL; decide, by decide, by decide⟩
theorem ln_fits {ws : List Int} {b : Int} {i : Nat} : Fits (S (lnOp ws i)) (lnOs ws b i) := by
  unfold lnOp lnOs
  by_cases c : isI ws i
  · rw [if_pos c, if_pos c]
    exact fits_opd c.1 _ _ _ _ _
  · rw [if_neg c, if_neg c]
    obtain ⟨g, v, e⟩ := numO_num (wat ws i)
    exact .inl ⟨rfl, g, v, by rw [e]⟩
theorem mem_joinL {sep : List Nat} {c : Nat} : ∀ {ys : List (List Nat)}, c ∈ TL.joinL sep ys → c ∈ sep ∨ ∃ y ∈ ys, c ∈ y
  | [], h => absurd h List.not_mem_nil
  | [y], h => .inr ⟨y, List.mem_cons_self .., h⟩
  | y :: z :: zs, h => by
    have h : c ∈ y ++ (sep ++ TL.joinL sep (z :: zs)) := h
    rcases List.mem_append.mp h with h | h
    · exact .inr ⟨y, List.mem_cons_self .., h⟩
    · rcases List.mem_append.mp h with h | h
      · exact .inl h
      · exact (mem_joinL h).imp id fun ⟨u, hu, hc⟩ => ⟨u, List.mem_cons_of_mem _ hu, hc⟩
theorem opdS_32 {o : Opd} : ∀ c ∈ opdS o, 32 ≤ c := fun c hc => by
  match o, hc with
  | .reg r, hc =>
    have hc : c ∈ [114, 48 + r] := hc
    simp only [List.mem_cons, List.not_mem_nil, or_false] at hc
    omega
  | .num false v, hc => have := numL_d (v := v) (c := c) hc; omega
  | .num true v, hc =>
    have hc : c ∈ 45 :: TL.numL v := hc
    rcases List.mem_cons.mp hc with e | e
    · omega
    · have := numL_d e; omega
theorem ln_tx {ws : List Int} {b : Int} {i : Nat} (hi : i < ws.length) (hw : ∀ i < ws.length, 0 ≤ wat ws i ∧ wat ws i < 65536) : (lnTx ws b i).length ≤ 40 ∧ 10 ∉ lnTx ws b i := by
  obtain ⟨o1, o2, o3⟩ := ln_op (ws := ws) (i := i)
  obtain ⟨-, l2⟩ := lnOs_len (b := b) hi hw
  unfold lnTx txtF
  refine ⟨?_, fun hm => ?_⟩
  · have : (if lnOs ws b i = [] then ([] : List Nat) else [32]).length ≤ 1 := by split <;> decide
    rw [List.length_append, List.length_append]
    omega
  · rcases List.mem_append.mp hm with h | h
    · have := o1 10 h; omega
    · rcases List.mem_append.mp h with h | h
      · revert h
        split
        · intro h; cases h
        · intro h; rw [List.mem_singleton] at h; cases h
      · rcases mem_joinL h with h | ⟨y, hy, h⟩
        · revert h; decide
        · obtain ⟨o, -, rfl⟩ := List.mem_map.mp hy
          have := opdS_32 10 h
          omega
theorem ld_ok {ws : List Int} {b : Int} {i : Nat} (hi : i < ws.length) (hw : ∀ i < ws.length, 0 ≤ wat ws i ∧ wat ws i < 65536) : LOk (ldF ws b i) ∧ 10 ∉ (ldF ws b i).tx := by
  obtain ⟨o1, o2, o3⟩ := ln_op (ws := ws) (i := i)
  obtain ⟨t1, t2⟩ := ln_tx (b := b) hi hw
  obtain ⟨k1, k2⟩ := lnOs_ok (b := b) hi hw
  exact ⟨⟨Nat.le_trans t1 (by decide), tk_line o1 o2 (by omega) k2, lineToks_ok ln_fits k2 (by omega)⟩, t2⟩
theorem adF_cons {b : Int} {d : LData} {ds : List LData} {k : Nat} : adF b (d :: ds) (k + 1) = adF (b + lenF (S d.op) d.os) ds k := by
  unfold adF
  rw [List.take_succ_cons, List.map_cons, List.sum_cons]
  omega
theorem allW_cons {b : Int} {d : LData} {ds : List LData} {n : Nat} : allW b (d :: ds) (n + 1) = lwF (S d.op) b d.os ++ allW (b + lenF (S d.op) d.os) ds n := by
  unfold allW
  rw [List.range_succ_eq_map, List.flatMap_cons, List.flatMap_map]
  have e0 : adF b (d :: ds) 0 = b := by unfold adF; simp
  show lwF (S d.op) (adF b (d :: ds) 0) d.os ++ _ = _
  rw [e0]
  congr 1
  refine congrArg (fun f => (List.range n).flatMap f) ?_
  funext j
  show (match ds[j]? with | some d' => lwF (S d'.op) (adF b (d :: ds) (j + 1)) d'.os | none => []) = _
  rw [adF_cons]
  cases ds[j]? <;> rfl
theorem lines_all {ws : List Int} {b : Int} (hw : ∀ i < ws.length, 0 ≤ wat ws i ∧ wat ws i < 65536) : ∀ n i, ws.length - i ≤ n → i ≤ ws.length →
    (∀ k, k ≤ ((atsF ws i).map (ldF ws b)).length → adF (b + i) ((atsF ws i).map (ldF ws b)) k ≤ b + ws.length) ∧
    (∀ (k : Nat) d, ((atsF ws i).map (ldF ws b))[k]? = some d → LwOk (S d.op) (adF (b + i) ((atsF ws i).map (ldF ws b)) k) d.os) ∧
    allW (b + i) ((atsF ws i).map (ldF ws b)) ((atsF ws i).map (ldF ws b)).length = ws.drop i ∧ ((atsF ws i).map (ldF ws b)).length ≤ ws.length - i ∧ ∀ j ∈ atsF ws i, j < ws.length
  | n, i, hn, hi => by
    by_cases c : i < ws.length
    · obtain ⟨w1, w2, w3, w4⟩ := line_w (b := b) c hw
      have sp := lnSz_pos ws i
      match n, hn with
      | 0, hn => omega
      | n + 1, hn =>
        obtain ⟨h1, h2, h3, h4, h5⟩ := lines_all hw n (i + lnSz ws i) (by omega) w4
        have ea : b + (i : Int) + (lenF (S (ldF ws b i).op) (ldF ws b i).os : Nat) = b + ((i + lnSz ws i : Nat) : Int) := by
          show b + (i : Int) + (lenF (S (lnOp ws i)) (lnOs ws b i) : Nat) = _
          rw [w3]; omega
        rw [atsF_go c, List.map_cons]
        generalize (atsF ws (i + lnSz ws i)).map (ldF ws b) = ds at h1 h2 h3 h4
        refine ⟨fun k hk => ?_, fun k d hd => ?_, ?_, ?_, fun j hj => ?_⟩
        · match k, hk with
          | 0, _ => have e0 : adF (b + i) (ldF ws b i :: ds) 0 = b + i := by unfold adF; simp
                    rw [e0]; omega
          | k + 1, hk =>
            rw [adF_cons, ea]
            exact h1 k (Nat.le_of_succ_le_succ hk)
        · match k, hd with
          | 0, hd =>
            cases hd
            have e0 : adF (b + i) (ldF ws b i :: ds) 0 = b + i := by unfold adF; simp
            rw [e0]
            exact w1
          | k + 1, hd =>
            rw [adF_cons, ea]
            exact h2 k d hd
        · rw [List.length_cons, allW_cons, ea, h3]
          show lwF (S (lnOp ws i)) (b + i) (lnOs ws b i) ++ _ = _
          rw [w2, ← List.drop_drop]
          exact List.take_append_drop _ _
        · rw [List.length_cons]; omega
        · rcases List.mem_cons.mp hj with e | e
          · omega
          · exact h5 j e
    · rw [atsF_end c]
      refine ⟨fun k hk => ?_, fun k d hd => (by cases hd), ?_, Nat.zero_le _, fun j hj => absurd hj List.not_mem_nil⟩
      · have : k = 0 := Nat.le_zero.mp hk
        subst this
        have e0 : adF (b + i) [] 0 = b + i := by unfold adF; simp
        rw [List.map_nil, e0]; omega
      · rw [List.drop_of_length_le (by omega)]; rfl
theorem joinL10 : ∀ (ds : List LData), (∀ d ∈ ds, d.tx.length ≤ 40) → (TL.joinL [10] (ds.map LData.tx)).length ≤ 41 * ds.length
  | [], _ => Nat.zero_le _
  | [d], h => by have := h d (List.mem_cons_self ..); show d.tx.length ≤ 41 * 1; omega
  | d :: e :: ds, h => by
    have ih := joinL10 (e :: ds) fun x hx => h x (List.mem_cons_of_mem _ hx)
    have := h d (List.mem_cons_self ..)
    have e1 : (TL.joinL [10] ((d :: e :: ds).map LData.tx)).length = d.tx.length + (1 + (TL.joinL [10] ((e :: ds).map LData.tx)).length) := by
      show (d.tx ++ ([10] ++ TL.joinL [10] ((e :: ds).map LData.tx))).length = _
      rw [List.length_append, List.length_append]; rfl
    have e2 : (d :: e :: ds).length = (e :: ds).length + 1 := rfl
    omega
def dsF (ws : List Int) (b : Int) : List LData := (atsF ws 0).map (ldF ws b)
theorem text_ok {ws : List Int} {b : Int} (hw : ∀ i < ws.length, 0 ≤ wat ws i ∧ wat ws i < 65536) (h1 : 1 ≤ ws.length) (h2 : ws.length ≤ 100) (hb : b + ws.length ≤ 65536) :
    TextOk b (dsF ws b) ∧ allW b (dsF ws b) (dsF ws b).length = ws ∧ (dsF ws b).map LData.tx = lnsL ws b := by
  obtain ⟨a1, a2, a3, a4, a5⟩ := lines_all (b := b) hw ws.length 0 (Nat.le_refl _) (Nat.zero_le _)
  rw [show b + ((0 : Nat) : Int) = b by omega] at a1 a2 a3
  have hd : ∀ d ∈ dsF ws b, ∃ j, j < ws.length ∧ d = ldF ws b j := fun d hd => by
    obtain ⟨j, hj, rfl⟩ := List.mem_map.mp hd
    exact ⟨j, a5 j hj, rfl⟩
  refine ⟨⟨?_, ?_, fun d h => ?_, a2, fun i hi => Int.le_trans (a1 i hi) hb, ?_⟩, a3, ?_⟩
  · unfold dsF
    rw [atsF_go (by omega)]
    exact List.cons_ne_nil _ _
  · have := joinL10 (dsF ws b) fun d h => by obtain ⟨j, hj, rfl⟩ := hd d h; exact (ln_tx hj hw).1
    have l : (dsF ws b).length ≤ ws.length - 0 := a4
    omega
  · obtain ⟨j, hj, rfl⟩ := hd d h
    exact ld_ok hj hw
  · have l : (dsF ws b).length ≤ ws.length - 0 := a4
    omega
  · unfold dsF lnsL
    rw [List.map_map]
    rfl
end asm19

end
section
section asm20
open SX
variable {P : Program} {w : World} {K : PySem.W.Frag} {mg : Str → Option Value} {base : Heap}
def M.rEqDK : V → V → Hp → VK → Prop := fun x y H Q => ∃ a b kvs, x = .ref a ∧ y = .ref b ∧ H a = some (.dK kvs) ∧ H b = some (.dK kvs) ∧ (kvs.map (·.1)).Nodup ∧ (∀ p ∈ kvs, flatB p.2 = true) ∧ Q (.bl true) H
theorem M.op_eqDK {X : Cx} (hu : X.A.units < cLine) : OpR X (compareOp .Eq) M.rEqDK := op_eq_dict hu
def sp_law (K : PySem.W.Frag) : Sp := fun vs H Q _ => ∃ (a : Addr) (ns : List Int), vs = [.ref a] ∧ SqL K H a (ns.map V.int) ∧ ns.length ≤ 63 ∧ ∀ H', Q (.bl true) H'
theorem cut60 (l : List Int) : cutV (l.map V.int) none (some 60) = (l.take 60).map V.int := by
  rw [M.cutV_map]
  have e0 : HT.sIx l.length 0 none = 0 := rfl
  rw [e0, List.drop_zero, Nat.sub_zero]
  by_cases h : l.length ≤ 60
  · have e1 : HT.sIx l.length l.length (some 60) = l.length := by unfold HT.sIx; simp; omega
    rw [e1, List.take_length, List.take_of_length_le h]
  · have e1 : HT.sIx l.length l.length (some 60) = 60 := by unfold HT.sIx; simp; omega
    rw [e1]
theorem op_tab : ∀ i : Nat, i < 26 → 2 ≤ (opE i).1.length ∧ ((S (opE i).1 = "set" ∧ (opE i).1 = [115, 101, 116] ∧ (opE i).2.1.length = 2) ∨ (S (opE i).1 ≠ "set" ∧ ((opE i).1.take 2 ≠ [115, 101] ∨ (3 ≤ (opE i).1.length ∧ (opE i).1.take 3 ≠ [115, 101, 116])))) := by decide
theorem set4 {ws : List Int} {b : Int} {i : Nat} : ((lnTx ws b i).take 4 = [115, 101, 116, 32]) ↔ lnSz ws i = 2 := by
  unfold lnTx txtF lnOp lnOs lnSz
  by_cases c : isI ws i
  · rw [if_pos c, if_pos c, if_pos c]
    have hi := ixO_lt c.1
    obtain ⟨l2, h⟩ := op_tab _ hi
    have eo := opL_S c.1
    rcases h with ⟨h1, h2, h3⟩ | ⟨h1, h2⟩
    · have h1 : S (opL (wat ws i)) = "set" := h1
      have h2 : opL (wat ws i) = [115, 101, 116] := h2
      have h3 : (fmL (wat ws i)).length = 2 := h3
      have sz : szW (wat ws i) = 2 := by unfold szW; rw [← eo, if_pos h1]
      have hne : ∀ (op : Str) (a b c s ad : Int), opdsF op (fmL (wat ws i)) a b c s ad ≠ [] := fun op a b c s ad z => by
        have := congrArg List.length z
        unfold opdsF at this
        rw [List.length_map, List.length_range, h3] at this
        cases this
      refine ⟨fun _ => sz, fun _ => ?_⟩
      rw [if_neg (hne _ _ _ _ _ _), h2]
      rfl
    · have h1 : S (opL (wat ws i)) ≠ "set" := h1
      have sz : szW (wat ws i) = 1 := by unfold szW; rw [← eo, if_neg h1]
      rw [sz]
      refine ⟨fun z => ?_, fun z => by omega⟩
      rcases h2 with h2 | ⟨h3, h2⟩
      · have := congrArg (List.take 2) z
        rw [List.take_take, show min 2 4 = 2 from rfl, List.take_append_of_le_length (show 2 ≤ (opL (wat ws i)).length from l2)] at this
        exact absurd this h2
      · have := congrArg (List.take 3) z
        rw [List.take_take, show min 3 4 = 3 from rfl, List.take_append_of_le_length (show 3 ≤ (opL (wat ws i)).length from h3)] at this
        exact absurd this h2
  · rw [if_neg c, if_neg c, if_neg c]
    refine ⟨fun z => ?_, fun z => by omega⟩
    have := congrArg (List.take 2) z
    rw [List.take_take, show min 2 4 = 2 from rfl, List.take_append_of_le_length (by decide)] at this
    exact absurd this (by decide)
theorem strOk_S {l : List Nat} (h : ∀ c ∈ l, c < 128) : PyData.strOk (S l) = true := by
  unfold PyData.strOk S
  rw [Array.all_eq_true']
  intro c hc
  have := h c (by simpa using hc)
  exact decide_eq_true (by omega)
theorem ln_chr {ws : List Int} {b : Int} {i : Nat} (hi : i < ws.length) (hw : ∀ i < ws.length, 0 ≤ wat ws i ∧ wat ws i < 65536) : ∀ c ∈ lnTx ws b i, c < 128 := fun c hm => by
  obtain ⟨o1, o2, o3⟩ := ln_op (ws := ws) (i := i)
  obtain ⟨k1, k2⟩ := lnOs_ok (b := b) hi hw
  unfold lnTx txtF at hm
  rcases List.mem_append.mp hm with h | h
  · have := o1 c h; omega
  · rcases List.mem_append.mp h with h | h
    · revert h
      split
      · intro h; cases h
      · intro h; rw [List.mem_singleton] at h; omega
    · rcases mem_joinL h with h | ⟨y, hy, h⟩
      · simp only [List.mem_cons, List.not_mem_nil, or_false] at h; omega
      · obtain ⟨o, ho, rfl⟩ := List.mem_map.mp hy
        have ok := k2 o ho
        match o, ok, h with
        | .reg r, ok, h =>
          have ok : r < 8 := ok
          have h : c ∈ [114, 48 + r] := h
          simp only [List.mem_cons, List.not_mem_nil, or_false] at h
          omega
        | .num false v, _, h => have := numL_d (v := v) (c := c) h; omega
        | .num true v, _, h =>
          have h : c ∈ 45 :: TL.numL v := h
          rcases List.mem_cons.mp h with e | e
          · omega
          · have := numL_d e; omega
theorem sum_le40 : ∀ (ys : List (List Nat)), (∀ y ∈ ys, y.length ≤ 40) → (ys.map List.length).sum ≤ 40 * ys.length
  | [], _ => Nat.le_refl _
  | y :: ys, h => by
    have ih := sum_le40 ys fun z m => h z (List.mem_cons_of_mem _ m)
    have := h y (List.mem_cons_self ..)
    rw [List.map_cons, List.sum_cons, List.length_cons]
    omega
theorem go_lnum {c k : Int} {H : Hp} {Q : VK} {E : XK} (q : ∀ n : Int, Q (.int n) H) : sp_lnum [.int c, .int k] H Q E := ⟨c, k, rfl, q⟩
abbrev M.N_law : List Str := ["script", "cells", "x", "words", "k", "base", "due", "at", "passed", "told", "found", "cell"]
theorem sc_law : FnScope M.N_law ["script"] (defScope s_law) := ⟨rfl, rfl, rfl, by decide +kernel, rfl, by decide +kernel, by decide +kernel⟩
theorem ok_law (T : Tx P w K mg) {fd : FuncData} (F : FunD K "law" "law" (defArgs s_law) (defBody s_law) (defScope s_law) [] [] (He.ga K "law") fd) : FnOk P w K mg base CX0 13 (He.ga K "law") fd ["script"] (sp_law K) := by
  refine M.fn_mk F sc_law (by rintro vs H Q E ⟨a, b, rfl, _⟩; rfl) fun cdv A outer s H vs Q E hr h => ?_
  obtain ⟨a, ns, rfl, hS, hlen, k⟩ := h
  refine ⟨_, (pss_cons (ps_setLc (i := 1) (own := [("cell", 11)]) rfl sc_law.nd rfl rfl (sw_true rfl rfl rfl (by decide +kernel)) (pi_list (pv 0)) (blkOk_by (own := [("cell", 11)]) (N := M.N_law) (sc := defScope s_law) (by decide +kernel)) (fun _ _ _ _ _ => (pg_name (i := 11) sc_law.nd rfl (Or.inl rfl))) (fun _ _ _ _ _ => pts_nil) (fun _ _ _ _ _ => (pe_callTy M.call_int (by rfl) T.b_int (by decide +kernel) (pa_cons (pv 11) pa_nil)))) (pss_cons (ps_while PassesOwn.never (pt_cmpR op_lt (pe_callB M.call_len (by rfl) T.b_len (by decide +kernel) (pa_cons (pv 1) pa_nil)) pe_int (nomark _)) (pss_one (ps_expr (pe_bm PySem.F.plainAttrs_list PySem.F.slot_list_append PySem.F.type_list_append mt_append (pv 1) (pa_cons (pe_op op_add (pe_callB M.call_len (by rfl) T.b_len (by decide +kernel) (pa_cons (pv 1) pa_nil)) pe_int) pa_nil))))) (pss_cons (ps_set (i := 2) sc_law.nd rfl (Or.inl rfl) (C8.pe_c (ok__law_number T) hr (by decide) (by rfl) (pa_cons (pe_ix ix_list (pv 1) pe_int (fun _ _ => rfl)) (pa_cons pe_int pa_nil)))) (pss_cons (ps_set (i := 3) sc_law.nd rfl (Or.inl rfl) (pe_lst pa_nil)) (pss_cons (ps_for PassesOwn.never rfl (pi_range2 (by rfl) T.b_range (pa_cons pe_int (pa_cons (pe_callB M.call_len (by rfl) T.b_len (by decide +kernel) (pa_cons (pv 1) pa_nil)) pa_nil))) (pg_name (i := 4) sc_law.nd rfl (Or.inl rfl)) (pss_cons (ps_expr (pe_bm PySem.F.plainAttrs_list PySem.F.slot_list_append PySem.F.type_list_append mt_append (pv 3) (pa_cons (C8.pe_c (ok__law_any T) hr (by decide) (by rfl) (pa_cons (C8.pe_c (ok__law_number T) hr (by decide) (by rfl) (pa_cons (pe_ix ix_list (pv 1) (pv 4) (fun _ _ => rfl)) (pa_cons (pv 4) pa_nil))) pa_nil)) pa_nil))) (pss_one (ps_if (pt_cmpR op_ge (pe_ix ix_list (pv 1) (pv 4) (fun _ _ => rfl)) (pe_op op_pow pe_int pe_int) (nomark _)) (pss_one (ps_expr (pe_bm PySem.F.plainAttrs_list PySem.F.slot_list_append PySem.F.type_list_append mt_append (pv 3) (pa_cons (C8.pe_c (ok__law_any T) hr (by decide) (by rfl) (pa_cons (pe_op op_fdivW (pe_ix ix_list (pv 1) (pv 4) (fun _ _ => rfl)) (pe_op op_pow pe_int pe_int)) pa_nil)) pa_nil)))) pss_nil)))) (pss_cons (ps_set (i := 3) sc_law.nd rfl (Or.inl rfl) (pe_slice sl_list (pv 3) po_none (po_some pe_int))) (pss_cons (ps_set (i := 5) sc_law.nd rfl (Or.inl rfl) (pe_ix ix_list (pe_lst (pa_cons pe_int (pa_cons (pe_op op_sub pe_int (pe_callB M.call_len (by rfl) T.b_len (by decide +kernel) (pa_cons (pv 3) pa_nil))) (pa_cons (pe_op op_mod (pe_op op_fdiv (pv 2) pe_int) pe_int) pa_nil)))) (pe_op op_mod (pe_callTy M.call_int (by rfl) T.b_int (by decide +kernel) (pa_cons (pv 2) pa_nil)) pe_int) (fun _ _ => rfl))) (pss_cons (ps_set (i := 6) sc_law.nd rfl (Or.inl rfl) (pe_lst pa_nil)) (pss_cons (ps_set (i := 7) sc_law.nd rfl (Or.inl rfl) pe_int) (pss_cons (ps_while PassesOwn.never (pt_cmpR op_lt (pv 7) (pe_callB M.call_len (by rfl) T.b_len (by decide +kernel) (pa_cons (pv 3) pa_nil)) (nomark _)) (pss_cons (ps_expr (pe_bm PySem.F.plainAttrs_list PySem.F.slot_list_append PySem.F.type_list_append mt_append (pv 6) (pa_cons (C8.pe_c (ok__law_line T) hr (by decide) (by rfl) (pa_cons (pv 3) (pa_cons (pv 7) (pa_cons (pv 5) pa_nil)))) pa_nil))) (pss_one (ps_set (i := 7) sc_law.nd rfl (Or.inl rfl) (pe_op op_add (pe_op op_add (pv 7) pe_int) (pe_callTy M.call_int (by rfl) T.b_int (by decide +kernel) (pa_cons (pe_cmpR op_eq (pe_slice M.sl_str (pe_ix ix_list (pv 6) (pe_op op_sub (pe_callB M.call_len (by rfl) T.b_len (by decide +kernel) (pa_cons (pv 6) pa_nil)) pe_int) (fun _ _ => rfl)) po_none (po_some pe_int)) pe_str (nomark _)) pa_nil))))))) (pss_cons (ps_set (i := 8) sc_law.nd rfl (Or.inl rfl) (pe_callTy M.call_list (by rfl) T.b_list (by decide +kernel) (pa_cons (pv 3) pa_nil))) (pss_cons (ps_set (i := 9) sc_law.nd rfl (Or.inl rfl) (C8.pe_c (ok_listing T) hr (by decide) (by rfl) (pa_cons (pv 8) (pa_cons (pv 5) pa_nil)))) (pss_cons (ps_if (PW.pt (pw_or (pt_cmpR (op_neD hr.units) (pv 9) (pv 6) (nomark _)) (pw_or1 (pt_cmpR (op_neD hr.units) (pv 8) (pv 3) (nomark _))))) (pss_one (ps_ret pe_bl)) pss_nil) (C8.pss_cut (ps_if (PW.pt (pw_and (pt_cmpR op_eq (pv 5) pe_int (nomark _)) (pw_and1 (pt_cmpR (op_neD hr.units) (C8.pe_c (ok0_listing T) hr (by decide) (by rfl) (pa_cons (pv 8) pa_nil)) (pv 6) (nomark _))))) (pss_one (ps_ret pe_bl)) pss_nil) (pss_cons (ps_set (i := 10) sc_law.nd rfl (Or.inl rfl) (C8.pe_c (ok_assemble T) hr (by decide) (by rfl) (pa_cons (pe_join pe_str (pv 9)) (pa_cons (pv 5) pa_nil)))) (pss_one (ps_ret (pe_and (pe_cmpR (op_eqD hr.units) (pe_fld (pv 10) rfl) (pv 3) (nomark _)) (pe_one (pe_cmpR (M.op_eqDK hr.units0) (pe_fld (pv 10) rfl) pe_dnewK (nomark _))))))))))))))))))))), ?_⟩
  refine M.x_st (σ0 := [some _, none, none, none, none, none, none, none, none, none, none, none]) rfl ?_
  walk_at "kk"
  walk_at "go"
  refine M.x_lcL (fun Q q => by walk_at "go"; exact q) hS (by simp; omega) (ys := ns.map V.int) rfl (fun i x y H' hx hy e => ?_) (fun p H1 hp e1 h1 => ?_) (fun x σ H P P' => M.gName_mono x σ H P P')
  · obtain ⟨z, hz, rfl⟩ := M.map_int_get hx
    rw [hx] at hy
    cases hy
    refine ⟨rfl, rfl, fun R r => ?_⟩
    walk_at "go"
    exact r
  walk_at "go"
  refine M.x_while (fun m σ' H' => ∃ xs : List Int, σ' = [some (.ref a), some (.ref p), none, none, none, none, none, none, none, none, none, none] ∧ H' p = some (.lst (xs.map V.int)) ∧ xs.length ≤ 63 ∧ m = 70 - xs.length) (70 - ns.length) ⟨ns, rfl, h1, hlen, rfl⟩ ?_
  rintro m σ' H' ⟨xs, rfl, hp', xl, hm⟩
  walk_at "go"
  refine M.x_ifD (fun c1 => ?_) (fun c1 => ?_)
  · walk_at "go"
    refine M.x_append hp' (by rw [List.length_map]; omega) (fun H3 e3 h3 => ?_)
    walk_at "go"
    refine ⟨_, ?_, xs ++ [(xs.length : Int) + 6], rfl, ?_, ?_, rfl⟩
    · rw [List.length_append]; show 70 - (xs.length + 1) < m; omega
    · rw [h3, List.map_append]; rfl
    · rw [List.length_append]; show _ + 1 ≤ _; omega
  walk_at "go"
  refine go_lnum (fun n0 => ?_)
  walk_at "go"
  intro q H2 nq e2 h2
  have hp2 := e2 _ _ hp'
  have pq : p ≠ q := fun z => by rw [z, nq] at hp'; cases hp'
  walk_at "go"
  refine M.x_for2 (lo := 1) (n := (xs.length : Int)) (fun Q q => by walk_at "go"; exact q) (by omega) (fun i σ' H' => ∃ (v4 : Option V) (ws : List Int), σ' = [some (.ref a), some (.ref p), some (.int n0), some (.ref q), v4, none, none, none, none, none, none, none] ∧ H' p = some (.lst (xs.map V.int)) ∧ H' q = some (.lst (ws.map V.int)) ∧ (∀ x ∈ ws, 0 ≤ x ∧ x < 65536) ∧ i ≤ ws.length ∧ ws.length ≤ 2 * i)
    ⟨_, [], rfl, hp2, h2, fun x hx => absurd hx List.not_mem_nil, Nat.le_refl _, Nat.le_refl _⟩ ?_ ?_
  · rintro i σ' H' hi ⟨v4, ws, rfl, hp3, hq3, hw, hl1, hl2⟩
    have ai : atI (xs.map V.int) (1 + (i : Int)) = some (.int (xs.getD (i + 1) 0)) := M.atI_get (f := V.int) (by omega) (by rw [show (1 + (i : Int)).toNat = i + 1 by omega, List.getD_eq_getElem?_getD, List.getElem?_eq_getElem (by omega)]; rfl)
    walk_at "go"
    refine go_lnum (fun n1 => ?_)
    walk_at "go"
    refine go_lany (fun n2 H3 n3 n4 e3 => ?_)
    have hp4 := e3 _ _ hp3
    have hq4 := e3 _ _ hq3
    walk_at "go"
    refine M.x_append hq4 (by rw [List.length_map]; omega) (fun H4 e4 h4 => ?_)
    have h4 : H4 q = some (.lst ((ws ++ [n2]).map V.int)) := by rw [h4, List.map_append]; rfl
    have hp5 := e4.at1 pq hp4
    have hw2 : ∀ x ∈ ws ++ [n2], 0 ≤ x ∧ x < 65536 := fun x hx => (List.mem_append.mp hx).elim (hw x) fun h => by rw [List.mem_singleton.mp h]; exact ⟨n3, n4⟩
    walk_at "go"
    refine M.x_ifD (fun c2 => ?_) (fun c2 => ?_)
    · walk_at "go"
      refine go_lany (fun n5 H5 n6 n7 e5 => ?_)
      have hp6 := e5 _ _ hp5
      have hq6 := e5 _ _ h4
      walk_at "go"
      refine M.x_append hq6 (by rw [List.length_map, List.length_append]; show _ + 1 ≤ _; omega) (fun H6 e6 h6 => ?_)
      have h6 : H6 q = some (.lst ((ws ++ [n2] ++ [n5]).map V.int)) := by rw [h6]; exact congrArg (fun l => some (HO.lst l)) (List.map_append (l₁ := ws ++ [n2]) (l₂ := [n5]) (f := V.int)).symm
      walk_at "go"
      refine ⟨_, ws ++ [n2] ++ [n5], rfl, e6.at1 pq hp6, h6, fun x hx => (List.mem_append.mp hx).elim (hw2 x) fun h => by rw [List.mem_singleton.mp h]; exact ⟨n6, n7⟩, ?_, ?_⟩
      · rw [List.length_append, List.length_append]; show _ ≤ _ + 1 + 1; omega
      · rw [List.length_append, List.length_append]; show _ + 1 + 1 ≤ _; omega
    · walk_at "go"
      refine ⟨_, ws ++ [n2], rfl, hp5, h4, hw2, ?_, ?_⟩
      · rw [List.length_append]; show _ ≤ _ + 1; omega
      · rw [List.length_append]; show _ + 1 ≤ _; omega
  rintro σ' H' ⟨v4, ws0, rfl, hp3, hq3, hw0, hl1, hl2⟩
  walk_at "go"
  intro u H3 nu e3 h3
  rw [cut60] at h3
  obtain ⟨ws, hws⟩ : ∃ ws, ws0.take 60 = ws := ⟨_, rfl⟩
  have wl : 1 ≤ ws.length ∧ ws.length ≤ 60 := by rw [← hws, List.length_take]; omega
  have hwm : ∀ x ∈ ws, 0 ≤ x ∧ x < 65536 := fun x hx => hw0 x (List.mem_of_mem_take (by rw [hws]; exact hx))
  have hw : ∀ i < ws.length, 0 ≤ wat ws i ∧ wat ws i < 65536 := fun i hi => hwm _ (List.mem_of_getElem? (wat_ix hi))
  rw [hws] at h3
  walk_at "go"
  intro q4 H4 n4 e4 h4
  have h34 := e4 _ _ h3
  obtain ⟨b, hb, hb1⟩ : ∃ b : Int, atI [V.int 0, V.int (65536 - (ws.length : Int)), V.int (n0 / 3 % 60000)] (n0 % 3) = some (.int b) ∧ b + ws.length ≤ 65536 := by
    have c := (show n0 % 3 = 0 ∨ n0 % 3 = 1 ∨ n0 % 3 = 2 by omega)
    rcases c with c | c | c <;> rw [c]
    · exact ⟨0, rfl, by omega⟩
    · exact ⟨65536 - (ws.length : Int), rfl, by omega⟩
    · exact ⟨n0 / 3 % 60000, rfl, by omega⟩
  walk_at "go"
  intro d H5 nd e5 h5
  have h35 := e5 _ _ h34
  walk_at "go"
  refine M.x_while (fun m σ' H' => ∃ (i : Nat) (pre : List Nat), σ' = [some (.ref a), some (.ref p), some (.int n0), some (.ref u), v4, some (.int b), some (.ref d), some (.int i), none, none, none, none] ∧ Same H4 H' ∧ H' d = some (.lst (pre.map fun j => V.str (S (lnTx ws b j)))) ∧ pre.length ≤ i ∧ i ≤ ws.length + 1 ∧ pre ++ atsF ws i = atsF ws 0 ∧ m = ws.length + 2 - i)
    (ws.length + 2) ⟨0, [], rfl, e5, h5, Nat.le_refl _, Nat.zero_le _, rfl, rfl⟩ ?_
  rintro m2 σ' H6 ⟨i, pre, rfl, ex, hd, pl, il, hpre, hm2⟩
  have h36 := ex _ _ h34
  walk_at "go"
  refine M.x_ifD (fun c2 => ?_) (fun c2 => ?_)
  · have c2 : i < ws.length := by omega
    have hp' : (pre ++ [i]) ++ atsF ws (i + lnSz ws i) = atsF ws 0 := by rw [← hpre, atsF_go c2, List.append_assoc]; rfl
    have ls := lnSz_pos ws i
    obtain ⟨-, -, -, w4⟩ := line_w (b := b) c2 hw
    walk_at "go"
    refine go_lline h36 (by omega) c2 hw (fun H7 e7 => ?_)
    have hd7 := e7 _ _ hd
    walk_at "go"
    refine M.x_append hd7 (by rw [List.length_map]; omega) (fun H8 e8 h8 => ?_)
    have h8 : H8 d = some (.lst ((pre ++ [i]).map fun j => V.str (S (lnTx ws b j)))) := by rw [h8, List.map_append]; rfl
    have e48 : Same H4 H8 := fun b o hb => e8.at1 (fun z => by rw [z, nd] at hb; cases hb) (e7 _ _ (ex _ _ hb))
    have ai : atI ((pre ++ [i]).map fun j => V.str (S (lnTx ws b j))) ((((pre ++ [i]).map fun j => V.str (S (lnTx ws b j))).length : Int) - 1) = some (.str (S (lnTx ws b i))) := by
      rw [List.length_map, List.length_append, List.length_singleton]
      refine M.atI_of (v := V.str _) (by omega) ?_
      rw [show (((pre.length + 1 : Nat) : Int) - 1).toNat = pre.length by omega, List.getElem?_map, List.getElem?_append_right (Nat.le_refl _), Nat.sub_self]
      rfl
    obtain ⟨tl, -⟩ := ln_tx (b := b) c2 hw
    walk_at "go"
    refine M.x_slTo (l := lnTx ws b i) (j := 4) (by omega) ?_
    walk_at "go"
    have eI : (i : Int) + 1 + (if decide (S ((lnTx ws b i).take 4) = Str.ofString "set ") = true then (1 : Int) else 0) = ((i + lnSz ws i : Nat) : Int) := by
      have s4 := set4 (ws := ws) (b := b) (i := i)
      by_cases z : (lnTx ws b i).take 4 = [115, 101, 116, 32]
      · rw [z, if_pos (by decide), s4.mp z]; omega
      · have hn : ¬ (decide (S ((lnTx ws b i).take 4) = Str.ofString "set ") = true) := fun q => z (S_inj (show S _ = S [115, 101, 116, 32] from of_decide_eq_true q))
        rw [if_neg hn]
        have : lnSz ws i ≠ 2 := fun q => z (s4.mpr q)
        omega
    rw [eI]
    exact ⟨_, by omega, i + lnSz ws i, pre ++ [i], rfl, e48, h8, by rw [List.length_append]; show _ + 1 ≤ _; omega, by omega, hp', rfl⟩
  rw [atsF_end (by omega), List.append_nil] at hpre
  rw [hpre] at hd
  have hd : H6 d = some (.lst ((lnsL ws b).map fun y => V.str (S y))) := by rw [hd]; unfold lnsL; rw [List.map_map]; rfl
  walk_at "go"
  intro ps H7 nps e7 h7
  walk_at "go"
  refine go_listing h7 (by omega) hw (fun tl H8 ntl e8 h8 => ?_)
  have eD : ∀ l : List (List Nat), (l.map fun y => V.str (S y)) = (l.map S).map V.str := fun l => by rw [List.map_map]; rfl
  have shD : M.ShN 1 (.list (((lnsL ws b).map S).map PyData.str)) := M.ShN.list fun d hd => by
    obtain ⟨z, hz, rfl⟩ := List.mem_map.mp hd
    obtain ⟨y, hy, rfl⟩ := List.mem_map.mp hz
    have hj : ∃ j, j < ws.length ∧ y = lnTx ws b j := by
      unfold lnsL at hy
      obtain ⟨j, hj, rfl⟩ := List.mem_map.mp hy
      exact ⟨j, (lines_all (b := b) hw ws.length 0 (Nat.le_refl _) (Nat.zero_le _)).2.2.2.2 j hj, rfl⟩
    obtain ⟨j, jl, rfl⟩ := hj
    refine ⟨?_, by simp [PyData.depth]⟩
    simp only [PyData.canLay0]
    exact strOk_S fun c hc => (ln_chr jl hw c hc)
  have dpD : ∀ {r : Addr} {H : Hp} {l : List (List Nat)}, H r = some (.lst (l.map fun y => V.str (S y))) → Dp K H (.ref r) (.list ((l.map S).map PyData.str)) := fun {r H l} h => .lst (SqL.of h) (by rw [eD]; exact M.DpAll.strs _)
  have hd8 := e8 _ _ (e7 _ _ hd)
  have h78 := e8 _ _ h7
  have h38 := e8 _ _ (e7 _ _ h36)
  walk_at "go"
  refine M.x_neS' (dpD h8) (dpD hd8) shD ?_
  walk_at "go"
  refine M.x_neS' (M.Dp.li (SqL.of h78)) (M.Dp.li (SqL.of h38)) (M.ShN.ints (n := 0) _) ?_
  obtain ⟨tk1, tk2, tk3⟩ := text_ok (b := b) hw wl.1 (by omega) hb1
  have ln1000 : (lnsL ws b).length ≤ 1000 := by rw [← tk3, List.length_map]; exact tk1.n
  have tail : ∀ (H9 : Hp), Same H8 H9 → True := fun _ _ => trivial
  walk_at "go"
  refine M.x_cut (fun σ' H9 => σ' = [some (.ref a), some (.ref p), some (.int n0), some (.ref u), v4, some (.int b), some (.ref d), some (.int i), some (.ref ps), some (.ref tl), none, none] ∧ Same H8 H9) ?_ ?_
  · walk_at "go"
    refine M.x_ifD (fun c3 => ?_) (fun c3 => ?_)
    · subst c3
      walk_at "go"
      unfold tCall
      walk_at "go"
      refine go_listing h78 (by omega) hw (fun tl2 H9 nt2 e9 h9 => ?_)
      walk_at "go"
      refine M.x_neS' (dpD h9) (dpD (e9 _ _ hd8)) shD ?_
      walk_at "go"
      exact ⟨rfl, e9⟩
    · walk_at "go"
      exact ⟨rfl, Same.refl _⟩
  rintro σ' H9 ⟨rfl, e9⟩
  have h9 := e9 _ _ h8
  have h39 := e9 _ _ h38
  walk_at "go"
  have tq := tk1.l
  refine ⟨Str.ofString "\n", tl, (lnsL ws b).map S, rfl, rfl, .inl (.inl (.inl ?_)), ?_, ?_⟩
  · rw [List.map_map]; exact h9
  · rw [SX.lens, List.length_map]
    have : ((lnsL ws b).map List.length).sum ≤ 40 * (lnsL ws b).length := sum_le40 _ fun y hy => by
      unfold lnsL at hy
      obtain ⟨j, hj, rfl⟩ := List.mem_map.mp hy
      exact (ln_tx ((lines_all (b := b) hw ws.length 0 (Nat.le_refl _) (Nat.zero_le _)).2.2.2.2 j hj) hw).1
    have h2 : ((lnsL ws b).map List.length).sum + (lnsL ws b).length * 1 ≤ 16777216 := by omega
    exact h2
  rw [show Str.ofString "\n" = S [10] from rfl, SX.join_S]
  rw [← tk3]
  walk_at "go"
  refine go_assemble tk1 (fun r H10 nr e10 ay => ?_)
  rw [tk2] at ay
  obtain ⟨dx, q5, d5, a1, a2, a3⟩ := ay.ex
  have h3a := e10 _ _ h39
  walk_at "go"
  refine M.x_eqS' (M.Dp.li (SqL.of a2)) (M.Dp.li (SqL.of h3a)) (M.ShN.ints (n := 0) _) ?_
  walk_at "go"
  intro e H11 ne e11 h11
  exact ⟨d5, e, [], rfl, rfl, e11 _ _ a3, h11, List.nodup_nil, fun p h => absurd h List.not_mem_nil, k _⟩
end asm20

end
end
end K15
open PySem PySem.W PySem.Calls PyProof.Rows
set_option maxHeartbeats 0 in
theorem PySem.Challenge.cw_merestone_k15_listings_read_back_holds : PySem.Challenge.rw_merestone_k15_listings_read_back.Holds := by
  w_on; o_law
  refine HandSHeadRun.head_any (r := OpenLaw.row PySem.Challenge.rw_merestone_k15_listings_read_back) (q := view (OpenLaw.row PySem.Challenge.rw_merestone_k15_listings_read_back).prog [68]) (H := K15.hk) (ob := K15.ob) (M := 40000) (loose := K15.names) (d := HandSHeadRun.topDef (OpenLaw.row PySem.Challenge.rw_merestone_k15_listings_read_back).prog 68) (kwd := []) K15.ob_eq
    (by kernel_rfl) (fun s => by kernel_rfl) K15.run (by kernel_rfl) (by kernel_rfl) (by kernel_rfl) (by rfl) (by first | assumption | decide +kernel) (by decide +kernel) ⟨rfl, rfl, rfl, rfl, rfl, by decide +kernel⟩ ?hw ?hc
  case hw => w_witness2
  case hc =>
    refine M.walk_end (l := PySem.Challenge.rw_merestone_k15_listings_read_back) (n := 63) (k := 13) (x := "script") (CX := fun _ => L2.CX0) rfl (by decide) (by kernel_rfl) ⟨rfl, by decide, by decide⟩ ?F (fun _ _ _ _ _ z => z)
    intro w mg fa h Y G hmg0
    obtain ⟨K, KX, c⟩ := Y
    have hmg : mg ("law" : PySem.Str) = some (.ref fa) := by
      have e : (HandSHeadRun.topDef (OpenLaw.row PySem.Challenge.rw_merestone_k15_listings_read_back).prog 68).name = ("law" : PySem.Str) := by kernel_rfl
      rw [← e]
      exact hmg0
    have T := K15.tx_mk KX G c
    have e := hmg.symm.trans T.g_law
    cases e
    obtain ⟨fd, F⟩ := T.f_law
    exact ⟨K, fd, K15.sp_law K, KX, fun s u => L2.FunD.bindsA (ps := ["script"]) F (fun _ _ _ _ _ _ us hl => match us, hl with | [_], _ => rfl) s [u] rfl, fun H a ns hl _ hS => ⟨a, ns, rfl, hS, hl, fun _ => rfl⟩, fun base KB GB => K15.ok_law T F⟩
